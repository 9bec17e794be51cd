import PyProof.Rows.All
import Wide.All
import OpenK.AllK
import Wide.FinOn
import KE.KStateDown
import Lean
import HandS.Base
import HandS.Call
import HandS.Ends
import HandS.More
import HandS.Words
import HandS.WordsExc
import HandS.Defaults
import HandS.Head0
import HandS.Head1
import HandS.Head2
import HandS.HeadEnd
import HandS.HeadHook1
import HandS.HeadHook2
import HandS.HeadHook3
import HandS.HeadHook4
import PySem.Challenge.RW_glowrow_k20_whole_slips
import HandS.ForMost
import HandS.IsInst
import HandS.Codes
import HandS.TupAny
import HandS.Conv
import HandS.SetKeys
import HandS.SortRule
import HandS.WideBits
import HandS.Walk
import HandS.Style
import KE.GoesMore
import PyProof.EnumMake
import KE.DataMinMax
import HandS.RaiseOp
import PyProof.DictMoreH
import KE.DatumOrd
import KE.KEqSeq
import PyProof.EqLayable
set_option Elab.async false
set_option linter.all false
set_option maxRecDepth 100000
set_option maxHeartbeats 0
namespace Gw
open PySem PySem.Spec PyProof.Rows L2

def top (i : Nat) : Stmt := PySem.Challenge.pw_glowrow_k20_whole_slips.main.body.getD i (.Pass ⟨0, 0, 0, 0⟩)
abbrev s_is_whole : Stmt := top 13
abbrev s_is_frame : Stmt := top 14
abbrev s_need_frame : Stmt := top 15
abbrev s_ticks_of : Stmt := top 16
abbrev s_place_of : Stmt := top 17
abbrev s_are_inks : Stmt := top 21
abbrev s_are_rows : Stmt := top 22
abbrev s_is_shape : Stmt := top 23
abbrev s_strip_of : Stmt := top 24
abbrev s_lying_on : Stmt := top 26
abbrev s_kept_on : Stmt := top 27
abbrev s_lost_on : Stmt := top 28
abbrev s_floor_strip : Stmt := top 29
abbrev s_taken : Stmt := top 30
abbrev s_covering : Stmt := top 31
abbrev s_ink_at : Stmt := top 32
abbrev s_is_place : Stmt := top 40
abbrev s_is_number_in : Stmt := top 41
abbrev s_is_mover : Stmt := top 42
abbrev s_are_pots : Stmt := top 43
abbrev s_is_stand : Stmt := top 44
abbrev s_need_stand : Stmt := top 45
abbrev s_is_deed : Stmt := top 46
abbrev s_put_in : Stmt := top 47
abbrev s_mover_behind : Stmt := top 48
abbrev s_stand_behind : Stmt := top 49
abbrev s_init : Stmt := inClass (top 51) 0
abbrev s_tick : Stmt := inClass (top 51) 1
abbrev s_is_over : Stmt := inClass (top 51) 3
abbrev s_deed : Stmt := inClass (top 51) 4
abbrev s_go : Stmt := inClass (top 51) 5
abbrev s_one_tick : Stmt := inClass (top 51) 6
abbrev s_note_touches : Stmt := inClass (top 51) 7
abbrev s_picture : Stmt := inClass (top 51) 8
abbrev s_need_times : Stmt := top 53
abbrev s_laid : Stmt := top 54
abbrev s_slips : Stmt := top 55
abbrev s_law_draw : Stmt := top 57
abbrev s_law_size : Stmt := top 58
abbrev s_law_frame : Stmt := top 59
abbrev s_law_inks : Stmt := top 60
abbrev s_law_inked : Stmt := top 61
abbrev s_law_far : Stmt := top 62
abbrev s_law_mover : Stmt := top 63
abbrev s_law_stand : Stmt := top 64
abbrev s_law_deed : Stmt := top 65
abbrev s_law_timed : Stmt := top 66
abbrev s_law_behind : Stmt := top 67
abbrev s_law_strip : Stmt := top 68
abbrev s_law_lying : Stmt := top 69
abbrev s_law_taken : Stmt := top 70
abbrev s_law_cover : Stmt := top 71
abbrev s_law_ink : Stmt := top 72
abbrev s_law_laid : Stmt := top 73
abbrev s_law : Stmt := top 74
def d_is_whole : He.DefD := ⟨("is_whole", none), "is_whole", "is_whole", defArgs s_is_whole, defBody s_is_whole, defScope s_is_whole, [], []⟩
def d_is_frame : He.DefD := ⟨("is_frame", none), "is_frame", "is_frame", defArgs s_is_frame, defBody s_is_frame, defScope s_is_frame, [], []⟩
def d_need_frame : He.DefD := ⟨("need_frame", none), "need_frame", "need_frame", defArgs s_need_frame, defBody s_need_frame, defScope s_need_frame, [], []⟩
def d_ticks_of : He.DefD := ⟨("ticks_of", none), "ticks_of", "ticks_of", defArgs s_ticks_of, defBody s_ticks_of, defScope s_ticks_of, [], []⟩
def d_place_of : He.DefD := ⟨("place_of", none), "place_of", "place_of", defArgs s_place_of, defBody s_place_of, defScope s_place_of, [], []⟩
def d_are_inks : He.DefD := ⟨("are_inks", none), "are_inks", "are_inks", defArgs s_are_inks, defBody s_are_inks, defScope s_are_inks, [], []⟩
def d_are_rows : He.DefD := ⟨("are_rows", none), "are_rows", "are_rows", defArgs s_are_rows, defBody s_are_rows, defScope s_are_rows, [], []⟩
def d_is_shape : He.DefD := ⟨("is_shape", none), "is_shape", "is_shape", defArgs s_is_shape, defBody s_is_shape, defScope s_is_shape, [], []⟩
def d_strip_of : He.DefD := ⟨("strip_of", none), "strip_of", "strip_of", defArgs s_strip_of, defBody s_strip_of, defScope s_strip_of, [], []⟩
def d_lying_on : He.DefD := ⟨("lying_on", none), "lying_on", "lying_on", defArgs s_lying_on, defBody s_lying_on, defScope s_lying_on, [], []⟩
def d_kept_on : He.DefD := ⟨("kept_on", none), "kept_on", "kept_on", defArgs s_kept_on, defBody s_kept_on, defScope s_kept_on, [], []⟩
def d_lost_on : He.DefD := ⟨("lost_on", none), "lost_on", "lost_on", defArgs s_lost_on, defBody s_lost_on, defScope s_lost_on, [], []⟩
def d_floor_strip : He.DefD := ⟨("floor_strip", none), "floor_strip", "floor_strip", defArgs s_floor_strip, defBody s_floor_strip, defScope s_floor_strip, [], []⟩
def d_taken : He.DefD := ⟨("taken", none), "taken", "taken", defArgs s_taken, defBody s_taken, defScope s_taken, [], []⟩
def d_covering : He.DefD := ⟨("covering", none), "covering", "covering", defArgs s_covering, defBody s_covering, defScope s_covering, [], []⟩
def d_ink_at : He.DefD := ⟨("ink_at", none), "ink_at", "ink_at", defArgs s_ink_at, defBody s_ink_at, defScope s_ink_at, [], []⟩
def d_is_place : He.DefD := ⟨("is_place", none), "is_place", "is_place", defArgs s_is_place, defBody s_is_place, defScope s_is_place, [], []⟩
def d_is_number_in : He.DefD := ⟨("is_number_in", none), "is_number_in", "is_number_in", defArgs s_is_number_in, defBody s_is_number_in, defScope s_is_number_in, [], []⟩
def d_is_mover : He.DefD := ⟨("is_mover", none), "is_mover", "is_mover", defArgs s_is_mover, defBody s_is_mover, defScope s_is_mover, [], []⟩
def d_are_pots : He.DefD := ⟨("are_pots", none), "are_pots", "are_pots", defArgs s_are_pots, defBody s_are_pots, defScope s_are_pots, [], []⟩
def d_is_stand : He.DefD := ⟨("is_stand", none), "is_stand", "is_stand", defArgs s_is_stand, defBody s_is_stand, defScope s_is_stand, [], []⟩
def d_need_stand : He.DefD := ⟨("need_stand", none), "need_stand", "need_stand", defArgs s_need_stand, defBody s_need_stand, defScope s_need_stand, [], []⟩
def d_is_deed : He.DefD := ⟨("is_deed", none), "is_deed", "is_deed", defArgs s_is_deed, defBody s_is_deed, defScope s_is_deed, [], []⟩
def d_put_in : He.DefD := ⟨("put_in", none), "put_in", "put_in", defArgs s_put_in, defBody s_put_in, defScope s_put_in, [], []⟩
def d_mover_behind : He.DefD := ⟨("mover_behind", none), "mover_behind", "mover_behind", defArgs s_mover_behind, defBody s_mover_behind, defScope s_mover_behind, [], []⟩
def d_stand_behind : He.DefD := ⟨("stand_behind", none), "stand_behind", "stand_behind", defArgs s_stand_behind, defBody s_stand_behind, defScope s_stand_behind, [], []⟩
def d_init : He.DefD := ⟨("Beam", some "__init__"), "__init__", "Beam.__init__", defArgs s_init, defBody s_init, defScope s_init, [], []⟩
def d_tick : He.DefD := ⟨("Beam", some "tick"), "tick", "Beam.tick", defArgs s_tick, defBody s_tick, defScope s_tick, [], []⟩
def d_is_over : He.DefD := ⟨("Beam", some "is_over"), "is_over", "Beam.is_over", defArgs s_is_over, defBody s_is_over, defScope s_is_over, [], []⟩
def d_deed : He.DefD := ⟨("Beam", some "deed"), "deed", "Beam.deed", defArgs s_deed, defBody s_deed, defScope s_deed, [], []⟩
def d_go : He.DefD := ⟨("Beam", some "go"), "go", "Beam.go", defArgs s_go, defBody s_go, defScope s_go, [], []⟩
def d_one_tick : He.DefD := ⟨("Beam", some "one_tick"), "one_tick", "Beam.one_tick", defArgs s_one_tick, defBody s_one_tick, defScope s_one_tick, [], []⟩
def d_note_touches : He.DefD := ⟨("Beam", some "note_touches"), "note_touches", "Beam.note_touches", defArgs s_note_touches, defBody s_note_touches, defScope s_note_touches, [], []⟩
def d_picture : He.DefD := ⟨("Beam", some "picture"), "picture", "Beam.picture", defArgs s_picture, defBody s_picture, defScope s_picture, [], []⟩
def d_need_times : He.DefD := ⟨("need_times", none), "need_times", "need_times", defArgs s_need_times, defBody s_need_times, defScope s_need_times, [], []⟩
def d_laid : He.DefD := ⟨("laid", none), "laid", "laid", defArgs s_laid, defBody s_laid, defScope s_laid, [], []⟩
def d_slips : He.DefD := ⟨("slips", none), "slips", "slips", defArgs s_slips, defBody s_slips, defScope s_slips, [], []⟩
def d_law_draw : He.DefD := ⟨("_law_draw", none), "_law_draw", "_law_draw", defArgs s_law_draw, defBody s_law_draw, defScope s_law_draw, [], []⟩
def d_law_size : He.DefD := ⟨("_law_size", none), "_law_size", "_law_size", defArgs s_law_size, defBody s_law_size, defScope s_law_size, [], []⟩
def d_law_frame : He.DefD := ⟨("_law_frame", none), "_law_frame", "_law_frame", defArgs s_law_frame, defBody s_law_frame, defScope s_law_frame, [], []⟩
def d_law_inks : He.DefD := ⟨("_law_inks", none), "_law_inks", "_law_inks", defArgs s_law_inks, defBody s_law_inks, defScope s_law_inks, [], []⟩
def d_law_inked : He.DefD := ⟨("_law_inked", none), "_law_inked", "_law_inked", defArgs s_law_inked, defBody s_law_inked, defScope s_law_inked, [], []⟩
def d_law_far : He.DefD := ⟨("_law_far", none), "_law_far", "_law_far", defArgs s_law_far, defBody s_law_far, defScope s_law_far, [], []⟩
def d_law_mover : He.DefD := ⟨("_law_mover", none), "_law_mover", "_law_mover", defArgs s_law_mover, defBody s_law_mover, defScope s_law_mover, [], []⟩
def d_law_stand : He.DefD := ⟨("_law_stand", none), "_law_stand", "_law_stand", defArgs s_law_stand, defBody s_law_stand, defScope s_law_stand, [], []⟩
def d_law_deed : He.DefD := ⟨("_law_deed", none), "_law_deed", "_law_deed", defArgs s_law_deed, defBody s_law_deed, defScope s_law_deed, [], []⟩
def d_law_timed : He.DefD := ⟨("_law_timed", none), "_law_timed", "_law_timed", defArgs s_law_timed, defBody s_law_timed, defScope s_law_timed, [], []⟩
def d_law_behind : He.DefD := ⟨("_law_behind", none), "_law_behind", "_law_behind", defArgs s_law_behind, defBody s_law_behind, defScope s_law_behind, [], []⟩
def d_law_strip : He.DefD := ⟨("_law_strip", none), "_law_strip", "_law_strip", defArgs s_law_strip, defBody s_law_strip, defScope s_law_strip, [], []⟩
def d_law_lying : He.DefD := ⟨("_law_lying", none), "_law_lying", "_law_lying", defArgs s_law_lying, defBody s_law_lying, defScope s_law_lying, [], []⟩
def d_law_taken : He.DefD := ⟨("_law_taken", none), "_law_taken", "_law_taken", defArgs s_law_taken, defBody s_law_taken, defScope s_law_taken, [], []⟩
def d_law_cover : He.DefD := ⟨("_law_cover", none), "_law_cover", "_law_cover", defArgs s_law_cover, defBody s_law_cover, defScope s_law_cover, [], []⟩
def d_law_ink : He.DefD := ⟨("_law_ink", none), "_law_ink", "_law_ink", defArgs s_law_ink, defBody s_law_ink, defScope s_law_ink, [], []⟩
def d_law_laid : He.DefD := ⟨("_law_laid", none), "_law_laid", "_law_laid", defArgs s_law_laid, defBody s_law_laid, defScope s_law_laid, [], []⟩
def d_law : He.DefD := ⟨("law", none), "law", "law", defArgs s_law, defBody s_law, defScope s_law, [], []⟩
def fnl : List He.DefD := [d_is_whole, d_is_frame, d_need_frame, d_ticks_of, d_place_of, d_are_inks, d_are_rows, d_is_shape, d_strip_of, d_lying_on, d_kept_on, d_lost_on, d_floor_strip, d_taken, d_covering, d_ink_at, d_is_place, d_is_number_in, d_is_mover, d_are_pots, d_is_stand, d_need_stand, d_is_deed, d_put_in, d_mover_behind, d_stand_behind, d_init, d_tick, d_is_over, d_deed, d_go, d_one_tick, d_note_touches, d_picture, d_need_times, d_laid, d_slips, d_law_draw, d_law_size, d_law_frame, d_law_inks, d_law_inked, d_law_far, d_law_mover, d_law_stand, d_law_deed, d_law_timed, d_law_behind, d_law_strip, d_law_lying, d_law_taken, d_law_cover, d_law_ink, d_law_laid, d_law]
def fac : List He.Fa := [.glo "is_whole",
  .glo "is_frame",
  .glo "need_frame",
  .glo "ticks_of",
  .glo "place_of",
  .glo "are_inks",
  .glo "are_rows",
  .glo "is_shape",
  .glo "strip_of",
  .glo "lying_on",
  .glo "kept_on",
  .glo "lost_on",
  .glo "floor_strip",
  .glo "taken",
  .glo "covering",
  .glo "ink_at",
  .glo "is_place",
  .glo "is_number_in",
  .glo "is_mover",
  .glo "are_pots",
  .glo "is_stand",
  .glo "need_stand",
  .glo "is_deed",
  .glo "put_in",
  .glo "mover_behind",
  .glo "stand_behind",
  .glo "need_times",
  .glo "laid",
  .glo "slips",
  .glo "_law_draw",
  .glo "_law_size",
  .glo "_law_frame",
  .glo "_law_inks",
  .glo "_law_inked",
  .glo "_law_far",
  .glo "_law_mover",
  .glo "_law_stand",
  .glo "_law_deed",
  .glo "_law_timed",
  .glo "_law_behind",
  .glo "_law_strip",
  .glo "_law_lying",
  .glo "_law_taken",
  .glo "_law_cover",
  .glo "_law_ink",
  .glo "_law_laid",
  .glo "law",
  .glo "Beam",
  .cls "Beam",
  .mkr "Beam",
  .glo "DEED_PARTS",
  .free "isinstance",
  .free "len",
  .free "int",
  .free "bool",
  .free "tuple",
  .free "str",
  .free "all",
  .free "enumerate",
  .free "range",
  .free "list",
  .free "divmod",
  .free "sorted",
  .free "max",
  .free "min",
  .int "MOST_WIDE" 40,
  .int "MOST_HIGH" 40,
  .int "MOST_GAP" 20,
  .int "MOST_KEPT" 12,
  .int "INKS" 16,
  .int "MOST_SIDE" 8,
  .int "FLOOR_SIDE" 16,
  .int "MOST_SHAPES" 8,
  .int "MOST_MOVERS" 12,
  .int "HUES" 64,
  .int "FAR" 1000,
  .noat "Beam" "frame",
  .noat "Beam" "now",
  .noat "Beam" "gone",
  .noat "Beam" "row_taken",
  .noat "Beam" "laid_rows",
  .noat "Beam" "met",
  .noat "Beam" "grounded",
  .noat "Beam" "lost_ones",
  .meth "Beam" "tick",
  .meth "Beam" "is_over",
  .meth "Beam" "deed",
  .meth "Beam" "go",
  .meth "Beam" "one_tick",
  .meth "Beam" "note_touches",
  .meth "Beam" "picture"]
abbrev R : PySem.W.OpenRow := PySem.W.OpenLaw.row PySem.Challenge.rw_glowrow_k20_whole_slips
def tab : List He.Tab := [(fun K => He.ga K "DEED_PARTS", ["shift", "move", "shape", "rank", "turn", "pot"])]
def exx (K : PySem.W.Frag) : Bool := He.valsB K (He.ga K "DEED_PARTS") [("shift", .int 3), ("move", .int 4), ("shape", .int 3), ("rank", .int 3), ("turn", .int 3), ("pot", .int 3)]
/-- what stands at these addresses -/
def obsY (as : List Addr) (fa : List He.Fa) (fn : List He.DefD) (ts : List He.Tab) (ex : PySem.W.Frag → Bool) (g : Addr → Option Obj) : He.AlX := (He.obsT fa fn ts (He.frG g as), ex (He.frG g as))
def SaysY (fa : List He.Fa) (fn : List He.DefD) (ts : List He.Tab) (ex : PySem.W.Frag → Bool) (w : World) (K : PySem.W.Frag) : Prop := He.SaysT fa fn ts w K ∧ ex K = true
def hookY (as : List Addr) (fa : List He.Fa) (fn : List He.DefD) (ts : List He.Tab) (ex : PySem.W.Frag → Bool) : PySem.W.Hook where
  α := He.AlX
  obs := fun s => obsY as fa fn ts ex s.heap.get?
  val := fun w => He.valX fn ts w
  says := fun w h => ∃ K : PySem.W.Frag, K.In h ∧ SaysY fa fn ts ex w K
  of := fun w s e => ⟨He.frG s.heap.get? as, He.frG_in, congrArg (fun z : He.AlX => z.1) e, congrArg (fun z : He.AlX => z.2) e⟩
  keeps := fun _ _ _ ⟨K, hK, c⟩ k => ⟨K, PySem.W.Frag.In.keeps hK k, c⟩
abbrev adrs : List Addr := List.range 1000
abbrev hk : PySem.W.Hook := hookY adrs fac fnl tab exx
def ob (s : PySem.W.SharedT) : He.AlX := obsY adrs fac fnl tab exx (HandSHeadRun.getT s)
theorem ob_eq (s : PySem.W.SharedT) : ob s = hk.obs s.abs := by
  have e : HandSHeadRun.getT s = s.abs.heap.get? := funext (HandSHeadRun.getT_eq s)
  show obsY adrs fac fnl tab exx (HandSHeadRun.getT s) = obsY adrs fac fnl tab exx s.abs.heap.get?
  rw [e]
def lo0 : List PySem.Str := ["_wall", "GlowError", "NoFrame", "NoStand", "NoTick", "NoDeed", "Over", "MOST_WIDE", "MOST_HIGH", "MOST_GAP", "MOST_KEPT", "is_whole", "is_frame", "need_frame", "ticks_of", "place_of", "INKS", "MOST_SIDE", "are_inks", "are_rows", "is_shape", "strip_of", "lying_on", "kept_on", "lost_on", "floor_strip", "taken", "covering", "ink_at", "FLOOR_SIDE"]
def lo1 : List PySem.Str := ["MOST_SHAPES", "MOST_MOVERS", "HUES", "FAR", "DEED_PARTS", "is_place", "is_number_in", "is_mover", "are_pots", "is_stand", "need_stand", "is_deed", "put_in", "mover_behind", "stand_behind", "Beam", "need_times", "laid", "slips", "_law_draw", "_law_size", "_law_frame", "_law_inks", "_law_inked", "_law_far", "_law_mover", "_law_stand", "_law_deed", "_law_timed", "_law_behind"]
def lo2 : List PySem.Str := ["_law_strip", "_law_lying", "_law_taken", "_law_cover", "_law_ink", "_law_laid"]
def loo : List PySem.Str := lo0 ++ lo1 ++ lo2
abbrev vw : Program := PySem.W.view R.prog [74]
end Gw
set_option maxRecDepth 100000
set_option maxHeartbeats 0
namespace Gw
open PySem PySem.W
theorem run_f (w : World) : HandSHeadRun.RunEq R vw hk ob 4000 loo (w.withFollow "special-get-raises" false) := by
  intro os
  kernel_rfl
theorem run_t (w : World) : HandSHeadRun.RunEq R vw hk ob 4000 loo (w.withFollow "special-get-raises" true) := by
  intro os
  kernel_rfl
theorem run (w : World) : HandSHeadRun.RunEq R vw hk ob 4000 loo w := byRow2 "special-get-raises" (P := fun w => HandSHeadRun.RunEq R vw hk ob 4000 loo w) run_f run_t w
end Gw
set_option Elab.async false
set_option linter.all false
set_option maxRecDepth 100000
set_option maxHeartbeats 4000000
/-! A data-level logic over the layer: what an expression, a test, a statement does is told by immutable data (PyData) alone; the heap is hidden. -/
namespace Gw
open PySem PySem.Spec PyProof.Rows L2

mutual
/-- immutable data at a value -/
inductive Tp (H : Hp) : V → PyData → Prop
  | non : Tp H .non .none
  | bl (b : Bool) : Tp H (.bl b) (.bool b)
  | int (i : Int) : Tp H (.int i) (.int i)
  | str (x : Str) : Tp H (.str x) (.str x)
  | tup {a : Addr} {xs : List V} {ds : List PyData} : H a = some (.tup xs) → TpA H xs ds → Tp H (.ref a) (.tuple ds)
inductive TpA (H : Hp) : List V → List PyData → Prop
  | nil : TpA H [] []
  | cons {v : V} {vs : List V} {d : PyData} {ds : List PyData} : Tp H v d → TpA H vs ds → TpA H (v :: vs) (d :: ds)
end
mutual
theorem Tp.mono {H H' : Hp} (h : ∀ a xs, H a = some (.tup xs) → H' a = some (.tup xs)) : ∀ {v : V} {d : PyData}, Tp H v d → Tp H' v d
  | _, _, .non => .non
  | _, _, .bl b => .bl b
  | _, _, .int i => .int i
  | _, _, .str x => .str x
  | _, _, .tup e r => .tup (h _ _ e) (TpA.mono h r)
theorem TpA.mono {H H' : Hp} (h : ∀ a xs, H a = some (.tup xs) → H' a = some (.tup xs)) : ∀ {vs : List V} {ds : List PyData}, TpA H vs ds → TpA H' vs ds
  | _, _, .nil => .nil
  | _, _, .cons a r => .cons (Tp.mono h a) (TpA.mono h r)
end
mutual
theorem Tp.dp {K : PySem.W.Frag} {H : Hp} : ∀ {v : V} {d : PyData}, Tp H v d → Dp K H v d
  | _, _, .non => .non
  | _, _, .bl b => .bl b
  | _, _, .int i => .int i
  | _, _, .str x => .str x
  | _, _, .tup e r => .tup (SqT.of e) (TpA.dp r)
theorem TpA.dp {K : PySem.W.Frag} {H : Hp} : ∀ {vs : List V} {ds : List PyData}, TpA H vs ds → DpAll K H vs ds
  | _, _, .nil => .nil
  | _, _, .cons a r => .cons (Tp.dp a) (TpA.dp r)
end
theorem TpA.length {H : Hp} : ∀ {vs : List V} {ds : List PyData}, TpA H vs ds → vs.length = ds.length
  | _, _, .nil => rfl
  | _, _, .cons _ r => congrArg Nat.succ (TpA.length r)
theorem TpA.get {H : Hp} : ∀ {vs : List V} {ds : List PyData} {i : Nat} {d : PyData}, TpA H vs ds → ds[i]? = some d → ∃ v, vs[i]? = some v ∧ Tp H v d
  | _, _, _, _, .nil, h => by simp at h
  | _, _, 0, _, .cons a r, h => by
    simp at h
    subst h
    exact ⟨_, rfl, a⟩
  | _, _, i + 1, d, .cons a r, h => by
    obtain ⟨v, e, t⟩ := TpA.get (i := i) (d := d) r (by simpa using h)
    exact ⟨v, by simpa using e, t⟩
theorem TpA.getV {H : Hp} : ∀ {vs : List V} {ds : List PyData} {i : Nat} {v : V}, TpA H vs ds → vs[i]? = some v → ∃ d, ds[i]? = some d ∧ Tp H v d
  | _, _, _, _, .nil, h => by simp at h
  | _, _, 0, _, .cons a r, h => by
    simp at h
    subst h
    exact ⟨_, rfl, a⟩
  | _, _, i + 1, d, .cons a r, h => by
    obtain ⟨v, e, t⟩ := TpA.getV (i := i) (v := d) r (by simpa using h)
    exact ⟨v, by simpa using e, t⟩
theorem TpA.append {H : Hp} : ∀ {vs us : List V} {ds es : List PyData}, TpA H vs ds → TpA H us es → TpA H (vs ++ us) (ds ++ es)
  | _, _, _, _, .nil, s => s
  | _, _, _, _, .cons a r, s => .cons a (TpA.append r s)
theorem TpA.take {H : Hp} : ∀ {vs : List V} {ds : List PyData} (n : Nat), TpA H vs ds → TpA H (vs.take n) (ds.take n)
  | _, _, 0, _ => .nil
  | _, _, _ + 1, .nil => .nil
  | _, _, n + 1, .cons a r => .cons a (TpA.take n r)
theorem TpA.drop {H : Hp} : ∀ {vs : List V} {ds : List PyData} (n : Nat), TpA H vs ds → TpA H (vs.drop n) (ds.drop n)
  | _, _, 0, r => r
  | _, _, _ + 1, .nil => .nil
  | _, _, n + 1, .cons _ r => TpA.drop n r
theorem TpA.set {H : Hp} {v : V} {d : PyData} (t : Tp H v d) : ∀ {vs : List V} {ds : List PyData} (n : Nat), TpA H vs ds → TpA H (vs.set n v) (ds.set n d)
  | _, _, _, .nil => .nil
  | _, _, 0, .cons _ r => .cons t r
  | _, _, n + 1, .cons a r => .cons a (TpA.set t n r)
theorem TpA.reverse {H : Hp} : ∀ {vs : List V} {ds : List PyData}, TpA H vs ds → TpA H vs.reverse ds.reverse
  | _, _, .nil => .nil
  | _, _, .cons a r => by
    rw [List.reverse_cons, List.reverse_cons]
    exact (TpA.reverse r).append (.cons a .nil)
theorem Tp.int_of {H : Hp} {v : V} {i : Int} (h : Tp H v (.int i)) : v = .int i := by
  cases h
  rfl
theorem Tp.bl_of {H : Hp} {v : V} {i : Bool} (h : Tp H v (.bool i)) : v = .bl i := by
  cases h
  rfl
theorem Tp.str_of {H : Hp} {v : V} {i : Str} (h : Tp H v (.str i)) : v = .str i := by
  cases h
  rfl
theorem Tp.non_of {H : Hp} {v : V} (h : Tp H v .none) : v = .non := by
  cases h
  rfl
theorem Tp.tup_of {H : Hp} {v : V} {ds : List PyData} (h : Tp H v (.tuple ds)) : ∃ a xs, v = .ref a ∧ H a = some (.tup xs) ∧ TpA H xs ds := by
  cases h with
  | tup e r => exact ⟨_, _, rfl, e, r⟩
theorem TpA.ints {H : Hp} : ∀ {vs : List V} {ns : List Int}, TpA H vs (ns.map .int) → vs = ns.map V.int
  | _, [], .nil => rfl
  | _, n :: ns, .cons a r => by
    rw [a.int_of, TpA.ints (ns := ns) r]
    rfl
theorem TpA.of_ints {H : Hp} : ∀ {ns : List Int}, TpA H (ns.map V.int) (ns.map .int)
  | [] => .nil
  | n :: ns => .cons (.int n) (TpA.of_ints (ns := ns))

/-! ### a discipline: what may change -/
structure Wd where
  inv : Hp → Prop
  mt : Addr → Prop
  mono : ∀ {H H' : Hp}, inv H → Same H H' → inv H'
  ne : ∀ {H : Hp} {p : Addr}, inv H → mt p → ∃ xs, H p = some (.lst xs)
  own : ∀ {B H : Hp} {p : Addr} {o : HO}, inv B → B p = none → inv H → inv (upd H p o)
def Wd.rel (W : Wd) (H H' : Hp) : Prop := (W.inv H → W.inv H') ∧ ∀ b o, H b = some o → (W.mt b → ∃ xs, o = .tup xs) → H' b = some o
/-- nothing changes -/
def W0 : Wd := ⟨fun _ => True, fun _ => False, fun _ _ => trivial, fun _ h => h.elim, fun _ _ _ => trivial⟩
section
variable {W : Wd} {H H' H1 H2 B : Hp}
theorem Wd.refl (W : Wd) (H : Hp) : W.rel H H := ⟨id, fun _ _ h _ => h⟩
theorem Wd.trans (a : W.rel H H1) (b : W.rel H1 H2) : W.rel H H2 := ⟨fun i => b.1 (a.1 i), fun c o h m => b.2 c o (a.2 c o h m) m⟩
theorem Wd.same (e : Same H H') : W.rel H H' := ⟨fun i => W.mono i e, fun b o h _ => e b o h⟩
theorem Wd.tup (r : W.rel H H') : ∀ a xs, H a = some (.tup xs) → H' a = some (.tup xs) := fun a xs h => r.2 a _ h fun _ => ⟨xs, rfl⟩
theorem Wd.nmt (i : W.inv H) {p : Addr} (h : H p = none) : ¬ W.mt p := fun m => by
  obtain ⟨xs, e⟩ := W.ne i m
  rw [h] at e
  cases e
theorem Wd.keep (r : W.rel H H') {p : Addr} {o : HO} (h : H p = some o) (m : ¬ W.mt p) : H' p = some o := r.2 p o h fun x => absurd x m
theorem Wd.back (i : W.inv H) (r : W.rel H H') {p : Addr} (h : H' p = none) : H p = none := by
  cases e : H p with
  | none => rfl
  | some o =>
    by_cases m : W.mt p
    · obtain ⟨xs, e'⟩ := W.ne (r.1 i) m
      rw [h] at e'
      cases e'
    · have e' := Wd.keep r e m
      rw [h] at e'
      cases e'
theorem same_new {p : Addr} {o : HO} (h : H p = none) : Same H (upd H p o) := fun b x e => by
  rw [upd_ne (ne_of_none e h)]
  exact e
theorem Wd.new {p : Addr} {o : HO} (h : H p = none) : W.rel H (upd H p o) := Wd.same (same_new h)
/-- what is new may change -/
theorem Wd.chg (i : W.inv B) (r : W.rel B H) {p : Addr} (h : B p = none) {o : HO} : W.rel B (upd H p o) := by
  refine ⟨fun _ => W.own i h (r.1 i), fun b x e m => ?_⟩
  rw [upd_ne (ne_of_none e h)]
  exact r.2 b x e m
theorem Wd.to_same (r : W0.rel H H') : Same H H' := fun b o h => r.2 b o h fun x => x.elim
theorem tup_upd {l : Addr} {xs : List V} {o : HO} (h : H l = some (.lst xs)) : ∀ a ys, H a = some (.tup ys) → (upd H l o) a = some (.tup ys) := fun a ys e => by
  rw [upd_ne (ne_of e h (by intro z; cases z))]
  exact e
end

/-! ### what the slots hold -/
inductive Sl where
  | no | d (x : PyData) | v (x : V) | l (ds : List PyData)
def SlOk (B H : Hp) : Option V → Sl → Prop
  | _, .no => True
  | o, .d x => ∃ v, o = some v ∧ Tp H v x
  | o, .v x => o = some x
  | o, .l ds => ∃ l vs, o = some (.ref l) ∧ B l = none ∧ H l = some (.lst vs) ∧ TpA H vs ds
structure At (W : Wd) (B H : Hp) (σ : L2.St) (ρ : List Sl) : Prop where
  iB : W.inv B
  r : W.rel B H
  e : Paired (SlOk B H) σ ρ
section
variable {W : Wd} {B H H' : Hp} {σ : L2.St} {ρ ρ' : List Sl}
theorem pr_get {α β : Type} {F : α → β → Prop} : ∀ {l : List α} {m : List β} {i : Nat} {b : β}, Paired F l m → m[i]? = some b → ∃ a, l[i]? = some a ∧ F a b
  | _, _, _, _, .nil, h => by simp at h
  | _, _, 0, _, .cons a r, h => by
    simp at h
    subst h
    exact ⟨_, rfl, a⟩
  | _, _, i + 1, d, .cons a r, h => by
    obtain ⟨v, e, t⟩ := pr_get (i := i) (b := d) r (by simpa using h)
    exact ⟨v, by simpa using e, t⟩
theorem pr_set {α β : Type} {F : α → β → Prop} {a : α} {b : β} (t : F a b) : ∀ {l : List α} {m : List β} (i : Nat), Paired F l m → Paired F (l.set i a) (m.set i b)
  | _, _, _, .nil => .nil
  | _, _, 0, .cons _ r => .cons t r
  | _, _, n + 1, .cons a r => .cons a (pr_set t n r)
theorem SlOk.mono {W : Wd} (i : W.inv B) (r : W.rel H H') {o : Option V} {s : Sl} (h : SlOk B H o s) : SlOk B H' o s := by
  cases s with
  | no => trivial
  | d x =>
    obtain ⟨v, e, t⟩ := h
    exact ⟨v, e, t.mono (Wd.tup r)⟩
  | v x => exact h
  | l ds =>
    obtain ⟨l, vs, e, n, hl, t⟩ := h
    exact ⟨l, vs, e, n, Wd.keep r hl (Wd.nmt i n), t.mono (Wd.tup r)⟩
theorem At.i (a : At W B H σ ρ) : W.inv H := a.r.1 a.iB
theorem At.mono (a : At W B H σ ρ) (r : W.rel H H') : At W B H' σ ρ := ⟨a.iB, Wd.trans a.r r, L2.Paired.mapP a.e fun _ _ => SlOk.mono a.iB r⟩
theorem At.set (a : At W B H σ ρ) {o : Option V} {s : Sl} (h : SlOk B H o s) (i : Nat) : At W B H (σ.set i o) (ρ.set i s) := ⟨a.iB, a.r, pr_set h i a.e⟩
theorem At.setD (a : At W B H σ ρ) {v : V} {d : PyData} (h : Tp H v d) (i : Nat) : At W B H (σ.set i (some v)) (ρ.set i (.d d)) := a.set (s := .d d) ⟨v, rfl, h⟩ i
theorem At.get (a : At W B H σ ρ) {i : Nat} {s : Sl} (h : ρ[i]? = some s) : ∃ o, σ[i]? = some o ∧ SlOk B H o s := pr_get a.e h
theorem At.var (a : At W B H σ ρ) {i : Nat} {d : PyData} (h : ρ[i]? = some (.d d)) : ∃ v, σ[i]? = some (some v) ∧ Tp H v d := by
  obtain ⟨o, e, v, rfl, t⟩ := a.get h
  exact ⟨v, e, t⟩
/-- less is known -/
abbrev Le (ρ ρ' : List Sl) : Prop := Paired (fun s t => t = .no ∨ t = s) ρ ρ'
theorem le_e {F : Option V → Sl → Prop} (h0 : ∀ o, F o .no) : ∀ {σ : L2.St} {ρ ρ' : List Sl}, Paired F σ ρ → Le ρ ρ' → Paired F σ ρ'
  | _, _, _, .nil, .nil => .nil
  | _, _, _, .cons a r, .cons h l => by
    rcases h with h | h
    · rw [h]
      exact .cons (h0 _) (le_e h0 r l)
    · rw [h]
      exact .cons a (le_e h0 r l)
theorem At.le (a : At W B H σ ρ) (l : Le ρ ρ') : At W B H σ ρ' := ⟨a.iB, a.r, le_e (fun _ => trivial) a.e l⟩
theorem Le.refl : ∀ ρ : List Sl, Le ρ ρ
  | [] => .nil
  | _ :: r => .cons (.inr rfl) (Le.refl r)
def wipeS (ρ : List Sl) : List Nat → List Sl
  | [] => ρ
  | v :: vs => (wipeS ρ vs).set v .no
theorem wipe_e {F : Option V → Sl → Prop} (h0 : ∀ o, F o .no) (h : Paired F σ ρ) : ∀ vs : List Nat, Paired F (wipe σ vs) (wipeS ρ vs)
  | [] => h
  | v :: vs => pr_set (h0 _) v (wipe_e h0 h vs)
theorem At.wipe (a : At W B H σ ρ) (vs : List Nat) : At W B H (wipe σ vs) (wipeS ρ vs) := ⟨a.iB, a.r, wipe_e (fun _ => trivial) a.e vs⟩
end

/-! ### judgements -/
abbrev PD := PyData → Prop
abbrev PL := List PyData → Prop
/-- an expression gives data -/
def Ed (W : Wd) (te : TE) (ρ : List Sl) (P : PD) : Prop := ∀ (B : Hp) (σ : L2.St) (H : Hp) (Q : VK), At W B H σ ρ → (∀ v H' d, W.rel H H' → Tp H' v d → P d → Q v H') → te σ H Q
def Et (W : Wd) (tt : TT) (ρ : List Sl) (P : Bool → Prop) : Prop := ∀ (B : Hp) (σ : L2.St) (H : Hp) (Q : Bool → Hp → Prop), At W B H σ ρ → (∀ b H', W.rel H H' → P b → Q b H') → tt σ H Q
def Ea (W : Wd) (ta : TA) (ρ : List Sl) (P : PL) : Prop := ∀ (B : Hp) (σ : L2.St) (H : Hp) (Q : List V → Hp → Prop), At W B H σ ρ → (∀ vs H' ds, W.rel H H' → TpA H' vs ds → P ds → Q vs H') → ta σ H Q
def Eo (W : Wd) (to : TO) (ρ : List Sl) (P : Option Int → Prop) : Prop := ∀ (B : Hp) (σ : L2.St) (H : Hp) (Q : Option Int → Hp → Prop), At W B H σ ρ → (∀ o H', W.rel H H' → P o → Q o H') → to σ H Q
/-- a new list -/
def El (W : Wd) (te : TE) (ρ : List Sl) (P : PL) : Prop := ∀ (B : Hp) (σ : L2.St) (H : Hp) (Q : VK), At W B H σ ρ → (∀ p vs ds H', W.rel H H' → H p = none → H' p = some (.lst vs) → TpA H' vs ds → P ds → Q (.ref p) H') → te σ H Q
/-- a list that stands, new or not -/
def Eq_ (W : Wd) (te : TE) (ρ : List Sl) (P : PL) : Prop := ∀ (B : Hp) (σ : L2.St) (H : Hp) (Q : VK), At W B H σ ρ → (∀ p vs ds H', W.rel H H' → ¬ W.mt p → H' p = some (.lst vs) → TpA H' vs ds → P ds → Q (.ref p) H') → te σ H Q
abbrev Ee (W : Wd) (te : TE) (ρ : List Sl) (d : PyData) : Prop := Ed W te ρ (fun x => x = d)
abbrev Eb (W : Wd) (tt : TT) (ρ : List Sl) (b : Bool) : Prop := Et W tt ρ (fun x => x = b)
abbrev EA (W : Wd) (ta : TA) (ρ : List Sl) (ds : List PyData) : Prop := Ea W ta ρ (fun x => x = ds)
section
variable {W : Wd} {K : PySem.W.Frag} {ρ : List Sl} {te ta tb tc : TE} {t u : TT} {P P1 P2 : PD} {d e : PyData} {ds es : List PyData} {i j : Int} {a b : Bool}
theorem Ed.of (h : Ee W te ρ d) (hp : P d) : Ed W te ρ P := fun B σ H Q A k => h B σ H Q A fun v H' x r t e => k v H' x r t (by rw [e]; exact hp)
theorem Ed.is (h : Ee W te ρ d) (hp : d = e) : Ee W te ρ e := hp ▸ h
theorem Ed.mp (h : Ed W te ρ P1) (hp : ∀ d, P1 d → P d) : Ed W te ρ P := fun B σ H Q A k => h B σ H Q A fun v H' x r t e => k v H' x r t (hp _ e)
theorem Et.is (h : Eb W t ρ a) (e : a = b) : Eb W t ρ b := e ▸ h
theorem El.q {P : PL} (h : El W te ρ P) : Eq_ W te ρ P := fun B σ H Q A k => h B σ H Q A fun p vs ds H' r n e t q => k p vs ds H' r (Wd.nmt A.i n) e t q
theorem eq_var {P : PL} {i : Nat} (h : ρ[i]? = some (.l ds)) (hp : P ds) : Eq_ W (tVar i) ρ P := fun B σ H Q A k => by
  obtain ⟨o, e, l, vs, rfl, n, hl, t⟩ := A.get h
  exact ⟨_, e, k l vs ds H (Wd.refl W H) (Wd.nmt A.iB n) hl t hp⟩
theorem ed_var {i : Nat} (h : ρ[i]? = some (.d d)) (hp : P d) : Ed W (tVar i) ρ P := fun B σ H Q A k => by
  obtain ⟨v, e, t⟩ := A.var h
  exact ⟨v, e, k v H d (Wd.refl W H) t hp⟩
theorem ee_var {i : Nat} (h : ρ[i]? = some (.d d)) : Ee W (tVar i) ρ d := ed_var h rfl
theorem ee_int : Ee W (tC (.int i)) ρ (.int i) := fun B σ H Q A k => k _ H _ (Wd.refl W H) (.int i) rfl
theorem ee_bl : Ee W (tC (.bl b)) ρ (.bool b) := fun B σ H Q A k => k _ H _ (Wd.refl W H) (.bl b) rfl
theorem ee_str {x : Str} : Ee W (tC (.str x)) ρ (.str x) := fun B σ H Q A k => k _ H _ (Wd.refl W H) (.str x) rfl
theorem ee_non : Ee W (tC .non) ρ .none := fun B σ H Q A k => k _ H _ (Wd.refl W H) .non rfl
/-- two operands -/
theorem ed_op {r : R2} (ha : Ed W ta ρ P1) (hb : Ed W tb ρ P2)
    (hr : ∀ (x y : V) (H : Hp) (d e : PyData) (Q : VK), W.inv H → Tp H x d → Tp H y e → P1 d → P2 e → (∀ v H' c, W.rel H H' → Tp H' v c → P c → Q v H') → r x y H Q) : Ed W (tOp r ta tb) ρ P := fun B σ H Q A k =>
  ha B σ H _ A fun x H1 d r1 t1 p1 => hb B σ H1 _ (A.mono r1) fun y H2 e r2 t2 p2 =>
    hr x y H2 d e Q ((A.mono r1).mono r2).i (t1.mono (Wd.tup r2)) t2 p1 p2 fun v H' c r3 t3 p3 => k v H' c (Wd.trans r1 (Wd.trans r2 r3)) t3 p3
theorem ee_op {r : R2} (ha : Ee W ta ρ d) (hb : Ee W tb ρ e) (hr : ∀ (x y : V) (H : Hp) (Q : VK), W.inv H → Tp H x d → Tp H y e → (∀ v H' c, W.rel H H' → Tp H' v c → P c → Q v H') → r x y H Q) : Ed W (tOp r ta tb) ρ P :=
  ed_op ha hb fun x y H d' e' Q I t1 t2 p1 p2 => by
    subst p1
    subst p2
    exact hr x y H Q I t1 t2
theorem ee_II {g : Int → Int → Int} (ha : Ee W ta ρ (.int i)) (hb : Ee W tb ρ (.int j)) : Ee W (tOp (rI0 fun i j => .int (g i j)) ta tb) ρ (.int (g i j)) :=
  ee_op ha hb fun x y H Q I t1 t2 k => ⟨i, j, t1.int_of, t2.int_of, k _ H _ (Wd.refl W H) (.int _) rfl⟩
theorem ee_IB {g : Int → Int → Bool} (ha : Ee W ta ρ (.int i)) (hb : Ee W tb ρ (.int j)) : Ee W (tOp (rI0 fun i j => .bl (g i j)) ta tb) ρ (.bool (g i j)) :=
  ee_op ha hb fun x y H Q I t1 t2 k => ⟨i, j, t1.int_of, t2.int_of, k _ H _ (Wd.refl W H) (.bl _) rfl⟩
theorem ee_IC {C : Int → Int → Prop} {g : Int → Int → Int} (ha : Ee W ta ρ (.int i)) (hb : Ee W tb ρ (.int j)) (hc : C i j) : Ee W (tOp (rI C fun i j => .int (g i j)) ta tb) ρ (.int (g i j)) :=
  ee_op ha hb fun x y H Q I t1 t2 k => ⟨i, j, t1.int_of, t2.int_of, hc, k _ H _ (Wd.refl W H) (.int _) rfl⟩
theorem ee_UI {g : Int → Int} (ha : Ee W ta ρ (.int i)) : Ee W (tUn (rU fun i => .int (g i)) ta) ρ (.int (g i)) := fun B σ H Q A k =>
  ha B σ H _ A fun x H1 d r1 t1 p1 => by
    subst p1
    exact ⟨i, t1.int_of, k _ H1 _ r1 (.int _) rfl⟩
/-- == and != of whole numbers, of texts -/
theorem ee_eqI (ha : Ee W ta ρ (.int i)) (hb : Ee W tb ρ (.int j)) : Ee W (tOp rEq ta tb) ρ (.bool (decide (i = j))) := ee_op ha hb fun x y H Q I t1 t2 k => by
  rw [t1.int_of, t2.int_of]
  have e : decide (V.int i = V.int j) = decide (i = j) := by
    by_cases h : i = j
    · rw [h, decide_eq_true rfl, decide_eq_true rfl]
    · rw [decide_eq_false h, decide_eq_false fun z => h (V.int.inj z)]
  refine ⟨rfl, ?_⟩
  rw [e]
  exact k _ H _ (Wd.refl W H) (.bl _) rfl
theorem ee_neI (ha : Ee W ta ρ (.int i)) (hb : Ee W tb ρ (.int j)) : Ee W (tOp rNe ta tb) ρ (.bool (!decide (i = j))) := ee_op ha hb fun x y H Q I t1 t2 k => by
  rw [t1.int_of, t2.int_of]
  have e : decide (V.int i = V.int j) = decide (i = j) := by
    by_cases h : i = j
    · rw [h, decide_eq_true rfl, decide_eq_true rfl]
    · rw [decide_eq_false h, decide_eq_false fun z => h (V.int.inj z)]
  refine ⟨rfl, ?_⟩
  rw [e]
  exact k _ H _ (Wd.refl W H) (.bl _) rfl
theorem ee_eqS {x y : Str} (ha : Ee W ta ρ (.str x)) (hb : Ee W tb ρ (.str y)) : Ee W (tOp rEq ta tb) ρ (.bool (decide (x = y))) := ee_op ha hb fun v w H Q I t1 t2 k => by
  rw [t1.str_of, t2.str_of]
  have e : decide (V.str x = V.str y) = decide (x = y) := by
    by_cases h : x = y
    · rw [h, decide_eq_true rfl, decide_eq_true rfl]
    · rw [decide_eq_false h, decide_eq_false fun z => h (V.str.inj z)]
  refine ⟨rfl, ?_⟩
  rw [e]
  exact k _ H _ (Wd.refl W H) (.bl _) rfl
def isNoneD : PyData → Bool
  | .none => true
  | _ => false
theorem tp_isN {H : Hp} {v : V} {d : PyData} (h : Tp H v d) : decide (v = V.non) = isNoneD d := by
  cases h <;> rfl
abbrev rIsNn : R2 := fun x y H Q => y = .non ∧ Q (.bl (decide (x = .non))) H
abbrev rNotNn : R2 := fun x y H Q => y = .non ∧ Q (.bl (!decide (x = .non))) H
theorem ee_isN (ha : Ee W ta ρ d) : Ee W (tOp (fun x y H Q => y = .non ∧ Q (.bl (decide (x = .non))) H) ta (tC .non)) ρ (.bool (isNoneD d)) := ee_op ha ee_non fun v w H Q I t1 t2 k => by
  rw [tp_isN t1]
  exact ⟨t2.non_of, k _ H _ (Wd.refl W H) (.bl _) rfl⟩
theorem ee_notN (ha : Ee W ta ρ d) : Ee W (tOp (fun x y H Q => y = .non ∧ Q (.bl (!decide (x = .non))) H) ta (tC .non)) ρ (.bool (!isNoneD d)) := ee_op ha ee_non fun v w H Q I t1 t2 k => by
  rw [tp_isN t1]
  exact ⟨t2.non_of, k _ H _ (Wd.refl W H) (.bl _) rfl⟩
/-- an item of a tuple -/
theorem TpA.atI {H : Hp} {vs : List V} (r : TpA H vs ds) {i : Int} (h : L2.atI ds i = some d) : ∃ v, L2.atI vs i = some v ∧ Tp H v d := by
  unfold L2.atI at h ⊢
  rw [r.length]
  cases e : ixN ds.length i with
  | none =>
    rw [e] at h
    cases h
  | some j =>
    rw [e] at h
    exact r.get (i := j) h
theorem ee_ixT (ha : Ee W ta ρ (.tuple ds)) (hb : Ee W tb ρ (.int i)) (h : atI ds i = some d) : Ee W (tOp (rIxT K) ta tb) ρ d := ee_op ha hb fun x y H Q I t1 t2 k => by
  obtain ⟨p, xs, rfl, e, r⟩ := t1.tup_of
  obtain ⟨v, ev, tv⟩ := r.atI h
  exact ⟨p, xs, i, v, rfl, t2.int_of, SqT.of e, ev, k v H d (Wd.refl W H) tv rfl⟩
/-- an item of a list -/
theorem ed_ixL {P : PL} {R : PD} (ha : Eq_ W ta ρ P) (hb : Ed W tb ρ P1) (h : ∀ ds e, P ds → P1 e → ∃ i d, e = .int i ∧ atI ds i = some d ∧ R d) : Ed W (tOp (rIxL K) ta tb) ρ R := fun B σ H Q A k =>
  ha B σ H _ A fun p vs ds H1 r1 m e t q => hb B σ H1 _ (A.mono r1) fun y H2 c r2 t2 p2 => by
    obtain ⟨i, d, rfl, ed, rd⟩ := h ds c q p2
    obtain ⟨v, ev, tv⟩ := t.atI ed
    exact ⟨p, vs, i, v, rfl, t2.int_of, SqL.of (Wd.keep r2 e m), ev, k v H2 d (Wd.trans r1 r2) (tv.mono (Wd.tup r2)) rd⟩
theorem ee_ixL (ha : Eq_ W ta ρ (fun x => x = ds)) (hb : Ee W tb ρ (.int i)) (h : atI ds i = some d) : Ee W (tOp (rIxL K) ta tb) ρ d := ed_ixL ha hb fun ds' e e1 e2 => by
  subst e1
  exact ⟨i, d, e2, h, rfl⟩
/-- arguments -/
theorem ea_nil : EA W tNil ρ [] := fun B σ H Q A k => k [] H [] (Wd.refl W H) .nil rfl
theorem ea_cons {tr : TA} (h : Ee W te ρ d) (hr : EA W tr ρ ds) : EA W (tCons te tr) ρ (d :: ds) := fun B σ H Q A k =>
  h B σ H _ A fun v H1 d' r1 t1 p1 => hr B σ H1 _ (A.mono r1) fun vs H2 ds' r2 t2 p2 => by
    subst p1
    subst p2
    exact k (v :: vs) H2 (d' :: ds') (Wd.trans r1 r2) (.cons (t1.mono (Wd.tup r2)) t2) rfl
theorem ea_consP {tr : TA} {P2 P : PL} (h : Ed W te ρ P1) (hr : Ea W tr ρ P2) (hp : ∀ d ds, P1 d → P2 ds → P (d :: ds)) : Ea W (tCons te tr) ρ P := fun B σ H Q A k =>
  h B σ H _ A fun v H1 d r1 t1 p1 => hr B σ H1 _ (A.mono r1) fun vs H2 ds r2 t2 p2 => k (v :: vs) H2 (d :: ds) (Wd.trans r1 r2) (.cons (t1.mono (Wd.tup r2)) t2) (hp d ds p1 p2)
theorem Ea.mp {ta : TA} {P1 P : PL} (h : Ea W ta ρ P1) (hp : ∀ d, P1 d → P d) : Ea W ta ρ P := fun B σ H Q A k => h B σ H Q A fun v H' x r t e => k v H' x r t (hp _ e)
/-- a tuple, a list laid out -/
theorem small4 {n : Nat} (h : n ≤ 100000) : n ≤ sizeLine := Nat.le_trans h (by decide)
theorem small5 {n : Nat} (h : n < 100000) : n < sizeLine := Nat.lt_of_lt_of_le h (by decide)
theorem ed_tup {ta : TA} {P1 : PL} (h : Ea W ta ρ P1) (hp : ∀ ds, P1 ds → ds.length ≤ 100000 ∧ P (.tuple ds)) : Ed W (tTup ta) ρ P := fun B σ H Q A k =>
  h B σ H _ A fun vs H1 ds r1 t1 p1 => ⟨by rw [t1.length]; exact small4 (hp _ p1).1, fun p hp' => k (.ref p) _ (.tuple ds) (Wd.trans r1 (Wd.new hp')) (.tup upd_same (t1.mono (Wd.tup (W := W) (Wd.new hp')))) (hp _ p1).2⟩
theorem ee_tup {ta : TA} (h : EA W ta ρ ds) (hl : ds.length ≤ 100000 := by simp) : Ee W (tTup ta) ρ (.tuple ds) := ed_tup h fun x e => by
  subst e
  exact ⟨hl, rfl⟩
theorem el_lst {ta : TA} {P1 P : PL} (h : Ea W ta ρ P1) (hp : ∀ ds, P1 ds → ds.length ≤ 100000 ∧ P ds) : El W (tLst ta) ρ P := fun B σ H Q A k =>
  h B σ H _ A fun vs H1 ds r1 t1 p1 => ⟨by rw [t1.length]; exact small4 (hp _ p1).1, fun p hp' => k p vs ds _ (Wd.trans r1 (Wd.new hp')) (Wd.back A.i r1 hp') upd_same (t1.mono (Wd.tup (W := W) (Wd.new hp'))) (hp _ p1).2⟩
/-- len -/
abbrev rLenQ (K : PySem.W.Frag) : List V → Hp → VK → Prop := fun xs H Q => ∃ p ys, xs = [.ref p] ∧ (SqL K H p ys ∨ SqT K H p ys) ∧ Q (.int ys.length) H
theorem ee_lenT (h : Ee W te ρ (.tuple ds)) : Ee W (tCB (rLenQ K) (tCons te tNil)) ρ (.int ds.length) := fun B σ H Q A k =>
  h B σ H _ A fun v H1 d r1 t1 p1 => by
    subst p1
    obtain ⟨p, xs, rfl, e, r⟩ := t1.tup_of
    refine ⟨p, xs, rfl, .inr (SqT.of e), ?_⟩
    rw [r.length]
    exact k _ H1 _ r1 (.int _) rfl
theorem ed_lenL {P : PL} {R : PD} (h : Eq_ W te ρ P) (hp : ∀ ds, P ds → R (.int ds.length)) : Ed W (tCB (rLenQ K) (tCons te tNil)) ρ R := fun B σ H Q A k =>
  h B σ H _ A fun p vs ds H1 r1 m e t q => by
    refine ⟨p, vs, rfl, .inl (SqL.of e), ?_⟩
    rw [t.length]
    exact k _ H1 _ r1 (.int _) (hp _ q)
/-- isinstance(x, T), T a built-in class -/
def tyD : PyData → String
  | .none => "NoneType"
  | .bool _ => "bool"
  | .int _ => "int"
  | .str _ => "str"
  | .list _ => "list"
  | .tuple _ => "tuple"
  | .dict _ => "dict"
theorem tp_ty {H : Hp} {v : V} (h : Tp H v d) : TyX K H v (.type (tyD d)) := by
  cases h with
  | non => exact .base .non
  | bl b => exact .base (.bl b)
  | int i => exact .base (.int i)
  | str x => exact .base (.str x)
  | tup e r => exact .base (.tup e)
theorem ee_isi {T : String} {r : Bool} (h : Ee W te ρ d) (hk : kitB (tyD d) T = some r) : Ee W (tCB (rIsi K) (tCons te (tCons (tC (.ty T)) tNil))) ρ (.bool r) := fun B σ H Q A k =>
  h B σ H _ A fun v H1 d' r1 t1 p1 => by
    subst p1
    exact ⟨v, .ty T, _, _, r, rfl, .ty T, tp_ty t1, kit_ty hk, k _ H1 _ r1 (.bl _) rfl⟩
/-- tests -/
theorem et_test (h : Ee W te ρ (.bool b)) : Eb W (tTest te) ρ b := fun B σ H Q A k => h B σ H _ A fun v H1 d r1 t1 p1 => by
  subst p1
  exact ⟨b, t1.bl_of, k b H1 r1 rfl⟩
theorem et_B (h : Ee W te ρ (.bool b)) : Eb W (tB te) ρ b := fun B σ H Q A k => h B σ H _ A fun v H1 d r1 t1 p1 => by
  subst p1
  exact ⟨b, t1.bl_of, k b H1 r1 rfl⟩
theorem et_testP {R : Bool → Prop} (h : Ed W te ρ P) (hp : ∀ d, P d → ∃ b, d = .bool b ∧ R b) : Et W (tTest te) ρ R := fun B σ H Q A k => h B σ H _ A fun v H1 d r1 t1 p1 => by
  obtain ⟨b, rfl, q⟩ := hp _ p1
  exact ⟨b, t1.bl_of, k b H1 r1 q⟩
theorem et_not (h : Eb W t ρ a) : Eb W (tNot t) ρ (!a) := fun B σ H Q A k => h B σ H _ A fun x H1 r1 p1 => by
  subst p1
  exact k _ H1 r1 rfl
theorem et_and (h1 : Eb W t ρ a) (h2 : a = true → Eb W u ρ b) : Eb W (tAnd t u) ρ (a && b) := fun B σ H Q A k => h1 B σ H _ A fun x H1 r1 p1 => by
  subst p1
  cases x with
  | true =>
    show u σ H1 Q
    exact h2 rfl B σ H1 Q (A.mono r1) fun y H2 r2 p2 => k y H2 (Wd.trans r1 r2) (by rw [p2]; rfl)
  | false =>
    show Q false H1
    exact k false H1 r1 rfl
theorem et_or (h1 : Eb W t ρ a) (h2 : a = false → Eb W u ρ b) : Eb W (tOr t u) ρ (a || b) := fun B σ H Q A k => h1 B σ H _ A fun x H1 r1 p1 => by
  subst p1
  cases x with
  | true =>
    show Q true H1
    exact k true H1 r1 rfl
  | false =>
    show u σ H1 Q
    exact h2 rfl B σ H1 Q (A.mono r1) fun y H2 r2 p2 => k y H2 (Wd.trans r1 r2) (by rw [p2]; rfl)
theorem ee_andV (h1 : Ee W ta ρ (.bool a)) (h2 : a = true → Ee W tb ρ (.bool b)) : Ee W (tAndV ta tb) ρ (.bool (a && b)) := fun B σ H Q A k => h1 B σ H _ A fun x H1 d r1 t1 p1 => by
  subst p1
  refine ⟨a, t1.bl_of, ?_⟩
  cases a with
  | true =>
    show tb σ H1 Q
    exact h2 rfl B σ H1 Q (A.mono r1) fun y H2 c r2 t2 p2 => k y H2 c (Wd.trans r1 r2) t2 (by rw [p2]; rfl)
  | false =>
    show Q (.bl false) H1
    exact k _ H1 _ r1 (.bl false) rfl
theorem ee_orV (h1 : Ee W ta ρ (.bool a)) (h2 : a = false → Ee W tb ρ (.bool b)) : Ee W (tOrV ta tb) ρ (.bool (a || b)) := fun B σ H Q A k => h1 B σ H _ A fun x H1 d r1 t1 p1 => by
  subst p1
  refine ⟨a, t1.bl_of, ?_⟩
  cases a with
  | true =>
    show Q (.bl true) H1
    exact k _ H1 _ r1 (.bl true) rfl
  | false =>
    show tb σ H1 Q
    exact h2 rfl B σ H1 Q (A.mono r1) fun y H2 c r2 t2 p2 => k y H2 c (Wd.trans r1 r2) t2 (by rw [p2]; rfl)
theorem ee_notV (h1 : Ee W ta ρ (.bool a)) : Ee W (tNotV ta) ρ (.bool (!a)) := fun B σ H Q A k => h1 B σ H _ A fun x H1 d r1 t1 p1 => by
  subst p1
  exact ⟨a, t1.bl_of, k _ H1 _ r1 (.bl _) rfl⟩
/-- slices of tuples, t + u -/
theorem eo_none : Eo W tNoPart ρ (fun o => o = none) := fun B σ H Q A k => k none H (Wd.refl W H) rfl
theorem eo_some (h : Ee W te ρ (.int i)) : Eo W (tPart te) ρ (fun o => o = some i) := fun B σ H Q A k => h B σ H _ A fun v H1 d r1 t1 p1 => by
  subst p1
  exact ⟨i, t1.int_of, k _ H1 r1 rfl⟩
def cutD (xs : List PyData) (lo hi : Option Int) : List PyData := (xs.drop (HT.sIx xs.length 0 lo)).take (HT.sIx xs.length xs.length hi - HT.sIx xs.length 0 lo)
theorem TpA.cut {H : Hp} {vs : List V} (r : TpA H vs ds) (lo hi : Option Int) : TpA H (cutV vs lo hi) (cutD ds lo hi) := by
  unfold cutV cutD
  rw [r.length]
  exact (r.drop _).take _
theorem cutD_whole {lo hi : Option Int} (h1 : HT.sIx ds.length 0 lo = 0) (h2 : HT.sIx ds.length ds.length hi = ds.length) : cutD ds lo hi = ds := by
  unfold cutD
  rw [h1, h2, List.drop_zero, Nat.sub_zero, List.take_length]
theorem ee_slT {tl th : TO} {lo hi : Option Int} (h : Ee W te ρ (.tuple ds)) (h1 : Eo W tl ρ (fun o => o = lo)) (h2 : Eo W th ρ (fun o => o = hi)) : Ee W (tSl (rSlA K) te tl th) ρ (.tuple (cutD ds lo hi)) := fun B σ H Q A k =>
  h B σ H _ A fun v H1 d r1 t1 p1 => h1 B σ H1 _ (A.mono r1) fun o1 H2 r2 p2 => h2 B σ H2 _ ((A.mono r1).mono r2) fun o2 H3 r3 p3 => by
    subst p1
    subst p2
    subst p3
    obtain ⟨p, xs, rfl, e, r⟩ := (t1.mono (Wd.tup (Wd.trans r2 r3))).tup_of
    refine ⟨p, xs, rfl, SqT.of e, fun hw => ?_, fun hw q hq => ?_⟩
    · rw [r.length] at hw
      exact k (.ref p) H3 _ (Wd.trans r1 (Wd.trans r2 r3)) (by rw [cutD_whole hw.1 hw.2]; exact .tup e r) rfl
    · exact k (.ref q) _ _ (Wd.trans r1 (Wd.trans r2 (Wd.trans r3 (Wd.new hq)))) (.tup upd_same ((r.cut o1 o2).mono (Wd.tup (W := W) (Wd.new hq)))) rfl
theorem ee_catT (ha : Ee W ta ρ (.tuple ds)) (hb : Ee W tb ρ (.tuple es)) (hl : ds.length + es.length ≤ 100000) : Ee W (tOp (rCatA K) ta tb) ρ (.tuple (ds ++ es)) := ee_op ha hb fun x y H Q I t1 t2 k => by
  obtain ⟨p, xs, rfl, e, r⟩ := t1.tup_of
  obtain ⟨q, ys, rfl, e2, r2⟩ := t2.tup_of
  refine ⟨p, q, xs, ys, rfl, rfl, SqT.of e, SqT.of e2, by rw [r.length, r2.length]; exact small4 hl, fun hx => ?_, fun _ hy => ?_, fun _ _ z hz => ?_⟩
  · subst hx
    cases r
    exact k (.ref q) H _ (Wd.refl W H) t2 rfl
  · subst hy
    cases r2
    exact k (.ref p) H _ (Wd.refl W H) (by rw [List.append_nil]; exact t1) rfl
  · exact k (.ref z) _ _ (Wd.new hz) (.tup upd_same ((r.append r2).mono (Wd.tup (W := W) (Wd.new hz)))) rfl
/-- slices of lists -/
theorem el_slL {P P' : PL} {tl th : TO} {lo hi : Option Int} (h : Eq_ W te ρ P) (h1 : Eo W tl ρ (fun o => o = lo)) (h2 : Eo W th ρ (fun o => o = hi)) (hp : ∀ ds, P ds → P' (cutD ds lo hi)) : El W (tSl (rSlL K) te tl th) ρ P' := fun B σ H Q A k =>
  h B σ H _ A fun p vs ds H1 r1 m e t q => h1 B σ H1 _ (A.mono r1) fun o1 H2 r2 p2 => h2 B σ H2 _ ((A.mono r1).mono r2) fun o2 H3 r3 p3 => by
    subst p2
    subst p3
    have r23 := Wd.trans r2 r3
    refine ⟨p, vs, rfl, SqL.of (Wd.keep r23 e m), fun q' hq => ?_⟩
    exact k q' _ _ _ (Wd.trans r1 (Wd.trans r23 (Wd.new hq))) (Wd.back A.i (Wd.trans r1 r23) hq) upd_same (((t.mono (Wd.tup r23)).cut o1 o2).mono (Wd.tup (W := W) (Wd.new hq))) (hp _ q)
end
end Gw
set_option Elab.async false
set_option linter.all false
set_option maxRecDepth 100000
set_option maxHeartbeats 4000000
/-! Statements, targets, loops, comprehensions, calls, by data. -/
namespace Gw
open PySem PySem.Spec PyProof.Rows L2

/-! ### what a loop goes over: n data, f i the i-th -/
def SrcOk (J : It) (n : Nat) (f : Nat → PyData) (Z : Hp → Prop) : Prop :=
  ∃ (G : Hp → Prop) (Y : Nat → Hp → V → Hp → Prop), Walk J n G Y ∧ (∀ H, Z H → G H) ∧ ∀ i H x H', i < n → Z H → Y i H x H' → Same H H' ∧ Tp H' x (f i)
def Src (W : Wd) (wi : TI) (ρ : List Sl) (n : Nat) (f : Nat → PyData) : Prop := ∀ (B : Hp) (σ : L2.St) (H : Hp) (R : It → Hp → Prop), At W B H σ ρ →
  (∀ J Z H1, W.rel H H1 → SrcOk J n f Z → (∀ H2, W.rel H1 H2 → Z H2) → R J H1) → wi σ H R
/-- new, or a tuple -/
def SrcF (wi : TI) (ρ : List Sl) (n : Nat) (f : Nat → PyData) : Prop := ∀ (B : Hp) (σ : L2.St) (H : Hp) (R : It → Hp → Prop), At W0 B H σ ρ →
  (∀ J Z H1, W0.rel H H1 → SrcOk J n f Z → (∀ C, (∀ a o, H1 a = some o → (H a = none ∨ ∃ xs, o = .tup xs) → C a = some o) → ∀ H2, Same C H2 → Z H2) → R J H1) → wi σ H R
def nth (ds : List PyData) (i : Nat) : PyData := ds.getD i .none
theorem nth_at {ds : List PyData} {i : Nat} {d : PyData} (h : ds[i]? = some d) : nth ds i = d := by
  unfold nth
  rw [List.getD_eq_getElem?_getD, h]
  rfl
theorem nth_some {ds : List PyData} {i : Nat} (h : i < ds.length) : ds[i]? = some (nth ds i) := by
  unfold nth
  rw [List.getD_eq_getElem?_getD, List.getElem?_eq_getElem h]
  rfl
section
variable {W : Wd} {K : PySem.W.Frag} {ρ : List Sl} {ds : List PyData} {tl : TE} {a : Addr} {vs : List V}
theorem TpA.nth {H : Hp} (r : TpA H vs ds) {i : Nat} {x : V} (h : vs[i]? = some x) : Tp H x (nth ds i) := by
  obtain ⟨d, e, t⟩ := r.getV h
  rw [nth_at e]
  exact t
theorem srcOk_T (n : Nat) (hn : vs.length = ds.length) (hn2 : ds.length = n) : SrcOk (Itt K a) n (nth ds) (fun H => H a = some (.tup vs) ∧ TpA H vs ds) := by
  subst hn2
  refine ⟨_, _, hn ▸ walk_tup (xs := vs), fun H z => SqT.of z.1, fun i H x H' hi z y => ?_⟩
  obtain ⟨e, h⟩ := y
  subst e
  exact ⟨Same.refl _, z.2.nth h⟩
theorem srcOk_L (n : Nat) (hn : vs.length = ds.length) (hn2 : ds.length = n) : SrcOk (Itl K a) n (nth ds) (fun H => H a = some (.lst vs) ∧ TpA H vs ds) := by
  subst hn2
  refine ⟨_, _, hn ▸ walk_list (xs := vs), fun H z => SqL.of z.1, fun i H x H' hi z y => ?_⟩
  obtain ⟨e, h⟩ := y
  subst e
  exact ⟨Same.refl _, z.2.nth h⟩
theorem srcOk_R (n : Nat) : SrcOk (Itr 0 n) n (fun i => .int (i : Int)) (fun _ => True) := by
  refine ⟨_, _, walk_range, fun H z => trivial, fun i H x H' hi z y => ?_⟩
  obtain ⟨e, h⟩ := y
  subst e
  subst h
  refine ⟨Same.refl _, ?_⟩
  show Tp H' (.int (0 + (i : Int))) (.int (i : Int))
  rw [Int.zero_add]
  exact .int _
theorem src_T (h : Ee W tl ρ (.tuple ds)) : Src W (iTup K tl) ρ ds.length (nth ds) := fun B σ H R A k => h B σ H _ A fun v H1 d r1 t1 p1 => by
  subst p1
  obtain ⟨a, xs, rfl, e, r⟩ := t1.tup_of
  exact ⟨a, rfl, ⟨xs, SqT.of e⟩, k _ _ H1 r1 (srcOk_T _ r.length rfl) fun H2 r2 => ⟨Wd.tup r2 _ _ e, r.mono (Wd.tup r2)⟩⟩
theorem src_L (h : Eq_ W tl ρ (fun x => x = ds)) : Src W (iList K tl) ρ ds.length (nth ds) := fun B σ H R A k => h B σ H _ A fun p vs ds' H1 r1 m e t q => by
  subst q
  exact ⟨p, rfl, ⟨vs, SqL.of e⟩, k _ _ H1 r1 (srcOk_L _ t.length rfl) fun H2 r2 => ⟨Wd.keep r2 e m, t.mono (Wd.tup r2)⟩⟩
theorem src_R {ta : TA} {n : Int} (h : EA W ta ρ [.int n]) (hn : n < 100000) (h0 : -100000 < n := by omega) : Src W (iRng1 ta) ρ n.toNat (fun i => .int (i : Int)) := fun B σ H R A k => h B σ H _ A fun vs H1 ds r1 t1 p1 => by
  subst p1
  cases t1 with
  | cons a r =>
    cases r
    rw [a.int_of]
    exact ⟨n, rfl, by omega, by omega, k _ _ H1 r1 (srcOk_R _) fun _ _ => trivial⟩
theorem srcF_T (h : Ee W0 tl ρ (.tuple ds)) : SrcF (iTup K tl) ρ ds.length (nth ds) := fun B σ H R A k => h B σ H _ A fun v H1 d r1 t1 p1 => by
  subst p1
  obtain ⟨a, xs, rfl, e, r⟩ := t1.tup_of
  exact ⟨a, rfl, ⟨xs, SqT.of e⟩, k _ _ H1 r1 (srcOk_T _ r.length rfl) fun C hC H2 s => ⟨s _ _ (hC _ _ e (.inr ⟨_, rfl⟩)), r.mono fun b ys hb => s _ _ (hC _ _ hb (.inr ⟨_, rfl⟩))⟩⟩
theorem srcF_L (h : El W0 tl ρ (fun x => x = ds)) : SrcF (iList K tl) ρ ds.length (nth ds) := fun B σ H R A k => h B σ H _ A fun p vs ds' H1 r1 n e t q => by
  subst q
  exact ⟨p, rfl, ⟨vs, SqL.of e⟩, k _ _ H1 r1 (srcOk_L _ t.length rfl) fun C hC H2 s => ⟨s _ _ (hC _ _ e (.inl n)), t.mono fun b ys hb => s _ _ (hC _ _ hb (.inr ⟨_, rfl⟩))⟩⟩
theorem srcF_R {ta : TA} {n : Int} (h : EA W0 ta ρ [.int n]) (hn : n < 100000) (h0 : -100000 < n := by omega) : SrcF (iRng1 ta) ρ n.toNat (fun i => .int (i : Int)) := fun B σ H R A k => h B σ H _ A fun vs H1 ds r1 t1 p1 => by
  subst p1
  cases t1 with
  | cons a r =>
    cases r
    rw [a.int_of]
    exact ⟨n, rfl, by omega, by omega, k _ _ H1 r1 (srcOk_R _) fun _ _ _ _ => trivial⟩
end

/-! ### targets -/
def Gd (W : Wd) (g : TG) (js : List Nat) (ρ : List Sl) (d : PyData) (ρ' : List Sl) : Prop := ∀ (B : Hp) (v : V) (σ : L2.St) (H : Hp) (Q : L2.St → Hp → Prop), At W B H σ ρ → Tp H v d →
  (∀ σ', At W B H σ' ρ' → σ'.length = σ.length → (∀ i, i ∉ js → σ'[i]? = σ[i]?) → Q σ' H) → g v σ H Q
def Gds (W : Wd) (g : TGs) (js : List Nat) (ρ : List Sl) (ds : List PyData) (ρ' : List Sl) : Prop := ∀ (B : Hp) (vs : List V) (σ : L2.St) (H : Hp) (Q : L2.St → Hp → Prop), At W B H σ ρ → TpA H vs ds →
  (∀ σ', At W B H σ' ρ' → σ'.length = σ.length → (∀ i, i ∉ js → σ'[i]? = σ[i]?) → Q σ' H) → g vs σ H Q
section
variable {W : Wd} {K : PySem.W.Frag} {ρ ρ1 ρ2 : List Sl} {d : PyData} {ds : List PyData} {g : TG} {gs : TGs} {js ks : List Nat}
theorem gd_name {i : Nat} : Gd W (gName i) [i] ρ d (ρ.set i (.d d)) := fun B v σ H Q A t k => k _ (A.setD t i) List.length_set fun j hj => by
  rw [List.getElem?_set_ne fun e => hj (by rw [e]; exact List.mem_singleton.mpr rfl)]
theorem gds_nil : Gds W gNil [] ρ [] ρ := fun B vs σ H Q A t k => by
  cases t
  exact ⟨rfl, k σ A rfl fun _ _ => rfl⟩
theorem gds_cons (h : Gd W g js ρ d ρ1) (hs : Gds W gs ks ρ1 ds ρ2) : Gds W (gCons g gs) (js ++ ks) ρ (d :: ds) ρ2 := fun B vs σ H Q A t k => by
  cases t with
  | cons a r =>
    exact ⟨_, _, rfl, h B _ σ H _ A a fun σ1 A1 l1 o1 => hs B _ σ1 H _ A1 r fun σ2 A2 l2 o2 => k σ2 A2 (l2.trans l1) fun i hi => (o2 i fun z => hi (List.mem_append_right _ z)).trans (o1 i fun z => hi (List.mem_append_left _ z))⟩
theorem gd_tup {n : Nat} (h : Gds W gs js ρ ds ρ1) (hn : ds.length = n) : Gd W (gTup K n gs) js ρ (.tuple ds) ρ1 := fun B v σ H Q A t k => by
  obtain ⟨a, xs, rfl, e, r⟩ := t.tup_of
  exact ⟨a, xs, rfl, SqT.of e, by rw [r.length, hn], h B xs σ H Q A r k⟩
end

/-! ### comprehensions -/
theorem wipe_get {σ : L2.St} : ∀ {vs : List Nat} {i : Nat}, i ∉ vs → (wipe σ vs)[i]? = σ[i]?
  | [], _, _ => rfl
  | v :: vs, i, h => by
    unfold wipe
    rw [List.getElem?_set_ne fun e => h (by rw [e]; exact List.mem_cons_self), wipe_get fun z => h (List.mem_cons_of_mem _ z)]
theorem wipe_in {σ : L2.St} : ∀ {vs : List Nat} {i : Nat}, i ∈ vs → i < σ.length → (wipe σ vs)[i]? = some none
  | v :: vs, i, h, hl => by
    unfold wipe
    by_cases e : v = i
    · subst e
      rw [List.getElem?_set_self (by rw [wipe_length]; exact hl)]
    · rw [List.getElem?_set_ne e]
      rcases List.mem_cons.mp h with z | z
      · exact absurd z.symm e
      · exact wipe_in z hl
theorem wipe_outs {σ σ' : L2.St} {vs js : List Nat} (hj : ∀ j ∈ js, j ∈ vs) (hl : σ'.length = (wipe σ vs).length) (ho : ∀ i, i ∉ js → σ'[i]? = (wipe σ vs)[i]?) : wipe σ' vs = wipe σ vs := by
  have hl2 : σ'.length = σ.length := by rw [hl, wipe_length]
  apply List.ext_getElem?
  intro i
  by_cases hi : i ∈ vs
  · by_cases h : i < σ.length
    · rw [wipe_in hi h, wipe_in hi (by rw [hl2]; exact h)]
    · rw [List.getElem?_eq_none (by rw [wipe_length]; omega), List.getElem?_eq_none (by rw [wipe_length]; omega)]
  · rw [wipe_get hi, ho i fun z => hi (hj i z)]
/-- the data in order -/
def seqOf (n : Nat) (f : Nat → PyData) : List PyData := (List.range n).map f
theorem seqOf_succ (n : Nat) (f : Nat → PyData) : seqOf (n + 1) f = seqOf n f ++ [f n] := by
  unfold seqOf
  rw [List.range_succ, List.map_append]
  rfl
theorem seqOf_len (n : Nat) (f : Nat → PyData) : (seqOf n f).length = n := by
  unfold seqOf
  rw [List.length_map, List.length_range]
theorem seqOf_nth (ds : List PyData) : seqOf ds.length (nth ds) = ds := by
  apply List.ext_getElem?
  intro i
  unfold seqOf
  rw [List.getElem?_map]
  by_cases h : i < ds.length
  · rw [List.getElem?_range h, nth_some h]
    rfl
  · rw [List.getElem?_eq_none (by rw [List.length_range]; omega), List.getElem?_eq_none (by omega)]
    rfl
section
variable {W : Wd} {K : PySem.W.Frag} {ρ : List Sl} {wi : TI} {g : TG} {tt : TT} {te : TE} {vs js : List Nat} {n : Nat} {f : Nat → PyData} {P : PL}
/-- [te for g in wi if tt]: b says which are taken, R what comes of each -/
theorem el_lc (hsrc : Src W wi ρ n f) (hz : n ≤ 50000) (b : PyData → Bool) (R : PyData → PyData → Prop) (hj : ∀ j ∈ js, j ∈ vs)
    (hb : ∀ i, i < n → ∃ ρ', Gd W g js (wipeS ρ vs) (f i) ρ' ∧ Eb W tt ρ' (b (f i)) ∧ (b (f i) = true → Ed W te ρ' (R (f i))))
    (hP : ∀ rs, Paired R ((seqOf n f).filter b) rs → P rs) : El W (tLc wi g tt te vs) ρ P := fun B σ H Q A k => hsrc B σ H _ A fun J Z H1 r1 ⟨G, Y, wk, hZ, hY⟩ hst D hD => by
  have A1 := A.mono r1
  have nm : ¬ W.mt D := Wd.nmt A1.i hD
  refine lc_it wk (fun i H' => W.rel H1 H' ∧ ∃ acc rs, H' D = some (.lst acc) ∧ TpA H' acc rs ∧ Paired R ((seqOf i f).filter b) rs) ⟨Wd.new hD, [], [], upd_same, .nil, .nil⟩ (fun i H' _ p => hZ _ (hst _ p.1)) (fun i x H2 H3 hi p y => ?_) (fun H' p => ?_)
  · obtain ⟨r2, acc, rs, e, t, pr⟩ := p
    obtain ⟨s3, tx⟩ := hY i H2 x H3 hi (hst _ r2) y
    have r23 : W.rel H2 H3 := Wd.same s3
    have A3 := (A1.mono r2).mono r23
    obtain ⟨ρ', hg, ht, he⟩ := hb i hi
    refine hg B x _ H3 _ (A3.wipe vs) tx fun σ2 A4 l4 o4 => ⟨wipe_outs hj l4 o4, ht B σ2 H3 _ A4 fun c H4 r4 ec => ?_⟩
    have rA : W.rel H1 H4 := Wd.trans r2 (Wd.trans r23 r4)
    have eA : H4 D = some (.lst acc) := Wd.keep (Wd.trans r23 r4) e nm
    have tA : TpA H4 acc rs := t.mono (Wd.tup (Wd.trans r23 r4))
    cases c with
    | true =>
      show te σ2 H4 _
      refine he ec.symm B σ2 H4 _ (A4.mono r4) fun v H5 d r5 t5 p5 => ⟨acc, Wd.keep r5 eA nm, ?_, ?_⟩
      · have l1 := Paired.length pr
        have l2 := List.length_filter_le b (seqOf i f)
        rw [seqOf_len] at l2
        rw [t.length, ← l1]
        exact small5 (by omega)
      · have ed := Wd.keep r5 eA nm
        refine ⟨Wd.chg A1.i (Wd.trans rA r5) hD, _, rs ++ [d], upd_same, (((tA.mono (Wd.tup r5)).append (.cons t5 .nil)).mono (tup_upd ed)), ?_⟩
        rw [seqOf_succ, List.filter_append]
        have ef : [f i].filter b = [f i] := by rw [List.filter_cons, if_pos ec.symm]; rfl
        rw [ef]
        exact Paired.snoc pr p5
    | false =>
      refine ⟨rA, acc, rs, eA, tA, ?_⟩
      rw [seqOf_succ, List.filter_append]
      have ef : [f i].filter b = [] := by rw [List.filter_cons, if_neg (by rw [← ec]; decide)]; rfl
      rw [ef, List.append_nil]
      exact pr
  · obtain ⟨r2, acc, rs, e, t, pr⟩ := p
    exact k D acc rs H' (Wd.trans r1 r2) (Wd.back A.i r1 hD) e t (hP rs pr)
theorem et_yes : Eb W tYes ρ true := fun B σ H Q A k => k true H (Wd.refl W H) rfl
theorem filter_all : ∀ l : List PyData, l.filter (fun _ => true) = l
  | [] => rfl
  | x :: r => by rw [List.filter_cons, if_pos rfl, filter_all r]
/-- without a test -/
theorem el_lcY (hsrc : Src W wi ρ n f) (hz : n ≤ 50000) (R : PyData → PyData → Prop) (hj : ∀ j ∈ js, j ∈ vs)
    (hb : ∀ i, i < n → ∃ ρ', Gd W g js (wipeS ρ vs) (f i) ρ' ∧ Ed W te ρ' (R (f i))) (hP : ∀ rs, Paired R (seqOf n f) rs → P rs) : El W (tLc wi g tYes te vs) ρ P :=
  el_lc hsrc hz (fun _ => true) R hj (fun i hi => by
    obtain ⟨ρ', h1, h2⟩ := hb i hi
    exact ⟨ρ', h1, et_yes, fun _ => h2⟩) fun rs h => hP rs (by rw [filter_all] at h; exact h)
theorem paired_map {h : PyData → PyData} : ∀ {ds rs : List PyData}, Paired (fun x y => y = h x) ds rs → rs = ds.map h
  | _, _, .nil => rfl
  | _, _, .cons a r => by rw [a, paired_map r]; rfl
theorem paired_all {Pr : PyData → Prop} : ∀ {ds rs : List PyData}, Paired (fun _ y => Pr y) ds rs → ∀ y ∈ rs, Pr y
  | _, _, .nil, y, h => by cases h
  | _, _, .cons a r, y, h => by
    rcases List.mem_cons.mp h with e | e
    · rw [e]
      exact a
    · exact paired_all r y e
/-- all([..]) of truths -/
theorem bools_of {H : Hp} : ∀ {vs : List V} {rs : List PyData}, TpA H vs rs → (∀ x ∈ rs, x = .bool true) → vs = (List.replicate rs.length true).map V.bl
  | _, _, .nil, _ => rfl
  | _, _, .cons a r, h => by
    have e := h _ List.mem_cons_self
    subst e
    rw [a.bl_of, bools_of r fun x hx => h x (List.mem_cons_of_mem _ hx)]
    rfl
theorem ee_all (h : El W te ρ (fun rs => ∀ x ∈ rs, x = .bool true)) : Ee W (tCB (rAll K) (tCons te tNil)) ρ (.bool true) := fun B σ H Q A k =>
  h B σ H _ A fun p vs rs H1 r1 n e t q => by
    refine ⟨p, List.replicate rs.length true, rfl, ?_, ?_⟩
    · rw [← bools_of t q]
      exact SqL.of e
    · have ea : (List.replicate rs.length true).all id = true := by simp
      rw [ea]
      exact k _ H1 _ r1 (.bl true) rfl
/-- tuple(list) -/
theorem ed_tupleL {R : PD} (h : Eq_ W te ρ P) (hp : ∀ ds, P ds → R (.tuple ds)) : Ed W (tThen te (kTup K)) ρ R := fun B σ H Q A k =>
  h B σ H _ A fun p vs ds H1 r1 m e t q => .inl ⟨p, vs, rfl, SqL.of e, fun z hz => k (.ref z) _ (.tuple ds) (Wd.trans r1 (Wd.new hz)) (.tup upd_same (t.mono (Wd.tup (W := W) (Wd.new hz)))) (hp ds q)⟩
end

/-! ### statements -/
def Bs (W : Wd) (ts : TS) (ρ : List Sl) (N : List Sl → Prop) (P : PD) (L : PL) : Prop := ∀ (B : Hp) (σ : L2.St) (H : Hp) (D : Ends), At W B H σ ρ →
  (∀ σ' H' ρ', At W B H' σ' ρ' → N ρ' → D.nx σ' H') → (∀ v H' d, W.rel B H' → Tp H' v d → P d → D.rt v H') →
  (∀ p vs ds H', W.rel B H' → B p = none → H' p = some (.lst vs) → TpA H' vs ds → L ds → D.rt (.ref p) H') → ts D σ H
section
variable {W : Wd} {K : PySem.W.Frag} {ρ ρ1 : List Sl} {N : List Sl → Prop} {P P1 : PD} {L L1 : PL} {t u tz : TS} {te : TE} {tt : TT} {d : PyData} {ds : List PyData} {b : Bool}
theorem bs_next (h : N ρ) : Bs W tNext ρ N P L := fun B σ H D A kn kr kl => kn σ H ρ A h
theorem bs_skip (h : Bs W tz ρ N P L) : Bs W (tSeq tNext tz) ρ N P L := h
theorem bs_ass (h : Bs W (tSeq t (tSeq u tz)) ρ N P L) : Bs W (tSeq (tSeq t u) tz) ρ N P L := h
theorem bs_le (l : Le ρ ρ1) (h : Bs W t ρ1 N P L) : Bs W t ρ N P L := fun B σ H D A => h B σ H D (A.le l)
theorem bs_asg {i : Nat} (h : Ed W te ρ P1) (k : ∀ d, P1 d → Bs W tz (ρ.set i (.d d)) N P L) : Bs W (tSeq (tAsg te (gName i)) tz) ρ N P L := fun B σ H D A kn kr kl =>
  h B σ H _ A fun v H1 d r1 t1 p1 => k d p1 B _ H1 D ((A.mono r1).setD t1 i) kn kr kl
theorem bs_asgE {i : Nat} (h : Ee W te ρ d) (k : Bs W tz (ρ.set i (.d d)) N P L) : Bs W (tSeq (tAsg te (gName i)) tz) ρ N P L := bs_asg h fun x e => by
  subst e
  exact k
theorem bs_asgZ {i : Nat} (h : Ee W te ρ d) (k : N (ρ.set i (.d d))) : Bs W (tAsg te (gName i)) ρ N P L := fun B σ H D A kn kr kl =>
  h B σ H _ A fun v H1 d r1 t1 p1 => by
    subst p1
    exact kn _ _ _ ((A.mono r1).setD t1 i) k
theorem bs_asgL {i : Nat} (h : El W te ρ L1) (k : ∀ ds, L1 ds → Bs W tz (ρ.set i (.l ds)) N P L) : Bs W (tSeq (tAsg te (gName i)) tz) ρ N P L := fun B σ H D A kn kr kl =>
  h B σ H _ A fun p vs ds H1 r1 n e t q => k ds q B _ H1 D ((A.mono r1).set (s := .l ds) ⟨p, vs, rfl, Wd.back A.iB A.r n, e, t⟩ i) kn kr kl
theorem bs_asgG {g : TG} {js : List Nat} (h : Ee W te ρ d) (hg : Gd W g js ρ d ρ1) (k : Bs W tz ρ1 N P L) : Bs W (tSeq (tAsg te g) tz) ρ N P L := fun B σ H D A kn kr kl =>
  h B σ H _ A fun v H1 d' r1 t1 p1 => by
    subst p1
    exact hg B v σ H1 _ (A.mono r1) t1 fun σ' A' _ _ => k B σ' H1 D A' kn kr kl
theorem bs_ret (h : Ed W te ρ P) : Bs W (tRet te) ρ N P L := fun B σ H D A kn kr kl => h B σ H _ A fun v H1 d r1 t1 p1 => kr v H1 d (Wd.trans A.r r1) t1 p1
theorem bs_retL (h : El W te ρ L) : Bs W (tRet te) ρ N P L := fun B σ H D A kn kr kl => h B σ H _ A fun p vs ds H1 r1 n e t q => kl p vs ds H1 (Wd.trans A.r r1) (Wd.back A.iB A.r n) e t q
theorem bs_retV {i : Nat} (h : ρ[i]? = some (.l ds)) (q : L ds) : Bs W (tRet (tVar i)) ρ N P L := fun B σ H D A kn kr kl => by
  obtain ⟨o, e, l, vs, rfl, n, hl, t⟩ := A.get h
  exact ⟨_, e, kl l vs ds H A.r n hl t q⟩
theorem bs_retS (h : Bs W (tRet te) ρ N P L) : Bs W (tSeq (tRet te) tz) ρ N P L := fun B σ H D A kn kr kl => h B σ H { D with nx := fun _ _ => True } A (fun _ _ _ _ _ => trivial) kr kl
theorem bs_ifT (h : Eb W tt ρ true) (k : Bs W (tSeq t tz) ρ N P L) : Bs W (tSeq (tIfS tt t u) tz) ρ N P L := fun B σ H D A kn kr kl => h B σ H _ A fun c H1 r1 e => by
  subst e
  show t _ σ H1
  exact k B σ H1 D (A.mono r1) kn kr kl
theorem bs_ifF (h : Eb W tt ρ false) (k : Bs W (tSeq u tz) ρ N P L) : Bs W (tSeq (tIfS tt t u) tz) ρ N P L := fun B σ H D A kn kr kl => h B σ H _ A fun c H1 r1 e => by
  subst e
  show u _ σ H1
  exact k B σ H1 D (A.mono r1) kn kr kl
theorem bs_ifC (h : Eb W tt ρ b) (k1 : b = true → Bs W (tSeq t tz) ρ N P L) (k2 : b = false → Bs W (tSeq u tz) ρ N P L) : Bs W (tSeq (tIfS tt t u) tz) ρ N P L := by
  cases b with
  | true => exact bs_ifT h (k1 rfl)
  | false => exact bs_ifF h (k2 rfl)
theorem bs_ifP {R : Bool → Prop} (h : Et W tt ρ R) (k1 : R true → Bs W (tSeq t tz) ρ N P L) (k2 : R false → Bs W (tSeq u tz) ρ N P L) : Bs W (tSeq (tIfS tt t u) tz) ρ N P L := fun B σ H D A kn kr kl => h B σ H _ A fun c H1 r1 e => by
  cases c with
  | true =>
    show t _ σ H1
    exact k1 e B σ H1 D (A.mono r1) kn kr kl
  | false =>
    show u _ σ H1
    exact k2 e B σ H1 D (A.mono r1) kn kr kl
theorem bs_ifZ (h : Eb W tt ρ b) (k1 : b = true → Bs W t ρ N P L) (k2 : b = false → Bs W u ρ N P L) : Bs W (tIfS tt t u) ρ N P L := fun B σ H D A kn kr kl => h B σ H _ A fun c H1 r1 e => by
  subst e
  cases c with
  | true =>
    show t D σ H1
    exact k1 rfl B σ H1 D (A.mono r1) kn kr kl
  | false =>
    show u D σ H1
    exact k2 rfl B σ H1 D (A.mono r1) kn kr kl
theorem bs_one (h : Bs W t ρ N P L) (k : ∀ ρ', N ρ' → N ρ') : Bs W t ρ N P L := h
/-- xs.append(e), xs the one list of one's own -/
theorem bs_app {i : Nat} (hi : ρ[i]? = some (.l ds)) (h1 : ∀ j es, ρ[j]? = some (.l es) → j = i) (hz : ds.length < 100000) (h : Ee W te ρ d) (k : N (ρ.set i (.l (ds ++ [d])))) :
    Bs W (tDrop (tBM K "list" rAppend (tVar i) (tCons te tNil))) ρ N P L := fun B σ H D A kn kr kl => by
  obtain ⟨o, e, l, vs, rfl, n, hl, t⟩ := A.get hi
  refine ⟨_, e, .inl ⟨rfl, vs, SqL.of hl⟩, h B σ H _ A fun v H1 d' r1 t1 p1 => ?_⟩
  subst p1
  have A1 := A.mono r1
  have hl1 : H1 l = some (.lst vs) := Wd.keep r1 hl (Wd.nmt A.iB n)
  refine ⟨l, vs, v, rfl, rfl, hl1, by rw [t.length]; exact small5 hz, kn σ _ (ρ.set i (.l (ds ++ [d']))) ⟨A.iB, Wd.chg A.iB A1.r n, ?_⟩ k⟩
  have key : ∀ (σ' : L2.St) (ρ' : List Sl) (m : Nat), Paired (SlOk B H1) σ' ρ' → (∀ j, σ[m + j]? = σ'[j]?) → (∀ j, ρ[m + j]? = ρ'[j]?) →
      Paired (SlOk B (upd H1 l (.lst (vs ++ [v])))) σ' (if m ≤ i then ρ'.set (i - m) (.l (ds ++ [d'])) else ρ') := by
    intro σ' ρ' m pr
    induction pr generalizing m with
    | nil =>
      intro _ _
      split <;> exact .nil
    | @cons o s σ2 ρ2 a r ih =>
      intro hs hr
      have ihh := ih (m + 1) (fun j => by rw [show m + 1 + j = m + (j + 1) by omega, hs (j + 1)]; rfl) (fun j => by rw [show m + 1 + j = m + (j + 1) by omega, hr (j + 1)]; rfl)
      have tail : Paired (SlOk B (upd H1 l (.lst (vs ++ [v])))) σ2 (if m + 1 ≤ i then ρ2.set (i - (m + 1)) (.l (ds ++ [d'])) else ρ2) := ihh
      by_cases hm : m ≤ i
      · rw [if_pos hm]
        by_cases hmi : m = i
        · subst hmi
          rw [if_neg (by omega)] at tail
          rw [Nat.sub_self]
          refine .cons ?_ tail
          have e0 := hs 0
          rw [Nat.add_zero, e] at e0
          have eo : o = some (.ref l) := (Option.some.inj e0).symm
          exact ⟨l, _, eo, n, upd_same, ((t.mono (Wd.tup r1)).append (.cons t1 .nil)).mono (tup_upd hl1)⟩
        · rw [if_pos (by omega)] at tail
          rw [show i - m = (i - (m + 1)) + 1 by omega]
          refine .cons ?_ tail
          cases s with
          | no => trivial
          | d x =>
            obtain ⟨w, ew, tw⟩ := a
            exact ⟨w, ew, tw.mono (tup_upd hl1)⟩
          | v x => exact a
          | l es =>
            have e0 := hr 0
            rw [Nat.add_zero] at e0
            exact absurd (h1 m es e0) hmi
      · rw [if_neg hm]
        rw [if_neg (by omega)] at tail
        refine .cons ?_ tail
        cases s with
        | no => trivial
        | d x =>
          obtain ⟨w, ew, tw⟩ := a
          exact ⟨w, ew, tw.mono (tup_upd hl1)⟩
        | v x => exact a
        | l es =>
          have e0 := hr 0
          rw [Nat.add_zero] at e0
          exact absurd (h1 m es e0) (by omega)
  have := key σ ρ 0 A1.e (fun j => by rw [Nat.zero_add]) (fun j => by rw [Nat.zero_add])
  rw [if_pos (Nat.zero_le i), Nat.sub_zero] at this
  exact this
end
/-! ### loops that fill one list -/
section
variable {K : PySem.W.Frag} {ρ : List Sl} {N : List Sl → Prop} {P : PD} {L : PL} {tb tz : TS} {g : TG} {wi : TI} {n : Nat} {f : Nat → PyData}
theorem slOk_base {B C H : Hp} (hs : ∀ a o, B a = some o → C a = some o) {o : Option V} {s : Sl} (h : SlOk C H o s) : SlOk B H o s := by
  cases s with
  | no => trivial
  | d x => exact h
  | v x => exact h
  | l ds =>
    obtain ⟨l, vs, e, m, hl, t⟩ := h
    refine ⟨l, vs, e, ?_, hl, t⟩
    cases q : B l with
    | none => rfl
    | some w =>
      rw [hs _ _ q] at m
      cases m
theorem At.base {B C H : Hp} {σ : L2.St} (A : At W0 C H σ ρ) (hs : ∀ a o, B a = some o → C a = some o) : At W0 B H σ ρ :=
  ⟨trivial, Wd.trans (Wd.same hs) A.r, L2.Paired.mapP A.e fun _ _ => slOk_base hs⟩
/-- a new base: all that stands but the lists of one's own -/
theorem At.rebase {B H H1 : Hp} {σ : L2.St} (A : At W0 B H σ ρ) (r : W0.rel H H1) :
    ∃ C, At W0 C H1 σ ρ ∧ (∀ a o, B a = some o → C a = some o) ∧ ∀ a o, H1 a = some o → (H a = none ∨ ∃ xs, o = .tup xs) → C a = some o := by
  have A1 := A.mono r
  let own : Addr → Prop := fun a => ∃ (i : Nat) (ds : List PyData), ρ[i]? = some (.l ds) ∧ σ[i]? = some (some (.ref a))
  have hown : ∀ a, own a → B a = none ∧ (∃ vs, H a = some (.lst vs)) ∧ ∃ vs, H1 a = some (.lst vs) := fun a ⟨i, ds, e1, e2⟩ => by
    obtain ⟨o, e, l, vs, eo, n, hl, t⟩ := A.get e1
    obtain ⟨o', e', l', vs', eo', n', hl', t'⟩ := A1.get e1
    rw [e2] at e e'
    have q1 : some (V.ref a) = some (.ref l) := (Option.some.inj e).trans eo
    have q2 : some (V.ref a) = some (.ref l') := (Option.some.inj e').trans eo'
    have q1 := V.ref.inj (Option.some.inj q1)
    have q2 := V.ref.inj (Option.some.inj q2)
    rw [q1]
    exact ⟨n, ⟨vs, hl⟩, vs', by rw [← q1, q2]; exact hl'⟩
  classical
  refine ⟨fun a => if own a then none else H1 a, ⟨trivial, ⟨fun _ => trivial, fun a o h _ => ?_⟩, ?_⟩, fun a o h => ?_, fun a o h hh => ?_⟩
  · by_cases q : own a
    · have z : (none : Option HO) = some o := by
        have h' : (if own a then none else H1 a) = some o := h
        rw [if_pos q] at h'
        exact h'
      cases z
    · have h' : (if own a then none else H1 a) = some o := h
      rw [if_neg q] at h'
      exact h'
  · have key : ∀ (σ' : L2.St) (ρ' : List Sl) (m : Nat), Paired (SlOk B H1) σ' ρ' → (∀ j, σ[m + j]? = σ'[j]?) → (∀ j, ρ[m + j]? = ρ'[j]?) →
        Paired (SlOk (fun a => if own a then none else H1 a) H1) σ' ρ' := by
      intro σ' ρ' m pr
      induction pr generalizing m with
      | nil => intro _ _; exact .nil
      | @cons o s σ2 ρ2 a r ih =>
        intro hs hr
        refine .cons ?_ (ih (m + 1) (fun j => by rw [show m + 1 + j = m + (j + 1) by omega, hs (j + 1)]; rfl) (fun j => by rw [show m + 1 + j = m + (j + 1) by omega, hr (j + 1)]; rfl))
        cases s with
        | no => trivial
        | d x => exact a
        | v x => exact a
        | l es =>
          obtain ⟨l, vs, e, n, hl, t⟩ := a
          refine ⟨l, vs, e, ?_, hl, t⟩
          have h0 := hs 0
          have h1 := hr 0
          rw [Nat.add_zero] at h0 h1
          have q : own l := ⟨m, es, h1, by rw [h0, ← e]; rfl⟩
          show (if own l then none else H1 l) = none
          rw [if_pos q]
    exact key σ ρ 0 A1.e (fun j => by rw [Nat.zero_add]) (fun j => by rw [Nat.zero_add])
  · show (if own a then none else H1 a) = some o
    rw [if_neg fun q => by rw [(hown a q).1] at h; cases h]
    exact (Wd.to_same A1.r) _ _ h
  · show (if own a then none else H1 a) = some o
    rw [if_neg fun q => ?_]
    · exact h
    · obtain ⟨_, ⟨vs, e1⟩, vs', e2⟩ := hown a q
      rcases hh with hh | ⟨xs, hh⟩
      · rw [e1] at hh
        cases hh
      · rw [e2, hh] at h
        cases h
/-- for g in wi: tb; I i: what the slots hold ahead of turn i -/
theorem bs_for (hsrc : SrcF wi ρ n f) (I : Nat → List Sl) (h0 : Le ρ (I 0))
    (hb : ∀ i, i < n → ∃ js ρ', Gd W0 g js (I i) (f i) ρ' ∧ Bs W0 tb ρ' (fun ρ'' => Le ρ'' (I (i + 1))) (fun _ => False) (fun _ => False)) (k : Bs W0 tz (I n) N P L) : Bs W0 (tSeq (tFor wi g tb) tz) ρ N P L := fun B σ H D A kn kr kl =>
  hsrc B σ H _ A fun J Z H1 r1 ⟨G, Y, wk, hZ, hY⟩ hst => by
    obtain ⟨C, AC, hBC, hC⟩ := A.rebase r1
    refine for_it wk (fun i σ' H' => At W0 C H' σ' (I i)) (AC.le h0) (fun i σ' H' _ A' => hZ _ (hst C hC _ (Wd.to_same A'.r))) (fun i x σ' H2 H3 hi A' y => ?_) (fun σ' H' A' => k B σ' H' D (A'.base hBC) kn kr kl)
    obtain ⟨s3, tx⟩ := hY i H2 x H3 hi (hst C hC _ (Wd.to_same A'.r)) y
    obtain ⟨js, ρ', hg, hbd⟩ := hb i hi
    exact hg C x σ' H3 _ (A'.mono (Wd.same s3)) tx fun σ2 A2 _ _ => hbd C σ2 H3 _ A2 (fun σ3 H4 ρ3 A3 l3 => A3.le l3) (fun _ _ _ _ _ z => z.elim) (fun _ _ _ _ _ _ _ _ z => z.elim)
end

/-! ### promises -/
/-- data in, data out -/
def spF (n : Nat) (F : List PyData → PyData → Prop) : Sp := fun vs H Q _ => vs.length = n ∧ ∃ ds d, TpA H vs ds ∧ F ds d ∧ ∀ v H', Same H H' → Tp H' v d → Q v H'
/-- data in, a new list of data out -/
def spL (n : Nat) (F : List PyData → List PyData → Prop) : Sp := fun vs H Q _ => vs.length = n ∧ ∃ ds rs, TpA H vs ds ∧ F ds rs ∧ ∀ p us H', Same H H' → H p = none → H' p = some (.lst us) → TpA H' us rs → Q (.ref p) H'
section
variable {W : Wd} {K : PySem.W.Frag} {ρ : List Sl} {ta : TA} {ds rs : List PyData} {d : PyData} {n : Nat} {E : XK}
theorem ee_call {F : List PyData → PyData → Prop} (h : EA W ta ρ ds) (hF : F ds d) (hn : ds.length = n) : Ee W (tCall (spF n F) [] E ta) ρ d := fun B σ H Q A k =>
  h B σ H _ A fun vs H1 ds' r1 t1 p1 => by
    subst p1
    rw [List.append_nil]
    exact ⟨by rw [t1.length, hn], _, d, t1, hF, fun v H2 s t => k v H2 d (Wd.trans r1 (Wd.same s)) t rfl⟩
theorem el_call {F : List PyData → List PyData → Prop} (h : EA W ta ρ ds) (hF : F ds rs) (hn : ds.length = n) : El W (tCall (spL n F) [] E ta) ρ (fun x => x = rs) := fun B σ H Q A k =>
  h B σ H _ A fun vs H1 ds' r1 t1 p1 => by
    subst p1
    rw [List.append_nil]
    exact ⟨by rw [t1.length, hn], _, rs, t1, hF, fun p us H2 s np e t => k p us rs H2 (Wd.trans r1 (Wd.same s)) (Wd.back A.i r1 np) e t rfl⟩
end
/-- a def as it stands behind the top, found by its name -/
abbrev FnP (K : PySem.W.Frag) (x qual : Str) (st : Stmt) (f : Addr) (fd : FuncData) : Prop := FunD K x qual (defArgs st) (defBody st) (defScope st) [] [] f fd
structure Df (K : PySem.W.Frag) (mg : Str → Option Value) (x : Str) (st : Stmt) : Prop where
  ex : ∃ f fd, FnP K x x st f fd ∧ mg x = some (.ref f)
def startS (N : List Str) (ds : List PyData) : List Sl := ds.map Sl.d ++ List.replicate (N.length - ds.length) Sl.no
theorem start_e {B H : Hp} : ∀ {vs : List V} {ds : List PyData}, TpA H vs ds → ∀ m, Paired (SlOk B H) (vs.map some ++ List.replicate m none) (ds.map Sl.d ++ List.replicate m Sl.no)
  | _, _, .nil, m => by
    induction m with
    | zero => exact .nil
    | succ m ih => exact .cons trivial ih
  | _, _, .cons a r, m => .cons ⟨_, rfl, a⟩ (start_e r m)
theorem start_at {H : Hp} {N : List Str} {vs : List V} {ds : List PyData} (h : TpA H vs ds) : At W0 H H (L2.start N vs) (startS N ds) := by
  refine ⟨trivial, Wd.refl W0 H, ?_⟩
  unfold L2.start startS
  rw [h.length]
  exact start_e h _
section
variable {P : Program} {w : World} {K : PySem.W.Frag} {mg : Str → Option Value} {base : Heap} {x : Str} {st : Stmt} {N ps : List Str} {k n : Nat}
/-- a def that may be called by its name -/
structure Cal (P : Program) (w : World) (K : PySem.W.Frag) (mg : Str → Option Value) (base : Heap) (k : Nat) (x : Str) (sp : Sp) : Prop where
  ex : ∃ (f : Addr) (fd : FuncData) (ps : List Str), FnOk P w K mg base CX0 k f fd ps sp ∧ mg x = some (.ref f) ∧ PySem.W.keepIn K (.ref f) = true ∧ Binds K fd ps []
theorem pe_c {X : Cx} {k j : Nat} {x : Str} {sp : Sp} {p pos : Pos} {e : Expr} {es : List Expr} {t : TA} (c : Cal X.prog X.w X.K X.mg X.base k x sp) (hr : Room j X.A) (hk : k ≤ j) (hg : L2.Gl X x) (ha : PA X (e :: es) t)
    (hdb : (x == ("__debug__" : Str)) = false := by decide) (he : starEach (e :: es) X.env = (false, eval e X.env) :: starEach es X.env := by rfl) (hpl : (backTo pos (starEach es X.env)).any (·.1) = false := by rfl) :
    PE X (.Call (.Name x p) (e :: es) [] pos) (tCall sp [] E0 t) := by
  obtain ⟨f, fd, ps, F, hm, kp, b⟩ := c.ex
  exact pe_call F (hr.mono hk) hg hm kp b .nil pass0 ha hdb he hpl
abbrev BindOk (x : Str) (st : Stmt) (ps : List Str) : Prop := ∀ (kV doc pm : Value) (an : Option Addr) (cdv ct : Value) (us : List Value), us.length = ps.length → bindArgs (PySem.W.fnOf x x (defArgs st) (defBody st) (defScope st) .none kV doc pm an cdv ct) ⟨us, []⟩ = pure (ps.zip us)
theorem mkF {F : List PyData → PyData → Prop} (d : Df K mg x st) (b : BindOk x st ps) (S : FnScope N ps (defScope st)) (hn : ps.length = n)
    (h : ∀ (f : Addr) (cdv : Value) (A : Around) (outer : List Env) (s : Shared) (H : Hp) (E : XK), Room k (A.deeper (envOfC x (defScope st) s.heap.objs.size f cdv)) →
      ∃ t, PSs (cxOf CX0 P w K mg base N x (defScope st) f cdv A outer s H E).nox (defBody st) t ∧ ∀ ds r, ds.length = n → F ds r → Bs W0 t (startS N ds) (fun _ => r = .none) (fun x => x = r) (fun _ => False)) : Cal P w K mg base (k + 1) x (spF n F) := by
  obtain ⟨f, fd, Fd, hm⟩ := d.ex
  refine ⟨f, fd, ps, Fd.ok S (fun vs H Q E q => by rw [q.1, hn]) (fun cdv A outer s H vs Q E hr q => ?_), hm, Fd.kp, Fd.bindsN b⟩
  obtain ⟨t, ht, hs⟩ := h f cdv A outer s H E hr
  obtain ⟨hl, ds, r, ta, hF, kk⟩ := q
  refine ⟨t, ht.nox, hs ds r (by rw [← ta.length, hl]) hF H _ H _ (start_at ta) (fun σ' H' ρ' A' e => ?_) (fun v H' d' r' t' e => ?_) (fun _ _ _ _ _ _ _ _ z => z.elim)⟩
  · subst e
    exact kk .non H' (Wd.to_same A'.r) .non
  · subst e
    exact kk v H' (Wd.to_same r') t'
theorem mkL {F : List PyData → List PyData → Prop} (d : Df K mg x st) (b : BindOk x st ps) (S : FnScope N ps (defScope st)) (hn : ps.length = n)
    (h : ∀ (f : Addr) (cdv : Value) (A : Around) (outer : List Env) (s : Shared) (H : Hp) (E : XK), Room k (A.deeper (envOfC x (defScope st) s.heap.objs.size f cdv)) →
      ∃ t, PSs (cxOf CX0 P w K mg base N x (defScope st) f cdv A outer s H E).nox (defBody st) t ∧ ∀ ds rs, ds.length = n → F ds rs → Bs W0 t (startS N ds) (fun _ => False) (fun _ => False) (fun x => x = rs)) : Cal P w K mg base (k + 1) x (spL n F) := by
  obtain ⟨f, fd, Fd, hm⟩ := d.ex
  refine ⟨f, fd, ps, Fd.ok S (fun vs H Q E q => by rw [q.1, hn]) (fun cdv A outer s H vs Q E hr q => ?_), hm, Fd.kp, Fd.bindsN b⟩
  obtain ⟨t, ht, hs⟩ := h f cdv A outer s H E hr
  obtain ⟨hl, ds, r, ta, hF, kk⟩ := q
  refine ⟨t, ht.nox, hs ds r (by rw [← ta.length, hl]) hF H _ H _ (start_at ta) (fun σ' H' ρ' A' e => e.elim) (fun _ _ _ _ _ z => z.elim) (fun p vs' ds' H' r' n' e' t' q' => ?_)⟩
  subst q'
  exact kk p vs' H' (Wd.to_same r') n' e' t'
end
end Gw

/-! ### == of scalars; classes -/
namespace Gw
open PySem PySem.Spec PyProof.Rows L2
def scalD : PyData → PyData → Bool
  | .int _, .int _ => true
  | .str _, .str _ => true
  | .none, .int _ => true
  | .int _, .none => true
  | .none, .none => true
  | _, _ => false
def eqD : PyData → PyData → Bool
  | .int i, .int j => decide (i = j)
  | .str x, .str y => decide (x = y)
  | .none, .none => true
  | _, _ => false
theorem eqD_v {H : Hp} {x y : V} {d e : PyData} (t1 : Tp H x d) (t2 : Tp H y e) (h : scalD d e = true) : scal x y = true ∧ decide (x = y) = eqD d e := by
  cases t1 <;> cases t2 <;> first | cases h | skip
  · exact ⟨rfl, rfl⟩
  · exact ⟨rfl, rfl⟩
  · exact ⟨rfl, rfl⟩
  · rename_i i j
    refine ⟨rfl, ?_⟩
    show decide (V.int i = V.int j) = decide (i = j)
    by_cases h : i = j
    · rw [h, decide_eq_true rfl, decide_eq_true rfl]
    · rw [decide_eq_false h, decide_eq_false fun z => h (V.int.inj z)]
  · rename_i i j
    refine ⟨rfl, ?_⟩
    show decide (V.str i = V.str j) = decide (i = j)
    by_cases h : i = j
    · rw [h, decide_eq_true rfl, decide_eq_true rfl]
    · rw [decide_eq_false h, decide_eq_false fun z => h (V.str.inj z)]
section
variable {W : Wd} {ρ : List Sl} {ta tb : TE} {d e : PyData}
theorem ee_eqD (ha : Ee W ta ρ d) (hb : Ee W tb ρ e) (h : scalD d e = true) : Ee W (tOp rEq ta tb) ρ (.bool (eqD d e)) := ee_op ha hb fun x y H Q I t1 t2 k => by
  obtain ⟨h1, h2⟩ := eqD_v t1 t2 h
  refine ⟨h1, ?_⟩
  rw [h2]
  exact k _ H _ (Wd.refl W H) (.bl _) rfl
theorem ee_neD (ha : Ee W ta ρ d) (hb : Ee W tb ρ e) (h : scalD d e = true) : Ee W (tOp rNe ta tb) ρ (.bool (!eqD d e)) := ee_op ha hb fun x y H Q I t1 t2 k => by
  obtain ⟨h1, h2⟩ := eqD_v t1 t2 h
  refine ⟨h1, ?_⟩
  rw [h2]
  exact k _ H _ (Wd.refl W H) (.bl _) rfl
end
theorem ki_ii : kitB "int" "int" = some true := by decide +kernel
theorem ki_ib : kitB "int" "bool" = some false := by decide +kernel
theorem ki_tt : kitB "tuple" "tuple" = some true := by decide +kernel
theorem ki_ss : kitB "str" "str" = some true := by decide +kernel
end Gw

/-! ### the layer's rules, the written part named -/
namespace Gw
open PySem PySem.Spec PyProof.Rows L2
section
variable {X : Cx} {K : PySem.W.Frag}
theorem ix_tupK (h : X.K = K) : IxR X (rIxT K) := h ▸ ix_tup
theorem ix_listK (h : X.K = K) : IxR X (rIxL K) := h ▸ ix_list
theorem call_lenK (h : X.K = K) : CallR X (.builtin "len") (rLenQ K) := h ▸ call_len_seq
theorem call_isiW (h : X.K = K) : CallR X (.builtin "isinstance") (rIsi K) := h ▸ call_isi
theorem sl_tupK (h : X.K = K) : SlR X (rSlA K) := h ▸ sl_tupA
theorem sl_listK (h : X.K = K) : SlR X (rSlL K) := h ▸ sl_list
theorem op_catK (h : X.K = K) : OpR X (binaryOp .Add) (rCatA K) := h ▸ op_catA
theorem cr_allK (h : X.K = K) (hc : X.calm = true) : CallR X (.builtin "all") (rAll K) := h ▸ cr_all hc
theorem op_eqK (h : X.K = K) (hu : X.A.units + 64 < cLine) : OpR X (compareOp .Eq) (rEqD K) := h ▸ op_eqD hu
theorem op_neK (h : X.K = K) (hu : X.A.units + 64 < cLine) : OpR X (compareOp .NotEq) (rNeD K) := h ▸ op_neD hu
theorem call_listK (h : X.K = K) : CallR X (.type "list") (fun xs H Q => ∃ p ys, xs = [.ref p] ∧ (SqL K H p ys ∨ SqT K H p ys) ∧ ∀ l, H l = none → Q (.ref l) (upd H l (.lst ys))) := h ▸ call_list_of
theorem cr_sortK (h : X.K = K) : CallR X (.builtin "sorted") (rSortedPO K) := h ▸ cr_sortedPO
theorem pi_listK (h : X.K = K) {tg l : Expr} {tl : TE} (hl : PE X l tl) : PI X tg l (iList K tl) := h ▸ pi_list hl
theorem pi_tupK (h : X.K = K) {tg l : Expr} {tl : TE} (hl : PE X l tl) : PI X tg l (iTup K tl) := h ▸ pi_tup hl
theorem pe_tupleK (h : X.K = K) {a : Expr} {ta : TE} {p pos : Pos} (hg : L2.Gl X "tuple") (hm : X.mg "tuple" = none) (ha : PE X a ta) (na : starEach [a] X.env = (false, eval a X.env) :: starEach [] X.env := by rfl) :
    PE X (.Call (.Name "tuple" p) [a] [] pos) (tThen ta (kTup K)) := h ▸ pe_tupleOf hg hm ha na
theorem pi_enumK (h : X.K = K) {e : Expr} {ta : TA} {p pos tpos : Pos} {elts : List Expr} {kk : Nat} (hg : L2.Gl X "enumerate") (hm : X.mg "enumerate" = none) (ha : PA X [e] ta) (hs : starEach [e] X.env = [(false, eval e X.env)] := by rfl) :
    PI X (.Tuple elts kk tpos) (.Call (.Name "enumerate" p) [e] [] pos) (iEnum K ta) := h ▸ pi_enum hg hm ha hs
theorem pe_fldK (h : X.K = K) {e : Expr} {f : Str} {ta : TE} {pos : Pos} (he : PE X e ta) (hb : attributeBase e f X.env (eval e X.env) = eval e X.env) : PE X (.Attribute e f pos) (tFld K ta f) := h ▸ pe_fld he hb
theorem pg_tupK (h : X.K = K) {es : List Expr} {k : Nat} {t : TGs} {n : Nat} {pos : Pos} (hc : X.calm = true) (hh : PGs X es t)
    (hn : (assignEach es X.env).length = n := by rfl) (hst : (assignEach es X.env).findIdx? (·.1) = none := by rfl) : PG X (.Tuple es k pos) (gTup K n t) := h ▸ pg_tup hc hh hn hst
theorem pe_gc {x : Str} {pos : Pos} {v : V} (hg : L2.Gl X x) (h : ∃ u, X.mg x = some u ∧ RelV v u) (hd : (x == ("__debug__" : Str)) = false := by decide) : PE X (.Name x pos) (tC v) := by
  obtain ⟨u, hm, r⟩ := h
  exact pe_glob hg hm r hd
end
end Gw
set_option Elab.async false
set_option linter.all false
set_option maxRecDepth 100000
set_option maxHeartbeats 4000000
namespace Gw
open PySem PySem.Spec PyProof.Rows L2
/-- a method of the class at C -/
structure Dm (K : PySem.W.Frag) (C : Addr) (m qual : Str) (st : Stmt) : Prop where
  ex : ∃ f fd, FnP K m qual st f fd ∧ Meth K C m f
/-- what the top has left -/
structure Txt (K : PySem.W.Frag) (mg : Str → Option Value) (w : World) (C D : Addr) : Prop where
  f_is_whole : Df K mg "is_whole" s_is_whole
  f_is_frame : Df K mg "is_frame" s_is_frame
  f_need_frame : Df K mg "need_frame" s_need_frame
  f_ticks_of : Df K mg "ticks_of" s_ticks_of
  f_place_of : Df K mg "place_of" s_place_of
  f_are_inks : Df K mg "are_inks" s_are_inks
  f_are_rows : Df K mg "are_rows" s_are_rows
  f_is_shape : Df K mg "is_shape" s_is_shape
  f_strip_of : Df K mg "strip_of" s_strip_of
  f_lying_on : Df K mg "lying_on" s_lying_on
  f_kept_on : Df K mg "kept_on" s_kept_on
  f_lost_on : Df K mg "lost_on" s_lost_on
  f_floor_strip : Df K mg "floor_strip" s_floor_strip
  f_taken : Df K mg "taken" s_taken
  f_covering : Df K mg "covering" s_covering
  f_ink_at : Df K mg "ink_at" s_ink_at
  f_is_place : Df K mg "is_place" s_is_place
  f_is_number_in : Df K mg "is_number_in" s_is_number_in
  f_is_mover : Df K mg "is_mover" s_is_mover
  f_are_pots : Df K mg "are_pots" s_are_pots
  f_is_stand : Df K mg "is_stand" s_is_stand
  f_need_stand : Df K mg "need_stand" s_need_stand
  f_is_deed : Df K mg "is_deed" s_is_deed
  f_put_in : Df K mg "put_in" s_put_in
  f_mover_behind : Df K mg "mover_behind" s_mover_behind
  f_stand_behind : Df K mg "stand_behind" s_stand_behind
  f_need_times : Df K mg "need_times" s_need_times
  f_laid : Df K mg "laid" s_laid
  f_slips : Df K mg "slips" s_slips
  f__law_draw : Df K mg "_law_draw" s_law_draw
  f__law_size : Df K mg "_law_size" s_law_size
  f__law_frame : Df K mg "_law_frame" s_law_frame
  f__law_inks : Df K mg "_law_inks" s_law_inks
  f__law_inked : Df K mg "_law_inked" s_law_inked
  f__law_far : Df K mg "_law_far" s_law_far
  f__law_mover : Df K mg "_law_mover" s_law_mover
  f__law_stand : Df K mg "_law_stand" s_law_stand
  f__law_deed : Df K mg "_law_deed" s_law_deed
  f__law_timed : Df K mg "_law_timed" s_law_timed
  f__law_behind : Df K mg "_law_behind" s_law_behind
  f__law_strip : Df K mg "_law_strip" s_law_strip
  f__law_lying : Df K mg "_law_lying" s_law_lying
  f__law_taken : Df K mg "_law_taken" s_law_taken
  f__law_cover : Df K mg "_law_cover" s_law_cover
  f__law_ink : Df K mg "_law_ink" s_law_ink
  f__law_laid : Df K mg "_law_laid" s_law_laid
  f_law : Df K mg "law" s_law
  b_isinstance : mg "isinstance" = none
  b_len : mg "len" = none
  b_int : mg "int" = none
  b_bool : mg "bool" = none
  b_tuple : mg "tuple" = none
  b_str : mg "str" = none
  b_all : mg "all" = none
  b_enumerate : mg "enumerate" = none
  b_range : mg "range" = none
  b_list : mg "list" = none
  b_divmod : mg "divmod" = none
  b_sorted : mg "sorted" = none
  b_max : mg "max" = none
  b_min : mg "min" = none
  n_MOST_WIDE : ∃ u, mg "MOST_WIDE" = some u ∧ RelV (.int 40) u
  n_MOST_HIGH : ∃ u, mg "MOST_HIGH" = some u ∧ RelV (.int 40) u
  n_MOST_GAP : ∃ u, mg "MOST_GAP" = some u ∧ RelV (.int 20) u
  n_MOST_KEPT : ∃ u, mg "MOST_KEPT" = some u ∧ RelV (.int 12) u
  n_INKS : ∃ u, mg "INKS" = some u ∧ RelV (.int 16) u
  n_MOST_SIDE : ∃ u, mg "MOST_SIDE" = some u ∧ RelV (.int 8) u
  n_FLOOR_SIDE : ∃ u, mg "FLOOR_SIDE" = some u ∧ RelV (.int 16) u
  n_MOST_SHAPES : ∃ u, mg "MOST_SHAPES" = some u ∧ RelV (.int 8) u
  n_MOST_MOVERS : ∃ u, mg "MOST_MOVERS" = some u ∧ RelV (.int 12) u
  n_HUES : ∃ u, mg "HUES" = some u ∧ RelV (.int 64) u
  n_FAR : ∃ u, mg "FAR" = some u ∧ RelV (.int 1000) u
  gC : mg "Beam" = some (.ref C)
  cl : Cls K C
  mkr : ∃ f fd, FnP K "__init__" "Beam.__init__" s_init f fd ∧ Mk K C f
  a_frame : NoAttr K C "frame"
  a_now : NoAttr K C "now"
  a_gone : NoAttr K C "gone"
  a_row_taken : NoAttr K C "row_taken"
  a_laid_rows : NoAttr K C "laid_rows"
  a_met : NoAttr K C "met"
  a_grounded : NoAttr K C "grounded"
  a_lost_ones : NoAttr K C "lost_ones"
  m_tick : Dm K C "tick" "Beam.tick" s_tick
  m_is_over : Dm K C "is_over" "Beam.is_over" s_is_over
  m_deed : Dm K C "deed" "Beam.deed" s_deed
  m_go : Dm K C "go" "Beam.go" s_go
  m_one_tick : Dm K C "one_tick" "Beam.one_tick" s_one_tick
  m_note_touches : Dm K C "note_touches" "Beam.note_touches" s_note_touches
  m_picture : Dm K C "picture" "Beam.picture" s_picture
  gD : mg "DEED_PARTS" = some (.ref D)
  kd : ∃ es n, KDict K w D es n
  p_shift : ∃ u, PySem.W.nsIn K D "shift" = some (some u) ∧ RelV (.int 3) u
  p_move : ∃ u, PySem.W.nsIn K D "move" = some (some u) ∧ RelV (.int 4) u
  p_shape : ∃ u, PySem.W.nsIn K D "shape" = some (some u) ∧ RelV (.int 3) u
  p_rank : ∃ u, PySem.W.nsIn K D "rank" = some (some u) ∧ RelV (.int 3) u
  p_turn : ∃ u, PySem.W.nsIn K D "turn" = some (some u) ∧ RelV (.int 3) u
  p_pot : ∃ u, PySem.W.nsIn K D "pot" = some (some u) ∧ RelV (.int 3) u
section
variable {K : PySem.W.Frag} {mg : Str → Option Value} {w : World} {h : Heap}
theorem df_of {x : Str} {st : Stmt} {f : Addr} (hf : ∃ fd, FunD K x x (defArgs st) (defBody st) (defScope st) [] [] f fd) (hm : mg x = some (.ref f)) : Df K mg x st := by
  obtain ⟨fd, F⟩ := hf
  exact ⟨f, fd, F, hm⟩
theorem txt_of (X : K.In h) (G : h.Ns mainGlobals mg) (c : SaysY fac fnl tab exx w K) : Txt K mg w (He.ga K "Beam") (He.ga K "DEED_PARTS") := by
  have d : He.SaysD fac fnl K := c.1.d
  have vals : He.valsB K (He.ga K "DEED_PARTS") [("shift", .int 3), ("move", .int 4), ("shape", .int 3), ("rank", .int 3), ("turn", .int 3), ("pot", .int 3)] = true := c.2
  exact {
    f_is_whole := df_of (d.def_ 0 (d := d_is_whole) rfl) (He.glo_ok X G (d.fact 0 (f := .glo "is_whole") rfl))
    f_is_frame := df_of (d.def_ 1 (d := d_is_frame) rfl) (He.glo_ok X G (d.fact 1 (f := .glo "is_frame") rfl))
    f_need_frame := df_of (d.def_ 2 (d := d_need_frame) rfl) (He.glo_ok X G (d.fact 2 (f := .glo "need_frame") rfl))
    f_ticks_of := df_of (d.def_ 3 (d := d_ticks_of) rfl) (He.glo_ok X G (d.fact 3 (f := .glo "ticks_of") rfl))
    f_place_of := df_of (d.def_ 4 (d := d_place_of) rfl) (He.glo_ok X G (d.fact 4 (f := .glo "place_of") rfl))
    f_are_inks := df_of (d.def_ 5 (d := d_are_inks) rfl) (He.glo_ok X G (d.fact 5 (f := .glo "are_inks") rfl))
    f_are_rows := df_of (d.def_ 6 (d := d_are_rows) rfl) (He.glo_ok X G (d.fact 6 (f := .glo "are_rows") rfl))
    f_is_shape := df_of (d.def_ 7 (d := d_is_shape) rfl) (He.glo_ok X G (d.fact 7 (f := .glo "is_shape") rfl))
    f_strip_of := df_of (d.def_ 8 (d := d_strip_of) rfl) (He.glo_ok X G (d.fact 8 (f := .glo "strip_of") rfl))
    f_lying_on := df_of (d.def_ 9 (d := d_lying_on) rfl) (He.glo_ok X G (d.fact 9 (f := .glo "lying_on") rfl))
    f_kept_on := df_of (d.def_ 10 (d := d_kept_on) rfl) (He.glo_ok X G (d.fact 10 (f := .glo "kept_on") rfl))
    f_lost_on := df_of (d.def_ 11 (d := d_lost_on) rfl) (He.glo_ok X G (d.fact 11 (f := .glo "lost_on") rfl))
    f_floor_strip := df_of (d.def_ 12 (d := d_floor_strip) rfl) (He.glo_ok X G (d.fact 12 (f := .glo "floor_strip") rfl))
    f_taken := df_of (d.def_ 13 (d := d_taken) rfl) (He.glo_ok X G (d.fact 13 (f := .glo "taken") rfl))
    f_covering := df_of (d.def_ 14 (d := d_covering) rfl) (He.glo_ok X G (d.fact 14 (f := .glo "covering") rfl))
    f_ink_at := df_of (d.def_ 15 (d := d_ink_at) rfl) (He.glo_ok X G (d.fact 15 (f := .glo "ink_at") rfl))
    f_is_place := df_of (d.def_ 16 (d := d_is_place) rfl) (He.glo_ok X G (d.fact 16 (f := .glo "is_place") rfl))
    f_is_number_in := df_of (d.def_ 17 (d := d_is_number_in) rfl) (He.glo_ok X G (d.fact 17 (f := .glo "is_number_in") rfl))
    f_is_mover := df_of (d.def_ 18 (d := d_is_mover) rfl) (He.glo_ok X G (d.fact 18 (f := .glo "is_mover") rfl))
    f_are_pots := df_of (d.def_ 19 (d := d_are_pots) rfl) (He.glo_ok X G (d.fact 19 (f := .glo "are_pots") rfl))
    f_is_stand := df_of (d.def_ 20 (d := d_is_stand) rfl) (He.glo_ok X G (d.fact 20 (f := .glo "is_stand") rfl))
    f_need_stand := df_of (d.def_ 21 (d := d_need_stand) rfl) (He.glo_ok X G (d.fact 21 (f := .glo "need_stand") rfl))
    f_is_deed := df_of (d.def_ 22 (d := d_is_deed) rfl) (He.glo_ok X G (d.fact 22 (f := .glo "is_deed") rfl))
    f_put_in := df_of (d.def_ 23 (d := d_put_in) rfl) (He.glo_ok X G (d.fact 23 (f := .glo "put_in") rfl))
    f_mover_behind := df_of (d.def_ 24 (d := d_mover_behind) rfl) (He.glo_ok X G (d.fact 24 (f := .glo "mover_behind") rfl))
    f_stand_behind := df_of (d.def_ 25 (d := d_stand_behind) rfl) (He.glo_ok X G (d.fact 25 (f := .glo "stand_behind") rfl))
    f_need_times := df_of (d.def_ 34 (d := d_need_times) rfl) (He.glo_ok X G (d.fact 26 (f := .glo "need_times") rfl))
    f_laid := df_of (d.def_ 35 (d := d_laid) rfl) (He.glo_ok X G (d.fact 27 (f := .glo "laid") rfl))
    f_slips := df_of (d.def_ 36 (d := d_slips) rfl) (He.glo_ok X G (d.fact 28 (f := .glo "slips") rfl))
    f__law_draw := df_of (d.def_ 37 (d := d_law_draw) rfl) (He.glo_ok X G (d.fact 29 (f := .glo "_law_draw") rfl))
    f__law_size := df_of (d.def_ 38 (d := d_law_size) rfl) (He.glo_ok X G (d.fact 30 (f := .glo "_law_size") rfl))
    f__law_frame := df_of (d.def_ 39 (d := d_law_frame) rfl) (He.glo_ok X G (d.fact 31 (f := .glo "_law_frame") rfl))
    f__law_inks := df_of (d.def_ 40 (d := d_law_inks) rfl) (He.glo_ok X G (d.fact 32 (f := .glo "_law_inks") rfl))
    f__law_inked := df_of (d.def_ 41 (d := d_law_inked) rfl) (He.glo_ok X G (d.fact 33 (f := .glo "_law_inked") rfl))
    f__law_far := df_of (d.def_ 42 (d := d_law_far) rfl) (He.glo_ok X G (d.fact 34 (f := .glo "_law_far") rfl))
    f__law_mover := df_of (d.def_ 43 (d := d_law_mover) rfl) (He.glo_ok X G (d.fact 35 (f := .glo "_law_mover") rfl))
    f__law_stand := df_of (d.def_ 44 (d := d_law_stand) rfl) (He.glo_ok X G (d.fact 36 (f := .glo "_law_stand") rfl))
    f__law_deed := df_of (d.def_ 45 (d := d_law_deed) rfl) (He.glo_ok X G (d.fact 37 (f := .glo "_law_deed") rfl))
    f__law_timed := df_of (d.def_ 46 (d := d_law_timed) rfl) (He.glo_ok X G (d.fact 38 (f := .glo "_law_timed") rfl))
    f__law_behind := df_of (d.def_ 47 (d := d_law_behind) rfl) (He.glo_ok X G (d.fact 39 (f := .glo "_law_behind") rfl))
    f__law_strip := df_of (d.def_ 48 (d := d_law_strip) rfl) (He.glo_ok X G (d.fact 40 (f := .glo "_law_strip") rfl))
    f__law_lying := df_of (d.def_ 49 (d := d_law_lying) rfl) (He.glo_ok X G (d.fact 41 (f := .glo "_law_lying") rfl))
    f__law_taken := df_of (d.def_ 50 (d := d_law_taken) rfl) (He.glo_ok X G (d.fact 42 (f := .glo "_law_taken") rfl))
    f__law_cover := df_of (d.def_ 51 (d := d_law_cover) rfl) (He.glo_ok X G (d.fact 43 (f := .glo "_law_cover") rfl))
    f__law_ink := df_of (d.def_ 52 (d := d_law_ink) rfl) (He.glo_ok X G (d.fact 44 (f := .glo "_law_ink") rfl))
    f__law_laid := df_of (d.def_ 53 (d := d_law_laid) rfl) (He.glo_ok X G (d.fact 45 (f := .glo "_law_laid") rfl))
    f_law := df_of (d.def_ 54 (d := d_law) rfl) (He.glo_ok X G (d.fact 46 (f := .glo "law") rfl))
    b_isinstance := He.free_ok X G (d.fact 51 (f := .free "isinstance") rfl)
    b_len := He.free_ok X G (d.fact 52 (f := .free "len") rfl)
    b_int := He.free_ok X G (d.fact 53 (f := .free "int") rfl)
    b_bool := He.free_ok X G (d.fact 54 (f := .free "bool") rfl)
    b_tuple := He.free_ok X G (d.fact 55 (f := .free "tuple") rfl)
    b_str := He.free_ok X G (d.fact 56 (f := .free "str") rfl)
    b_all := He.free_ok X G (d.fact 57 (f := .free "all") rfl)
    b_enumerate := He.free_ok X G (d.fact 58 (f := .free "enumerate") rfl)
    b_range := He.free_ok X G (d.fact 59 (f := .free "range") rfl)
    b_list := He.free_ok X G (d.fact 60 (f := .free "list") rfl)
    b_divmod := He.free_ok X G (d.fact 61 (f := .free "divmod") rfl)
    b_sorted := He.free_ok X G (d.fact 62 (f := .free "sorted") rfl)
    b_max := He.free_ok X G (d.fact 63 (f := .free "max") rfl)
    b_min := He.free_ok X G (d.fact 64 (f := .free "min") rfl)
    n_MOST_WIDE := (He.int_ok X G (d.fact 65 (f := .int "MOST_WIDE" 40) rfl)).elim fun t e => ⟨_, e, t, rfl⟩
    n_MOST_HIGH := (He.int_ok X G (d.fact 66 (f := .int "MOST_HIGH" 40) rfl)).elim fun t e => ⟨_, e, t, rfl⟩
    n_MOST_GAP := (He.int_ok X G (d.fact 67 (f := .int "MOST_GAP" 20) rfl)).elim fun t e => ⟨_, e, t, rfl⟩
    n_MOST_KEPT := (He.int_ok X G (d.fact 68 (f := .int "MOST_KEPT" 12) rfl)).elim fun t e => ⟨_, e, t, rfl⟩
    n_INKS := (He.int_ok X G (d.fact 69 (f := .int "INKS" 16) rfl)).elim fun t e => ⟨_, e, t, rfl⟩
    n_MOST_SIDE := (He.int_ok X G (d.fact 70 (f := .int "MOST_SIDE" 8) rfl)).elim fun t e => ⟨_, e, t, rfl⟩
    n_FLOOR_SIDE := (He.int_ok X G (d.fact 71 (f := .int "FLOOR_SIDE" 16) rfl)).elim fun t e => ⟨_, e, t, rfl⟩
    n_MOST_SHAPES := (He.int_ok X G (d.fact 72 (f := .int "MOST_SHAPES" 8) rfl)).elim fun t e => ⟨_, e, t, rfl⟩
    n_MOST_MOVERS := (He.int_ok X G (d.fact 73 (f := .int "MOST_MOVERS" 12) rfl)).elim fun t e => ⟨_, e, t, rfl⟩
    n_HUES := (He.int_ok X G (d.fact 74 (f := .int "HUES" 64) rfl)).elim fun t e => ⟨_, e, t, rfl⟩
    n_FAR := (He.int_ok X G (d.fact 75 (f := .int "FAR" 1000) rfl)).elim fun t e => ⟨_, e, t, rfl⟩
    gC := He.glo_ok X G (d.fact 47 (f := .glo "Beam") rfl)
    cl := He.cls_ok (d.fact 48 (f := .cls "Beam") rfl)
    mkr := (d.def_ 26 (d := d_init) rfl).elim fun fd F => ⟨_, fd, F, He.mkr_ok (d.fact 49 (f := .mkr "Beam") rfl)⟩
    a_frame := He.noat_ok (d.fact 76 (f := .noat "Beam" "frame") rfl)
    a_now := He.noat_ok (d.fact 77 (f := .noat "Beam" "now") rfl)
    a_gone := He.noat_ok (d.fact 78 (f := .noat "Beam" "gone") rfl)
    a_row_taken := He.noat_ok (d.fact 79 (f := .noat "Beam" "row_taken") rfl)
    a_laid_rows := He.noat_ok (d.fact 80 (f := .noat "Beam" "laid_rows") rfl)
    a_met := He.noat_ok (d.fact 81 (f := .noat "Beam" "met") rfl)
    a_grounded := He.noat_ok (d.fact 82 (f := .noat "Beam" "grounded") rfl)
    a_lost_ones := He.noat_ok (d.fact 83 (f := .noat "Beam" "lost_ones") rfl)
    m_tick := ⟨(d.def_ 27 (d := d_tick) rfl).elim fun fd F => ⟨_, fd, F, He.meth_ok (d.fact 84 (f := .meth "Beam" "tick") rfl)⟩⟩
    m_is_over := ⟨(d.def_ 28 (d := d_is_over) rfl).elim fun fd F => ⟨_, fd, F, He.meth_ok (d.fact 85 (f := .meth "Beam" "is_over") rfl)⟩⟩
    m_deed := ⟨(d.def_ 29 (d := d_deed) rfl).elim fun fd F => ⟨_, fd, F, He.meth_ok (d.fact 86 (f := .meth "Beam" "deed") rfl)⟩⟩
    m_go := ⟨(d.def_ 30 (d := d_go) rfl).elim fun fd F => ⟨_, fd, F, He.meth_ok (d.fact 87 (f := .meth "Beam" "go") rfl)⟩⟩
    m_one_tick := ⟨(d.def_ 31 (d := d_one_tick) rfl).elim fun fd F => ⟨_, fd, F, He.meth_ok (d.fact 88 (f := .meth "Beam" "one_tick") rfl)⟩⟩
    m_note_touches := ⟨(d.def_ 32 (d := d_note_touches) rfl).elim fun fd F => ⟨_, fd, F, He.meth_ok (d.fact 89 (f := .meth "Beam" "note_touches") rfl)⟩⟩
    m_picture := ⟨(d.def_ 33 (d := d_picture) rfl).elim fun fd F => ⟨_, fd, F, He.meth_ok (d.fact 90 (f := .meth "Beam" "picture") rfl)⟩⟩
    gD := He.glo_ok X G (d.fact 50 (f := .glo "DEED_PARTS") rfl)
    kd := c.1.tab 0 (t := (fun K => He.ga K "DEED_PARTS", ["shift", "move", "shape", "rank", "turn", "pot"])) rfl
    p_shift := He.valsB_ok vals (q := ("shift", .int 3)) (by simp)
    p_move := He.valsB_ok vals (q := ("move", .int 4)) (by simp)
    p_shape := He.valsB_ok vals (q := ("shape", .int 3)) (by simp)
    p_rank := He.valsB_ok vals (q := ("rank", .int 3)) (by simp)
    p_turn := He.valsB_ok vals (q := ("turn", .int 3)) (by simp)
    p_pot := He.valsB_ok vals (q := ("pot", .int 3)) (by simp)
  }
end
end Gw
set_option Elab.async false
set_option linter.all false
set_option maxRecDepth 100000
set_option maxHeartbeats 4000000
/-! The data of the program, and what its defs do, in plain Lean. -/
namespace Gw
open PySem PySem.Spec PyProof.Rows L2
/-! ### data -/
structure Frame where
  wide : Int
  high : Int
  gap : Int
  most : Int
def Frame.d (f : Frame) : PyData := .tuple [.int f.wide, .int f.high, .int f.gap, .int f.most]
structure Frame.Ok (f : Frame) : Prop where
  w1 : 1 ≤ f.wide
  w2 : f.wide ≤ 40
  h1 : 1 ≤ f.high
  h2 : f.high ≤ 40
  g1 : 0 ≤ f.gap
  g2 : f.gap ≤ 20
  m1 : 0 ≤ f.most
  m2 : f.most ≤ 12
def Frame.ticks (f : Frame) : Int := f.high * (f.wide + f.gap)
def inksD (l : List Int) : PyData := .tuple (l.map .int)
def rowsD (r : List (List Int)) : PyData := .tuple (r.map inksD)
def shapeD : Option Nat → PyData
  | none => .none
  | some n => .int n
structure Mover where
  shape : Option Nat
  x : Int
  y : Int
  rank : Int
  turn : Int
deriving DecidableEq
def Mover.d (m : Mover) : PyData := .tuple [shapeD m.shape, .int m.x, .int m.y, .int m.rank, .int m.turn]
structure Stand where
  floor : List (List Int)
  sx : Int
  sy : Int
  book : List (List (List Int))
  movers : List Mover
  pots : List Int
def bookD (b : List (List (List Int))) : PyData := .tuple (b.map rowsD)
def moversD (m : List Mover) : PyData := .tuple (m.map Mover.d)
def Stand.d (s : Stand) : PyData := .tuple [rowsD s.floor, .tuple [.int s.sx, .int s.sy], bookD s.book, moversD s.movers, inksD s.pots]
inductive Deed where
  | shift (x y : Int)
  | pot (i : Nat) (h : Int)
  | move (n : Nat) (x y : Int)
  | shape (n : Nat) (s : Option Nat)
  | rank (n : Nat) (r : Int)
  | turn (n : Nat) (t : Int)
def Deed.d : Deed → PyData
  | .shift x y => .tuple [.str "shift", .int x, .int y]
  | .pot i h => .tuple [.str "pot", .int i, .int h]
  | .move n x y => .tuple [.str "move", .int n, .int x, .int y]
  | .shape n s => .tuple [.str "shape", .int n, shapeD s]
  | .rank n r => .tuple [.str "rank", .int n, .int r]
  | .turn n t => .tuple [.str "turn", .int n, .int t]
def InkOk (i : Int) : Prop := 0 ≤ i ∧ i ≤ 15
def Far (x : Int) : Prop := -1000 ≤ x ∧ x ≤ 1000
/-- rows of inks, all as long as one another -/
structure RowsOk (most : Nat) (r : List (List Int)) : Prop where
  h1 : 1 ≤ r.length
  h2 : r.length ≤ most
  wd : ∃ n, 1 ≤ n ∧ n ≤ most ∧ ∀ row ∈ r, row.length = n ∧ ∀ i ∈ row, InkOk i
def ShapeOk (book : Nat) (s : Option Nat) : Prop := ∀ n, s = some n → n < book
structure MoverOk (book : Nat) (m : Mover) : Prop where
  s : ShapeOk book m.shape
  x : Far m.x
  y : Far m.y
  r1 : 0 ≤ m.rank
  r2 : m.rank ≤ 3
  t1 : 0 ≤ m.turn
  t2 : m.turn ≤ 3
structure Stand.Ok (s : Stand) : Prop where
  fl : RowsOk 16 s.floor
  sx : Far s.sx
  sy : Far s.sy
  b1 : s.book.length ≤ 8
  bk : ∀ r ∈ s.book, RowsOk 8 r
  m1 : s.movers.length ≤ 12
  mv : ∀ m ∈ s.movers, MoverOk s.book.length m
  p1 : s.pots.length = 16
  po : ∀ h ∈ s.pots, 0 ≤ h ∧ h ≤ 63
def Deed.Ok (s : Stand) : Deed → Prop
  | .shift x y => Far x ∧ Far y
  | .pot i h => i < 16 ∧ 0 ≤ h ∧ h ≤ 63
  | .move n x y => n < s.movers.length ∧ Far x ∧ Far y
  | .shape n t => n < s.movers.length ∧ ShapeOk s.book.length t
  | .rank n r => n < s.movers.length ∧ 0 ≤ r ∧ r ≤ 3
  | .turn n t => n < s.movers.length ∧ 0 ≤ t ∧ t ≤ 3
/-! ### what the defs do -/
def gI (l : List Int) (i : Int) : Int := l.getD i.toNat 0
def gR (r : List (List Int)) (i : Int) : List Int := r.getD i.toNat []
def gB (b : List (List (List Int))) (i : Nat) : List (List Int) := b.getD i []
def gM (m : List Mover) (i : Nat) : Mover := m.getD i ⟨none, 0, 0, 0, 0⟩
def stripOf (shape : List (List Int)) (turn row : Int) : List Int :=
  if row < 0 ∨ (shape.length : Int) ≤ row then [] else
  let r := gR shape (if 2 ≤ turn then (shape.length : Int) - 1 - row else row)
  if turn % 2 = 1 then r.reverse else r
/-- whether a mover lies on a row -/
def lies (book : List (List (List Int))) (m : Mover) (row : Int) : Bool := match m.shape with
  | none => false
  | some n => decide (0 ≤ row - m.y) && decide (row - m.y < ((gB book n).length : Int))
def lying (s : Stand) (row : Int) : List Nat := (List.range s.movers.length).filter fun i => lies s.book (gM s.movers i) row
def kept (f : Frame) (s : Stand) (row : Int) : List Nat := (lying s row).take f.most.toNat
def floorStrip (f : Frame) (s : Stand) (row : Int) : List Int :=
  let inks := gR s.floor ((row + s.sy) % (s.floor.length : Int))
  (List.range f.wide.toNat).map fun (x : Nat) => gI inks (((x : Int) + s.sx) % (inks.length : Int))
structure Strip where
  number : Nat
  left : Int
  rank : Int
  inks : List Int
def Strip.d (t : Strip) : PyData := .tuple [.int t.number, .int t.left, .int t.rank, inksD t.inks]
def stripAt (s : Stand) (row : Int) (i : Nat) : Strip :=
  let m := gM s.movers i
  ⟨i, m.x, m.rank, stripOf (gB s.book (m.shape.getD 0)) m.turn (row - m.y)⟩
structure Taken where
  inks : List Int
  strips : List Strip
def Taken.d (t : Taken) : PyData := .tuple [inksD t.inks, .tuple (t.strips.map Strip.d)]
def taken (f : Frame) (s : Stand) (row : Int) : Taken := ⟨floorStrip f s row, (kept f s row).map (stripAt s row)⟩
/-- whether a strip covers a spot -/
def covers (t : Strip) (x : Int) : Bool := decide (0 ≤ x - t.left) && (decide (x - t.left < (t.inks.length : Int)) && !decide (gI t.inks (x - t.left) = 0))
def covering (t : Taken) (x : Int) : List Strip := t.strips.filter fun s => covers s x
def covD (x : Int) (t : Strip) : PyData := .tuple [.int t.number, .int t.rank, .int (gI t.inks (x - t.left))]
/-- the one that is shown: rank and ink -/
def bestStep (x : Int) (b : Option (Int × Int)) (t : Strip) : Option (Int × Int) := match b with
  | none => some (t.rank, gI t.inks (x - t.left))
  | some c => if c.1 < t.rank then some (t.rank, gI t.inks (x - t.left)) else some c
def bestOf (x : Int) (l : List Strip) : Option (Int × Int) := l.foldl (bestStep x) none
def inkAt (t : Taken) (x : Int) : Int := match bestOf x (covering t x) with
  | none => gI t.inks x
  | some b => if b.1 = 0 ∧ gI t.inks x ≠ 0 then gI t.inks x else b.2
def Deed.move1 (m : Mover) : Deed → Mover
  | .move _ x y => { m with x := x, y := y }
  | .shape _ s => { m with shape := s }
  | .rank _ r => { m with rank := r }
  | .turn _ t => { m with turn := t }
  | _ => m
def Deed.num : Deed → Nat
  | .move n _ _ => n
  | .shape n _ => n
  | .rank n _ => n
  | .turn n _ => n
  | .pot i _ => i
  | _ => 0
def behind (s : Stand) : Deed → Stand
  | .shift x y => { s with sx := x, sy := y }
  | .pot i h => { s with pots := s.pots.set i h }
  | d => { s with movers := s.movers.set d.num (d.move1 (gM s.movers d.num)) }
/-! ### reading -/
theorem atI_at {α : Type} {l : List α} {i : Int} (h0 : 0 ≤ i) (h1 : i < (l.length : Int)) : atI l i = l[i.toNat]? := by
  obtain ⟨n, rfl⟩ := Int.eq_ofNat_of_zero_le h0
  have hn : n < l.length := by omega
  show atI l (n : Int) = l[(n : Int).toNat]?
  rw [Int.toNat_natCast, List.getElem?_eq_getElem hn]
  exact atI_nat (List.getElem?_eq_getElem hn)
theorem atI_map {α : Type} {f : α → PyData} {l : List α} {i : Int} (e : α) (h0 : 0 ≤ i) (h1 : i < (l.length : Int)) : atI (l.map f) i = some (f (l.getD i.toNat e)) := by
  rw [atI_at h0 (by rw [List.length_map]; exact h1), List.getElem?_map, List.getD_eq_getElem?_getD, List.getElem?_eq_getElem (by omega)]
  rfl
theorem atI_int {l : List Int} {i : Int} (h0 : 0 ≤ i) (h1 : i < (l.length : Int)) : atI (l.map PyData.int) i = some (.int (gI l i)) := atI_map 0 h0 h1
theorem atI_row {r : List (List Int)} {i : Int} (h0 : 0 ≤ i) (h1 : i < (r.length : Int)) : atI (r.map inksD) i = some (inksD (gR r i)) := atI_map [] h0 h1
theorem atI_book {b : List (List (List Int))} {n : Nat} (h1 : n < b.length) : atI (b.map rowsD) (n : Int) = some (rowsD (gB b n)) := by
  rw [atI_map [] (by omega) (by omega)]
  rfl
theorem atI_mover {m : List Mover} {n : Nat} (h1 : n < m.length) : atI (m.map Mover.d) (n : Int) = some (gM m n).d := by
  rw [atI_map ⟨none, 0, 0, 0, 0⟩ (by omega) (by omega)]
  rfl
theorem gI_mem {l : List Int} {i : Int} (h0 : 0 ≤ i) (h1 : i < (l.length : Int)) : gI l i ∈ l := by
  unfold gI
  rw [List.getD_eq_getElem?_getD, List.getElem?_eq_getElem (by omega)]
  exact List.getElem_mem _
theorem gR_mem {l : List (List Int)} {i : Int} (h0 : 0 ≤ i) (h1 : i < (l.length : Int)) : gR l i ∈ l := by
  unfold gR
  rw [List.getD_eq_getElem?_getD, List.getElem?_eq_getElem (by omega)]
  exact List.getElem_mem _
theorem gB_mem {l : List (List (List Int))} {i : Nat} (h1 : i < l.length) : gB l i ∈ l := by
  unfold gB
  rw [List.getD_eq_getElem?_getD, List.getElem?_eq_getElem h1]
  exact List.getElem_mem _
theorem gM_mem {l : List Mover} {i : Nat} (h1 : i < l.length) : gM l i ∈ l := by
  unfold gM
  rw [List.getD_eq_getElem?_getD, List.getElem?_eq_getElem h1]
  exact List.getElem_mem _
end Gw
set_option Elab.async false
set_option linter.all false
set_option maxRecDepth 100000
set_option maxHeartbeats 4000000
/-! t[::-1] of a tuple; enumerate over a tuple. -/
namespace Gw
open PySem PySem.Spec PyProof.Rows L2 HT
section
variable {prog : Program} {w : World} {A : Around} {E : Value → Shared → Prop} {s : Shared}
theorem pickCongr {f g : Nat → Option Value} : ∀ l : List Nat, (∀ m ∈ l, f m = g m) → l.filterMap f = l.filterMap g
  | [], _ => rfl
  | a :: r, h => by
    rw [List.filterMap_cons, List.filterMap_cons, h a List.mem_cons_self, pickCongr r fun m hm => h m (List.mem_cons_of_mem _ hm)]
/-- the places of [::-1] -/
theorem backPlaces (n : Nat) : Builtin.Slice.slicePlaces ((n : Int) - 1) (-1) (-1) = n := by
  unfold Builtin.Slice.slicePlaces
  rw [if_neg (by omega)]
  by_cases h : n = 0
  · subst h
    rfl
  · rw [if_pos (by omega), show (n : Int) - 1 - -1 - 1 = (n : Int) - 1 by omega, show (-(-1 : Int)) = 1 by omega, Int.ediv_one]
    omega
theorem backPick (xs : Array Value) : ((List.range xs.size).filterMap fun (m : Nat) => xs[(((xs.size : Int) - 1) + (m : Int) * -1).toNat]?).toArray = xs.toList.reverse.toArray := by
  congr 1
  have e : ∀ m ∈ List.range xs.size, xs[(((xs.size : Int) - 1) + (m : Int) * -1).toNat]? = xs.toList.reverse[m]? := by
    intro m hm
    have hm := List.mem_range.mp hm
    have e1 : (((xs.size : Int) - 1) + (m : Int) * -1).toNat = xs.size - 1 - m := by omega
    rw [e1, List.getElem?_reverse (by simpa using hm)]
    simp
  rw [pickCongr _ e]
  have key : ∀ l : List Value, (List.range l.length).filterMap (fun m => l[m]?) = l := by
    intro l
    induction l with
    | nil => rfl
    | cons a r ih =>
      rw [List.length_cons, List.range_succ_eq_map, List.filterMap_cons]
      simp only [List.getElem?_cons_zero, List.filterMap_map]
      congr 1
  have := key xs.toList.reverse
  rw [List.length_reverse, Array.length_toList] at this
  exact this
theorem back_applied {sl : Addr} {t : Tok} {n : Nat} {Q : Int × Int × Nat → Shared → Prop} (hs : s.heap.IsSliceOf sl .none .none (.int (-1) t))
    (h : Q ((n : Int) - 1, -1, n) s) : wpAny (model prog w) A (Builtin.Slice.sliceApplied (.ref sl) (pure (n : Int))) Q E s := by
  obtain ⟨os, hos, hcs, hds⟩ := id hs
  unfold Builtin.Slice.sliceApplied Builtin.Slice.sliceFields
  refine wpAny_bind (wpAny_bind (wpAny_field hos hds (x := .none) rfl (wpAny_bind (wpAny_field hos hds (x := .none) rfl (wpAny_bind (wpAny_field hos hds (x := .int (-1) t) rfl (wpAny_pure ?_)))))))
  refine wpAny_bind (slicePart_ (.int (-1) t) ?_)
  show wpAny _ _ (if ((-1 : Int) == 0) = true then _ else _) _ _ s
  rw [if_neg (by decide)]
  refine wpAny_bind (slicePart_ .none (wpAny_bind (slicePart_ .none (wpAny_bind (wpAny_pure ?_)))))
  show wpAny _ _ (pure ((n : Int) - 1, (-1 : Int), Builtin.Slice.slicePlaces ((n : Int) - 1) (-1) (-1))) _ _ s
  rw [backPlaces]
  exact wpAny_pure h
theorem back_item {t sl : Addr} {items : Array Value} {tk : Tok} {Q : Value → Shared → Prop} (ht : IsTup s.heap t items) (hs : s.heap.IsSliceOf sl .none .none (.int (-1) tk))
    (h : Q (.ref s.heap.objs.size) { s with heap := s.heap.push { cls := .type "tuple", data := .seq items.toList.reverse.toArray } }) (hsz : items.size ≤ sizeLine) : wpAny (model prog w) A (getItem (.ref t) (.ref sl)) Q E s := by
  have hok : sizeOk (.seq items.toList.reverse.toArray) := by
    show items.toList.reverse.toArray.size ≤ sizeLine
    rw [List.size_toArray, List.length_reverse, Array.length_toList]
    exact hsz
  obtain ⟨os, hos, hcs, hds⟩ := id hs
  have hT : s.TypeIs (.ref sl) "slice" := ⟨os, hos, hcs⟩
  unfold getItem
  try with_reducible refine wpAny_holding ?_
  first | refine wpAny_bind (wpAny_pure ?_) | skip
  refine wpAny_bind (wpAny_sequenceKey ht.typeIs (by decide) (wpAny_bind (wpAny_callSpecial?_slot (name := Str.ofString "__getitem__") ht.typeIs PyProof.Rows.slot_tuple_getitem (wpAny_call_entry PyProof.Rows.slot_tuple_getitem ht.typeIs entry_tuple_getitem ?_ (args_tuple_getitem _ _)))))
  show wpAny _ _ (Builtin.Tuple.tupleItemsOf (.ref t) >>= _) _ _ s
  refine wpAny_bind (tupleItemsOf_ ht (wpAny_bind (wpAny_typeOf hT ?_)))
  rw [if_pos (by decide)]
  refine wpAny_bind (back_applied hs ?_)
  have hno : ¬ ((((items.size : Int) - 1) == 0 && (-1 : Int) == 1 && items.size == items.size) = true) := by simp
  show wpAny _ _ (if ((((items.size : Int) - 1) == 0 && (-1 : Int) == 1 && items.size == items.size) = true) then _ else _) _ _ s
  rw [if_neg hno, backPick]
  first
    | exact wpAny_bind (m := Builtin.Tuple.tupleExact _) (wpAny_newObj_type (wpAny_pure ⟨_, rfl, wpAny_pure h⟩) hok)
    | exact wpAny_bind (m := Builtin.Tuple.tupleExact _) (wpAny_newObj_type (wpAny_bind (wpAny_pure (wpAny_pure ⟨_, rfl, wpAny_pure h⟩))) hok)
    | exact wpAny_bind (wpAny_bind (m := Builtin.Tuple.tupleExact _) (wpAny_newObj_type (wpAny_pure (wpAny_pure ⟨_, rfl, wpAny_pure h⟩)) hok))
    | exact wpAny_bind (wpAny_bind (m := Builtin.Tuple.tupleExact _) (wpAny_newObj_type (wpAny_pure ⟨_, rfl, wpAny_pure h⟩) hok))
end
/-- t[::-1] -/
def tRevT (K : PySem.W.Frag) (te : TE) : TE := fun σ H Q => te σ H fun x H1 => ∃ a xs, x = .ref a ∧ SqT K H1 a xs ∧ ∀ p, H1 p = none → Q (.ref p) (upd H1 p (.tup xs.reverse))
section
variable {X : Cx} {K : PySem.W.Frag}
theorem pe_revT (hK : X.K = K) {e : Expr} {te : TE} {k : Nat} {p1 p2 p3 pos : Pos} (he : PE X e te) : PE X (.Subscript e (.Slice none none (some (.UnaryOp .USub (.Constant (.int 1) k p1) p2)) p3) pos) (tRevT K te) := by
  subst hK
  refine ⟨fun pins s σ H Q I h => Subscript_ (thn (he.run pins s σ H _ I h) fun v s1 ⟨x, H1, I1, r1, a, xs, ex, hx, q⟩ => ?_)⟩
  subst ex
  cases r1
  have hst : PO X (some (.UnaryOp .USub (.Constant (.int 1) k p1) p2)) (tPart (tUn (rU fun i => .int (-i)) (tC (.int 1)))) := po_some (pe_un un_neg pe_int)
  refine wpAny_Slice (thn (po_none.run pins s1 σ H1 (fun o H2 => o = none ∧ H2 = H1) I1 ⟨rfl, rfl⟩) fun vl s2 ⟨l, H2, I2, pl, el, e2⟩ => ?_)
  subst el
  subst e2
  refine thn (po_none.run pins s2 σ H2 (fun o H3 => o = none ∧ H3 = H2) I2 ⟨rfl, rfl⟩) fun vu s3 ⟨u, H3, I3, pu, eu, e3⟩ => ?_
  subst eu
  subst e3
  refine thn (hst.run pins s3 σ H3 (fun o H4 => o = some (-1) ∧ H4 = H3) I3 ⟨1, rfl, -1, rfl, rfl, rfl⟩) fun vs s4 ⟨o, H4, I4, ps, eo, e4⟩ => ?_
  subst eo
  subst e4
  have I5 : Inv X pins σ H4 { s4 with heap := s4.heap.push { cls := .type "slice", data := .fields #[vl, vu, vs] } } := I4.kept (t' := s4.toks) fun b ob q => Heap.get?_push_of_some _ q
  obtain ⟨its, r, ht, hz⟩ := I5.tuple hx
  have hlen := r.length
  cases pl
  cases pu
  obtain ⟨tk, rfl⟩ : ∃ tk, vs = Value.int (-1) tk := by
    cases ps
    exact ⟨_, rfl⟩
  show wpAny (model X.prog X.w) X.A (subscriptTail e (.Slice none none (some (.UnaryOp .USub (.Constant (.int 1) k p1) p2)) p3) (.ref a) (.ref s4.heap.objs.size)) (EP X pins σ Q) X.xe { s4 with heap := s4.heap.push { cls := .type "slice", data := .fields #[.none, .none, .int (-1) tk] } }
  refine tail_any (ops := [.ref a, .ref s4.heap.objs.size]) ht.typeIs (PyProof.Rows.slot_tuple_getitem.lookup) ?_ (by with_unfolding_all rfl)
  refine back_item ht (Heap.IsSliceOf.new _ .none .none (.int (-1) tk)) ?_ (by rw [List.size_toArray]; omega)
  refine ⟨.ref _, _, I5.laid (t' := s4.toks) (o := .tup xs.reverse) (fun b ob q => Heap.get?_push_of_some _ q) (Nat.le_refl _) ?_, rfl, q _ (I5.hok.fresh (Nat.le_refl _))⟩
  exact ⟨by rw [List.length_reverse]; exact hz, _, r.reverse, IsTup.new _ _⟩
end
theorem ee_revT {W : Wd} {K : PySem.W.Frag} {ρ : List Sl} {te : TE} {ds : List PyData} (h : Ee W te ρ (.tuple ds)) : Ee W (tRevT K te) ρ (.tuple ds.reverse) := fun B σ H Q A k =>
  h B σ H _ A fun v H1 d r1 t1 p1 => by
    subst p1
    obtain ⟨p, xs, rfl, e, r⟩ := t1.tup_of
    exact ⟨p, xs, rfl, SqT.of e, fun q hq => k (.ref q) _ _ (Wd.trans r1 (Wd.new hq)) (.tup upd_same (r.reverse.mono (Wd.tup (W := W) (Wd.new hq)))) rfl⟩
end Gw
set_option Elab.async false
set_option linter.all false
set_option maxRecDepth 100000
set_option maxHeartbeats 4000000
/-! enumerate over a tuple -/
namespace Gw
open PySem PySem.Spec PyProof.Rows L2
open Sem (wp)
open AutoSeq1 (wpAny_loadPart')
theorem enumT_new (l : Addr) (items : Array Value) (n : Nat) (dct : Option Addr) (sl : Array (Option Value)) :
    Meets (Builtin.«enumerate.__new__» ⟨[.type "enumerate", .ref l], []⟩) (fun _ R s => s.heap.get? l = some { cls := .type "tuple", dict := dct, data := .seq items n, slots := sl } ∧
      R (.ok (.ret (.ref (s.heap.push { cls := .type "tuple_iterator", data := .fields #[.ref l, .int 0 0] }).objs.size)))
        { s with heap := (s.heap.push { cls := .type "tuple_iterator", data := .fields #[.ref l, .int 0 0] }).push { cls := .type "enumerate", data := .fields #[.none, .bool false, .ref s.heap.objs.size, rawInt 0, .none, .none] } }) :=
  .of_wp fun prog w A R s h => by
    obtain ⟨hp, g, d, tk, os⟩ := s
    obtain ⟨hl, h⟩ := h
    have hsub := sub_enumerate
    have hL : Heap.IsTuple (Shared.heap ⟨hp, g, d, tk, os⟩) l items := ⟨_, hl, rfl, n, rfl⟩
    wp_walk using wpAny_loadPart' hl
    refine wpAny_stack_any fun st => wpAny_pure ?_
    split
    · rename_i c _ _ _ _ _
      cases (c == Value.type "enumerate") <;>
        (wp_walk using wpAny_loadPart' hl, wpAny_pyIter_tuple hL
         exact ⟨_, rfl, h⟩)
    · wp_walk using wpAny_loadPart' hl, wpAny_pyIter_tuple hL
      exact ⟨_, rfl, h⟩
section
variable {prog : Program} {w : World} {A : Around} {E : Value → Shared → Prop} {s : Shared}
theorem enumT_call {l : Addr} {items : Array Value} {Q : Value → Shared → Prop} (hL : s.heap.IsTuple l items)
    (h : ∀ h', IsEnum h' (s.heap.objs.size + 1) s.heap.objs.size 0 .none → h'.IsTupleIter s.heap.objs.size l 0 →
      (∀ b o, s.heap.get? b = some o → h'.get? b = some o) → Q (.ref (s.heap.objs.size + 1)) { s with heap := h' }) :
    wpAny (model prog w) A (call (.type "enumerate") [.ref l]) Q E s := by
  obtain ⟨⟨c, dct, dt, sl⟩, hl, hc, n, hd⟩ := hL
  obtain rfl : c = .type "tuple" := hc
  obtain rfl : dt = .seq items n := hd
  refine callType_new F.called_enumerate (by decide) (F.typeCall_enumerate_1 _) (F.newCall_enumerate_1 _) (fun obj => F.args_object_init_2 obj _) F.entry_enumerate_new (enumT_new l items n dct sl) ⟨hl, ?_⟩
  have hz : (s.heap.push { cls := .type "tuple_iterator", data := .fields #[.ref l, .int 0 0] }).objs.size = s.heap.objs.size + 1 := Heap.size_push ..
  show _ ∧ _
  rw [hz]
  have he : IsEnum ((s.heap.push { cls := .type "tuple_iterator", data := .fields #[.ref l, .int 0 0] }).push { cls := .type "enumerate", data := .fields #[.none, .bool false, .ref s.heap.objs.size, rawInt 0, .none, .none] }) (s.heap.objs.size + 1) s.heap.objs.size 0 .none := by
    have q := Heap.get?_push_size (s.heap.push { cls := .type "tuple_iterator", data := .fields #[.ref l, .int 0 0] }) (o := { cls := .type "enumerate", data := .fields #[.none, .bool false, .ref s.heap.objs.size, rawInt 0, .none, .none] }) rfl
    rw [hz] at q
    exact q
  exact ⟨⟨_, he, rfl⟩, h _ he ⟨_, Heap.get?_push_of_some _ (Heap.get?_push_size _ rfl), rfl, rfl⟩ fun b o x => Heap.get?_push_of_some _ (Heap.get?_push_of_some _ x)⟩
end
/-- the tuple at a, each item in a new pair -/
def IteT (K : PySem.W.Frag) (a : Addr) : It :=
  ⟨fun i H => ∃ (xs : List V) (x : V), SqT K H a xs ∧ xs[i]? = some x, fun i H v H' => ∃ T x, v = .ref T ∧ H T = none ∧ H' = upd H T (.tup [.int (i : Nat), x]) ∧ ∀ xs, SqT K H a xs → xs[i]? = some x, fun i H => ∃ xs : List V, SqT K H a xs ∧ xs.length ≤ i⟩
theorem turnT {P : Program} {w : World} {K : PySem.W.Frag} {elts : List Expr} {kk : Nat} {tpos : Pos} (a e it : Addr) (hae : a ≠ e) (hai : a ≠ it) :
    Turn P w K (.Tuple elts kk tpos) (IteT K a) [e, it] e (fun i h => (∃ old, IsEnum h e it ((i : Nat) : Int) old) ∧ h.IsTupleIter it a i ∧ e ≠ it) where
  mem := by simp
  obj := fun i h st b hb => by
    obtain ⟨⟨old, he⟩, ⟨o, ho, hc, hd⟩, _⟩ := st
    rcases (by simpa using hb : b = e ∨ b = it) with z | z
    · subst z
      exact ⟨_, he, fun v q => nomatch q⟩
    · subst z
      exact ⟨o, ho, fun v q => by rw [hd] at q; cases q⟩
  keep := fun i h h' st k => let ⟨⟨old, he⟩, hi, hne⟩ := st; ⟨⟨old, k e (by simp) _ he⟩, hi.at fun o q => k it (by simp) o q, hne⟩
  item := by
    intro X hP hw hK hc i pins s σ H E I hf st hg
    subst hP
    subst hw
    subst hK
    obtain ⟨⟨old, he⟩, hit, hne⟩ := st
    obtain ⟨xs, x, hq, hx⟩ := hg
    obtain ⟨its, rv, p, hz⟩ := I.tuple hq
    obtain ⟨u, hu, ru⟩ := rv.get hx
    have hel : e < s.heap.objs.size := Heap.lt_size he
    have hil : it < s.heap.objs.size := by
      obtain ⟨_, q, _⟩ := hit
      exact Heap.lt_size q
    have hlt : i < its.toArray.size := by
      rw [List.size_toArray]
      exact (List.getElem?_eq_some_iff.mp hu).1
    refine wpAny_pyNext_enum_itemD (Draws.tuple (A := X.A.in1) (show X.A.in1.handled = none from I.ok.hd hc) it a hai its.toArray) he ⟨hit, p⟩ hlt hne (by simp; exact ⟨hne, Ne.symm hae⟩) fun y h' tk hy ho hst hT hsz hk => ?_
    have ey : y = u := by
      have q : its.toArray[i]? = some u := by simpa using hu
      rw [q] at hy
      exact (Option.some.inj hy).symm
    subst ey
    refine ⟨_, rfl, wpAny_letOwnedTupleGo_enum (s := { s with heap := h', toks := tk + 1 }) ho fun h'' he' sb => ?_⟩
    have hT2 : h''.get? s.heap.objs.size = some { cls := .type "tuple", data := .seq #[.int i tk, y] } := (sb.2 _ (Nat.ne_of_gt hel)).trans hT
    have new : ObjOk X.prog X.w (upd H s.heap.objs.size (.tup [.int (i : Nat), x])) h'' s.heap.objs.size (.tup [.int (i : Nat), x]) :=
      ⟨by show 2 ≤ sizeLine; decide, [.int i tk, y], .cons ⟨_, rfl⟩ (.cons ru .nil), ⟨_, hT2, rfl, _, rfl⟩⟩
    have I1 : Inv X pins σ (upd H s.heap.objs.size (.tup [.int (i : Nat), x])) { s with heap := h'', toks := tk + 1 } :=
      I.turnedNew (ch := [e, it]) (fun b ob hb q => (sb.2 b (fun z => hb (by simp [z]))).trans (hk b ob (fun z => hb (by simp [z])) (fun z => hb (by simp [z])) q)) hf (Nat.le_refl _) new
    refine ⟨.ref s.heap.objs.size, _, I1, rfl, ⟨_, x, rfl, I.hok.fresh (Nat.le_refl _), rfl, fun ys hy => by rw [I.tuple_inj hy hq]; exact hx⟩, ⟨⟨y, ?_⟩, hst.1.at fun o q => (sb.2 it (Ne.symm hne)).trans q, hne⟩, fun b hb => ?_⟩
    · have e1 : ((i + 1 : Nat) : Int) = (i : Int) + 1 := by omega
      rw [e1]
      exact he'
    · have hb' : b < s.heap.objs.size := by
        rcases (by simpa using hb : b = e ∨ b = it) with z | z
        · rw [z]; exact hel
        · rw [z]; exact hil
      rw [upd_ne (Nat.ne_of_lt hb')]
      exact (hf b hb).1
  done := by
    intro X hP hw hK hc i pins s σ H E I hf st hg
    subst hP
    subst hw
    subst hK
    obtain ⟨⟨old, he⟩, hit, hne⟩ := st
    obtain ⟨xs, hq, hx⟩ := hg
    obtain ⟨its, rv, p, hz⟩ := I.tuple hq
    obtain ⟨f0, f1, f2, f3, f4, f5⟩ := hf it (by simp)
    have hl := rv.length
    by_cases hi : i = its.toArray.size
    · subst hi
      exact wpAny_pyNext_enum_endD (Draws.tuple (A := X.A.in1) (show X.A.in1.handled = none from I.ok.hd hc) it a hai its.toArray) he ⟨hit, p⟩ fun h' eb => ⟨rfl, I.turned (t' := s.toks) (fun b o hb q => eb b o hb q) f0 f1 f3 f4 f5⟩
    · have hT : s.TypeIs (.ref e) "enumerate" := ⟨_, he, rfl⟩
      unfold pyNext
      refine wpAny_bind (wpAny_attempt (wpAny_callSpecial?_slot (name := Str.ofString "__next__") hT F.slot_enumerate_next (wpAny_call_entry F.slot_enumerate_next hT F.entry_enumerate_next ?_ (F.args_enumerate_next_1 _))))
      show wpAny _ _ (field (.ref e) 2 >>= _) _ _ _
      refine wpAny_bind (wpAny_field he rfl (x := .ref it) rfl ?_)
      refine wpAny_bind (wpAny_nextOf_tuple_end (I.ok.hd hc) hit p (by simp; simp at hi; omega) fun h' x he' hx' => ?_)
      obtain ⟨o, ho, hcc⟩ := hx'
      refine wpAny_bind (wpAny_isInstance (T := "StopIteration") (b := true) ⟨o, ho, hcc⟩ isSubtype_stop ?_)
      exact wpAny_pure ⟨rfl, I.turned (t' := s.toks) (fun b o hb q => he' b o hb q) f0 f1 f3 f4 f5⟩
  self := fun A i s Q E st h => let ⟨⟨_, he⟩, _⟩ := st; wpAny_pyIter_enum he h
def iEnumT (K : PySem.W.Frag) (ta : TA) : TI := fun σ H R => ta σ H fun vs H1 => ∃ a xs, vs = [.ref a] ∧ SqT K H1 a xs ∧ R (IteT K a) H1
theorem pi_enumT {X : Cx} {K : PySem.W.Frag} (hK : X.K = K) {e : Expr} {ta : TA} {p pos tpos : Pos} {elts : List Expr} {kk : Nat} (hg : L2.Gl X "enumerate") (hm : X.mg "enumerate" = none) (ha : PA X [e] ta) (hs : starEach [e] X.env = [(false, eval e X.env)] := by rfl) :
    PI X (.Tuple elts kk tpos) (.Call (.Name "enumerate" p) [e] [] pos) (iEnumT K ta) := by
  subst hK
  refine ⟨fun pins s σ H R I h => Call_ (ld_blt I hg hm boot_enumerate (PyProof.Rows.callWith_type1 (thn (ha.run pos pins s σ H _ I h) fun us s1 ⟨vs, H1, I1, r1, q1⟩ => ?_) hs rfl))⟩
  obtain ⟨a, xs, ex, hq, q⟩ := q1
  subst ex
  cases r1 with
  | cons r rr =>
    cases rr
    cases r
    obtain ⟨its, rv, p', hz⟩ := I1.tuple hq
    have hal : a < s1.heap.objs.size := by
      obtain ⟨_, q, _⟩ := p'
      exact Heap.lt_size q
    refine enumT_call p' fun h' he hit hk => wpAny_pyIter_enum he ?_
    have I2 : Inv X pins σ H1 { s1 with heap := h' } := I1.kept (t' := s1.toks) hk
    refine ⟨s1.heap.objs.size + 1, [s1.heap.objs.size + 1, s1.heap.objs.size], _, _, H1, rfl, I2, turnT a (s1.heap.objs.size + 1) s1.heap.objs.size (Nat.ne_of_lt (Nat.lt_succ_of_lt hal)) (Nat.ne_of_lt hal), ⟨⟨.none, he⟩, hit, Nat.succ_ne_self _⟩, fun b hb => ?_, q⟩
    have hle : s1.heap.objs.size ≤ b := by
      rcases (by simpa using hb : b = s1.heap.objs.size + 1 ∨ b = s1.heap.objs.size) with z | z
      · rw [z]; exact Nat.le_add_right _ _
      · rw [z]; exact Nat.le_refl _
    exact I1.fpOk hle (I1.hok.fresh hle)
section
variable {K : PySem.W.Frag} {a : Addr} {xs : List V}
theorem walk_enumT : Walk (IteT K a) xs.length (fun H => SqT K H a xs) (YPair (fun i => some (.int (i : Nat))) (fun i => xs[i]?)) := by
  refine ⟨fun i _ hi q => ⟨xs, xs[i], q, by simp [hi]⟩, fun _ q => ⟨xs, q, Nat.le_refl _⟩, fun i H v H' _ q ⟨T, x, h1, h2, h3, h4⟩ => ⟨T, .int (i : Nat), x, h1, h2, h3, rfl, h4 xs q⟩⟩
end
/-- for i, x in enumerate(tuple) -/
theorem srcF_E {K : PySem.W.Frag} {ρ : List Sl} {ds : List PyData} {te : TE} (h : Ee W0 te ρ (.tuple ds)) : SrcF (iEnumT K (tCons te tNil)) ρ ds.length (fun i => .tuple [.int (i : Int), nth ds i]) := fun B σ H R A k => h B σ H _ A fun v H1 d r1 t1 p1 => by
  subst p1
  obtain ⟨a, xs, rfl, e, r⟩ := t1.tup_of
  refine ⟨a, xs, rfl, SqT.of e, k _ (fun H => H a = some (.tup xs) ∧ TpA H xs ds) H1 r1 ?_ fun C hC H2 s => ⟨s _ _ (hC _ _ e (.inr ⟨_, rfl⟩)), r.mono fun b ys hb => s _ _ (hC _ _ hb (.inr ⟨_, rfl⟩))⟩⟩
  refine ⟨_, _, r.length ▸ walk_enumT (xs := xs), fun H z => SqT.of z.1, fun i H x H' hi z y => ?_⟩
  obtain ⟨T, u, x', rfl, hT, rfl, e1, e2⟩ := y
  have s1 : Same H (upd H T (.tup [u, x'])) := same_new hT
  have eu : u = .int (i : Int) := (Option.some.inj e1).symm
  subst eu
  exact ⟨s1, .tup upd_same (.cons (.int _) (.cons ((z.2.nth e2).mono fun b ys hb => s1 _ _ hb) .nil))⟩
end Gw
set_option Elab.async false
set_option linter.all false
set_option maxRecDepth 100000
set_option maxHeartbeats 4000000
/-! max of a list of alike data; l[a:c] = m; setdefault whatever the dict holds; an item of a written dict -/
namespace Gw
open PySem PySem.Spec PyProof.Rows L2
/-! ### max -/
section
open PySem.W PySem.SeqAt
variable {prog : Program} {w : World} {A : Around} {E : Value → Shared → Prop} {s : Shared}
theorem max_place {l : Addr} {vs : Array Value} {x : PyData} {xs : List PyData} {as : List Addr} {Q : Value → Shared → Prop} (hh : A.handled = none) (hl : s.heap.IsList l vs) (hr : ReadsAll s.heap vs.toList (x :: xs) as) (ha : AlikeAll (x :: xs)) (hu : A.units + 1 + PyData.depthAll (x :: xs) < cLine)
    (h : ∀ (i : Nat) v h' tk, vs[i]? = some v → (x :: xs).getD i PyData.none = maxD x xs → (∀ b o, s.heap.get? b = some o → h'.get? b = some o) → Q v { s with heap := h', toks := tk }) :
    wpAny (model prog w) A (call (.builtin "max") [.ref l]) Q E s := by
  have hn : vs.size = xs.length + 1 := readsAll_len hr
  refine call_max_walkH (iter_listW (A := A.in1) hh hl fun s2 e Wk st hfp hw hk => ⟨_, _, _, _, _, _, _, s.heap, _, rfl, Wk, st, hfp, by omega, hw, hk, cmpIn_gt (A := A.in1) hr ha (by show A.units + 1 + _ < _; exact hu), fun v s' hP m => ?_⟩)
  obtain ⟨h', tk, rfl, hk'⟩ := moved_old e rfl m
  have e1 : vs.size - 1 = xs.length := by omega
  have e2 := (argBest_fold (fun a b => dataLt b a) PyData.none x xs xs.length (Nat.le_refl _)).2
  rw [List.take_length] at e2
  rw [e1] at hP
  exact h _ v h' tk hP (by unfold maxD; rw [← e2]) hk'
end
def rMaxT (K : PySem.W.Frag) : List V → Hp → VK → Prop := fun vs H Q => ∃ (a : Addr) (xs : List V) (d : PyData) (ds : List PyData), vs = [.ref a] ∧ SqL K H a xs ∧ DpAll K H xs (d :: ds) ∧ PySem.W.AlikeAll (d :: ds) ∧ PyData.depthAll (d :: ds) ≤ 8 ∧
  ∀ i x, xs[i]? = some x → (d :: ds).getD i PyData.none = PySem.W.maxD d ds → Q x H
theorem cr_maxT {X : Cx} {K : PySem.W.Frag} (hK : X.K = K) (hc : X.calm = true) (hu : X.A.units + 64 < cLine) : CallR X (.builtin "max") (rMaxT K) := by
  subst hK
  intro pins s σ H vs us Q I r h
  obtain ⟨a, xs, d, ds, rfl, hs, hd, ha, hz, q⟩ := h
  obtain ⟨its, rv, hl, _⟩ := I.list hs
  rw [Vals.ref1 r]
  obtain ⟨as, hr⟩ := Dp.readsAll I (d :: ds) xs its hd rv
  refine max_place (I.ok.hd hc) hl.isList hr ha (by omega) fun i v h' tk hv e k => ?_
  have hv' : its[i]? = some v := by simpa using hv
  cases ex : xs[i]? with
  | none => 
    have := Vals.none_of rv ex
    rw [hv'] at this
    cases this
  | some x =>
    obtain ⟨u, hu', ru⟩ := rv.get ex
    rw [hv'] at hu'
    obtain rfl := Option.some.inj hu'
    exact ⟨x, H, I.kept k, ru, q i x ex e⟩
theorem ee_maxL {W : Wd} {K : PySem.W.Frag} {ρ : List Sl} {te : TE} {d : PyData} {ds : List PyData} (h : Eq_ W te ρ (fun x => x = d :: ds)) (ha : PySem.W.AlikeAll (d :: ds)) (hz : PyData.depthAll (d :: ds) ≤ 8) :
    Ee W (tCB (rMaxT K) (tCons te tNil)) ρ (PySem.W.maxD d ds) := fun B σ H Q A k => h B σ H _ A fun p vs es H1 r1 m e t q => by
  subst q
  refine ⟨p, vs, d, ds, rfl, SqL.of e, t.dp, ha, hz, fun i x hx hd => ?_⟩
  obtain ⟨d', e1, t1⟩ := t.getV hx
  rw [List.getD_eq_getElem?_getD, e1] at hd
  exact k x H1 d' r1 t1 hd
/-! ### l[a:c] = m -/
def gSlc (to : TE) (tl th : TO) : TG := fun v σ H Q => to σ H fun o H1 => tl σ H1 fun x H2 => th σ H2 fun y H3 => ∃ (l b : Addr) (xs ys : List V) (a c : Int), o = .ref l ∧ v = .ref b ∧ x = some a ∧ y = some c ∧ H3 l = some (.lst xs) ∧ H3 b = some (.lst ys) ∧ l ≠ b ∧
  0 ≤ a ∧ a ≤ c ∧ c ≤ xs.length ∧ xs.length + ys.length ≤ sizeLine ∧ Q σ (upd H3 l (.lst (xs.take a.toNat ++ ys ++ xs.drop c.toNat)))
theorem part_int {v : Value} {i : Int} (h : IsPart v (some i)) : RelV (.int i) v := by
  cases h
  exact ⟨_, rfl⟩
theorem pg_slc {X : Cx} {o : Expr} {lo hi : Option Expr} {to : TE} {tl th : TO} {p2 pos : Pos} (ho : PE X o to) (hl : PO X lo tl) (hh : PO X hi th)
    (hass : ∀ v, assign (.Subscript o (.Slice lo hi none p2) pos) X.env v = (do
      let ov ← holding [v] (eval o X.env)
      let iv ← holding [v, ov] (eval (.Slice lo hi none p2) X.env)
      standAt pos
      holding [v, ov, iv] (setItem ov iv v)
      release [iv, v, ov] []) := by intro _; rfl) : PG X (.Subscript o (.Slice lo hi none p2) pos) (gSlc to tl th) := by
  refine ⟨fun pins s σ H v u Q I r h => ?_⟩
  rw [hass]
  refine wpAny_bind (wpAny_holding (thn (ho.run pins s σ H _ I h) fun ov s1 ⟨x, H1, I1, r1, q1⟩ => ?_))
  refine wpAny_bind (wpAny_holding ?_)
  refine wpAny_Slice (thn (hl.run pins s1 σ H1 _ I1 q1) fun vl s2 ⟨l, H2, I2, pl, q2⟩ => thn (hh.run pins s2 σ H2 _ I2 q2) fun vu s3 ⟨w, H3, I3, pu, q3⟩ => ?_)
  rw [evalPart_none]
  refine wpAny_pure ?_
  have I4 : Inv X pins σ H3 { s3 with heap := s3.heap.push { cls := .type "slice", data := .fields #[vl, vu, .none] } } := I3.kept (t' := s3.toks) fun b ob q => Heap.get?_push_of_some _ q
  obtain ⟨l', b, xs, ys, a, c, rfl, rfl, rfl, rfl, hL, hB, hne, h0, hac, hc, hz, q⟩ := q3
  cases r1
  cases r
  refine wpAny_bind (wpAny_standAt (wpAny_bind (wpAny_holding ?_)))
  refine set_slice I4 hL hB hne (Heap.IsSliceOf.new _ vl vu .none) (part_int pl) (part_int pu) h0 hac hc hz fun s5 I5 => ?_
  exact wpAny_release ⟨σ, _, I5, q⟩
/-! ### d.setdefault(k, x): whatever stands there -/
def tSetT (td ty tx : TE) : TE := fun σ H Q => td σ H fun x H1 => ∃ a, x = .ref a ∧ IsD H1 a ∧ ty σ H1 fun y H2 => tx σ H2 fun z H3 => ∃ (kvs : List (List Key × V)) (k : List Key) (b : Addr), H3 a = some (.dT kvs) ∧ y = .ref b ∧ H3 b = some (.tup (k.map kV)) ∧ kvs.length < sizeLine ∧
  ∀ v kvs', kvs'.length ≤ kvs.length + 1 → Q v (upd H3 a (.dT kvs'))
theorem upd_self {H : Hp} {a : Addr} {o : HO} (h : H a = some o) : upd H a o = H := by
  funext b
  unfold upd
  split
  · rename_i e
    rw [e, h]
  · rfl
section
variable {X : Cx}
theorem setdT {pins : List (Addr × Obj)} {σ : L2.St} {H : Hp} {s : Shared} {a b : Addr} {r : Value} {d : V} {k : List Key} {A : Around} {E : Value → Shared → Prop} {kvs : List (List Key × V)} {Q : Value → Shared → Prop} (hu : A.units + 1 < cLine) (I : Inv X pins σ H s) (e : H a = some (.dT kvs)) (eb : H b = some (.tup (k.map kV))) (rd : RelV d r) (hl : kvs.length < sizeLine)
    (h : ∀ (v : V) (w' : Value) (kvs' : List (List Key × V)) (s' : Shared), kvs'.length ≤ kvs.length + 1 → Inv X pins σ (upd H a (.dT kvs')) s' → RelV v w' → Q w' s') :
    wpAny (model X.prog X.w) A (call (.builtin "dict.setdefault") [.ref a, .ref b, r]) Q E s := by
  obtain ⟨z, hd, xs, rel, dd⟩ := dt_of I.hok e
  have hz : xs.length ≤ sizeLine := by
    rw [← Paired.length rel]
    exact z
  have hl2 : (putK kvs k d).length ≤ kvs.length + 1 := length_putK kvs k d
  refine call_setdefault_heap (hsz := hz) (tupleKind_room_in1 hu) (key_of I.hok eb) hd dd (fun p hp => ?_) fun hn h' dd' hs => ?_
  · have q := rel.val k
    rw [hp] at q
    cases q0 : valV kvs k with
    | none =>
      rw [q0] at q
      exact (show False from q).elim
    | some v0 =>
      rw [q0] at q
      refine h v0 _ kvs _ (Nat.le_succ _) ?_ q
      rw [upd_self e]
      exact I.tok _
  · obtain ⟨o, es, ep, ho, h2, h3, h4, _, h5⟩ := dd'
    refine h d _ (putK kvs k d) _ hl2 (d_write (t' := _) I (by rw [e]; exact True.intro) hs ⟨o, ho⟩ ⟨by omega, hd, _, (rel.put k eb rd).keeps fun c ys ec => ?_, o, es, ep, ho, h2, h3, h4, h5⟩) rd
    rw [upd_ne (ne_of ec e (fun z => nomatch z))]
    exact ec
theorem pe_dsetT {o e f : Expr} {td ty tx : TE} {apos cpos : Pos} (hu : X.A.units + 1 < cLine) (ho : PE X o td) (he : PE X e ty) (hf : PE X f tx) (m : M2 X o "setdefault" apos e f cpos) : PE X (.Call (.Attribute o "setdefault" apos) [e, f] [] cpos) (tSetT td ty tx) := by
  refine ⟨fun pins s σ H Q I h => ?_⟩
  refine wpAny_Call_method m.base m.few m.line PySem.F.plainAttrs_dict PySem.F.slot_dict_setdefault PySem.F.type_dict_setdefault (thn (ho.run pins s σ H _ I h) fun u s1 ⟨x, H1, I1, rx, a, ex, d, q1⟩ => ?_)
  subst ex
  obtain rfl : u = Value.ref a := rx
  obtain ⟨t1, t2, _⟩ := isD_at I1 d
  refine ⟨t1, t2, ?_⟩
  rw [m.trees]
  refine Calls.callWith_builtin rfl (Calls.evalArgs_plain (Calls.spliced_cons (thn (he.run pins s1 σ H1 _ I1 q1) fun iv s2 ⟨y, H2, I2, ry, q2⟩ => Calls.spliced_cons (thn (hf.run pins s2 σ H2 _ I2 q2) fun fv s3 ⟨z, H3, I3, rz, kvs, k, b, ea, ey, eb, hl, q3⟩ => Calls.spliced_nil ?_))))
  subst ey
  obtain rfl : iv = Value.ref b := ry
  exact setdT hu I3 ea eb rz hl fun v w' kvs' s' hz I4 rv => ⟨v, _, I4, rv, q3 v kvs' hz⟩
end
/-! ### an item of a dict of the top -/
theorem ix_kdt {X : Cx} {K : PySem.W.Frag} (hK : X.K = K) {w : World} (hw : X.w = w) : IxR X (rIxD K w) := hK ▸ hw ▸ ix_kdict
theorem kdct_of {K : PySem.W.Frag} {w : World} {D : Addr} {es : Array DictEntry} {n : Nat} {x : Str} {v : V} (kd : KDict K w D es n) (h : ∃ u, PySem.W.nsIn K D x = some (some u) ∧ RelV v u) : KDct K w D x v := by
  obtain ⟨u, h1, h2⟩ := h
  exact ⟨es, n, u, kd.at_, kd.lit, h1, h2⟩
theorem op_nikd {X : Cx} {K : PySem.W.Frag} (hK : X.K = K) {w : World} (hw : X.w = w) {d : Addr} {es : Array DictEntry} {n : Nat} (D : KDict K w d es n) : OpR X (compareOp .NotIn) (fun x y H Q => ∃ (z : Str) (r : Option Value), x = .str z ∧ y = .ref d ∧ PySem.W.nsIn K d z = some r ∧ Q (.bl (!r.isSome)) H) := by
  subst hK
  subst hw
  exact op_notIn_kd D
end Gw
set_option Elab.async false
set_option linter.all false
set_option maxRecDepth 100000
set_option maxHeartbeats 4000000
/-! more of the logic by data: slices, stores -/
namespace Gw
open PySem PySem.Spec PyProof.Rows L2
theorem cut_take (ds : List PyData) {n : Int} (h : 0 ≤ n) : cutD ds none (some n) = ds.take n.toNat := by
  obtain ⟨m, rfl⟩ := Int.eq_ofNat_of_zero_le h
  unfold cutD
  rw [HT.sIx_none, show HT.sIx ds.length ds.length (some (m : Int)) = min m ds.length from HT.sIx_nat _ _ m, Nat.sub_zero, List.drop_zero, Int.toNat_natCast]
  by_cases hm : m ≤ ds.length
  · rw [Nat.min_eq_left hm]
  · rw [Nat.min_eq_right (by omega), List.take_of_length_le (Nat.le_refl _), List.take_of_length_le (by omega)]
theorem cut_drop (ds : List PyData) {n : Int} (h : 0 ≤ n) : cutD ds (some n) none = ds.drop n.toNat := by
  obtain ⟨m, rfl⟩ := Int.eq_ofNat_of_zero_le h
  unfold cutD
  rw [show HT.sIx ds.length 0 (some (m : Int)) = min m ds.length from HT.sIx_nat _ _ m, HT.sIx_none, Int.toNat_natCast]
  by_cases hm : m ≤ ds.length
  · rw [Nat.min_eq_left hm, List.take_of_length_le (by rw [List.length_drop]; exact Nat.le_refl _)]
  · rw [Nat.min_eq_right (by omega), Nat.sub_self, List.take_zero, List.drop_of_length_le (by omega)]
section
variable {W : Wd} {K : PySem.W.Frag} {ρ : List Sl} {te : TE} {tl th : TO} {ds : List PyData} {n : Int}
theorem el_take (h : Eq_ W te ρ (fun x => x = ds)) (h1 : Ee W tl' ρ (.int n)) (hn : 0 ≤ n) : El W (tSl (rSlL K) te tNoPart (tPart tl')) ρ (fun x => x = ds.take n.toNat) := el_slL h eo_none (eo_some h1) fun es e => by
  rw [e, cut_take _ hn]
theorem el_drop (h : Eq_ W te ρ (fun x => x = ds)) (h1 : Ee W tl' ρ (.int n)) (hn : 0 ≤ n) : El W (tSl (rSlL K) te (tPart tl') tNoPart) ρ (fun x => x = ds.drop n.toNat) := el_slL h (eo_some h1) eo_none fun es e => by
  rw [e, cut_drop _ hn]
theorem el_nil : El W (tLst tNil) ρ (fun x => x = []) := el_lst (P1 := fun x => x = []) ea_nil fun ds e => by
  subst e
  exact ⟨by decide, rfl⟩
/-- a comprehension by place: which are taken, what comes of each -/
theorem el_lcI {wi : TI} {g : TG} {tt : TT} {vs js : List Nat} {k : Nat} {f : Nat → PyData} (hsrc : Src W wi ρ k f) (hz : k ≤ 50000) (b : Nat → Bool) (r : Nat → PyData) (hj : ∀ j ∈ js, j ∈ vs)
    (hb : ∀ i, i < k → ∃ ρ', Gd W g js (wipeS ρ vs) (f i) ρ' ∧ Eb W tt ρ' (b i) ∧ (b i = true → Ee W te ρ' (r i))) : El W (tLc wi g tt te vs) ρ (fun x => x = ((List.range k).filter b).map r) := fun B σ H Q A kk => hsrc B σ H _ A fun J Z H1 r1 ⟨G, Y, wk, hZ, hY⟩ hst D hD => by
  have A1 := A.mono r1
  have nm : ¬ W.mt D := Wd.nmt A1.i hD
  refine lc_it wk (fun i H' => W.rel H1 H' ∧ ∃ acc, H' D = some (.lst acc) ∧ TpA H' acc (((List.range i).filter b).map r)) ⟨Wd.new hD, [], upd_same, .nil⟩ (fun i H' _ p => hZ _ (hst _ p.1)) (fun i x H2 H3 hi p y => ?_) (fun H' p => ?_)
  · obtain ⟨r2, acc, e, t⟩ := p
    obtain ⟨s3, tx⟩ := hY i H2 x H3 hi (hst _ r2) y
    have r23 : W.rel H2 H3 := Wd.same s3
    have A3 := (A1.mono r2).mono r23
    obtain ⟨ρ', hg, ht, he⟩ := hb i hi
    refine hg B x _ H3 _ (A3.wipe vs) tx fun σ2 A4 l4 o4 => ⟨wipe_outs hj l4 o4, ht B σ2 H3 _ A4 fun c H4 r4 ec => ?_⟩
    have rA : W.rel H1 H4 := Wd.trans r2 (Wd.trans r23 r4)
    have eA : H4 D = some (.lst acc) := Wd.keep (Wd.trans r23 r4) e nm
    have tA := t.mono (Wd.tup (Wd.trans r23 r4))
    have es : (List.range (i + 1)).filter b = (List.range i).filter b ++ (if b i = true then [i] else []) := by
      rw [List.range_succ, List.filter_append, List.filter_cons]
      rfl
    cases c with
    | true =>
      show te σ2 H4 _
      refine he ec.symm B σ2 H4 _ (A4.mono r4) fun v H5 d r5 t5 p5 => ⟨acc, Wd.keep r5 eA nm, ?_, ?_⟩
      · have l2 := List.length_filter_le b (List.range i)
        rw [List.length_range] at l2
        rw [t.length, List.length_map]
        exact small5 (by omega)
      · have ed := Wd.keep r5 eA nm
        subst p5
        refine ⟨Wd.chg A1.i (Wd.trans rA r5) hD, _, upd_same, ?_⟩
        rw [es, if_pos ec.symm, List.map_append]
        exact ((tA.mono (Wd.tup r5)).append (.cons t5 .nil)).mono (tup_upd ed)
    | false =>
      refine ⟨rA, acc, eA, ?_⟩
      rw [es, if_neg (by rw [← ec]; decide), List.append_nil]
      exact tA
  · obtain ⟨r2, acc, e, t⟩ := p
    exact kk D acc _ H' (Wd.trans r1 r2) (Wd.back A.i r1 hD) e t rfl
theorem filter_yes {α : Type} : ∀ l : List α, l.filter (fun _ => true) = l
  | [] => rfl
  | x :: r => by rw [List.filter_cons, if_pos rfl, filter_yes r]
theorem el_lcE {wi : TI} {g : TG} {vs js : List Nat} {k : Nat} {f : Nat → PyData} (hsrc : Src W wi ρ k f) (hz : k ≤ 50000) (r : Nat → PyData) (hj : ∀ j ∈ js, j ∈ vs)
    (hb : ∀ i, i < k → ∃ ρ', Gd W g js (wipeS ρ vs) (f i) ρ' ∧ Ee W te ρ' (r i)) : El W (tLc wi g tYes te vs) ρ (fun x => x = (List.range k).map r) := by
  have h := el_lcI hsrc hz (fun _ => true) r hj fun i hi => by
    obtain ⟨ρ', h1, h2⟩ := hb i hi
    exact ⟨ρ', h1, et_yes, fun _ => h2⟩
  rw [filter_yes] at h
  exact h
theorem ee_tupleL (h : Eq_ W te ρ (fun x => x = ds)) : Ee W (tThen te (kTup K)) ρ (.tuple ds) := ed_tupleL h fun x e => by rw [e]
theorem At.wr {B H1 : Hp} {σ : L2.St} {i : Nat} {l : Addr} {o vs : List V} {es : List PyData} (A1 : At W B H1 σ ρ) (e : σ[i]? = some (some (.ref l))) (hn : B l = none) (hl1 : H1 l = some (.lst o))
    (h1 : ∀ j es, ρ[j]? = some (.l es) → j = i) (t : TpA H1 vs es) : At W B (upd H1 l (.lst vs)) σ (ρ.set i (.l es)) := by
  refine ⟨A1.iB, Wd.chg A1.iB A1.r hn, ?_⟩
  have key : ∀ (σ' : L2.St) (ρ' : List Sl) (m : Nat), Paired (SlOk B H1) σ' ρ' → (∀ j, σ[m + j]? = σ'[j]?) → (∀ j, ρ[m + j]? = ρ'[j]?) →
      Paired (SlOk B (upd H1 l (.lst vs))) σ' (if m ≤ i then ρ'.set (i - m) (.l es) else ρ') := by
    intro σ' ρ' m pr
    induction pr generalizing m with
    | nil =>
      intro _ _
      split <;> exact .nil
    | @cons o2 s σ2 ρ2 a r ih =>
      intro hs hr
      have tail : Paired (SlOk B (upd H1 l (.lst vs))) σ2 (if m + 1 ≤ i then ρ2.set (i - (m + 1)) (.l es) else ρ2) := ih (m + 1) (fun j => by rw [show m + 1 + j = m + (j + 1) by omega, hs (j + 1)]; rfl) (fun j => by rw [show m + 1 + j = m + (j + 1) by omega, hr (j + 1)]; rfl)
      have old : s ≠ .no → (∀ es, s ≠ .l es) → SlOk B (upd H1 l (.lst vs)) o2 s := fun _ hls => by
        cases s with
        | no => trivial
        | d x =>
          obtain ⟨w, ew, tw⟩ := a
          exact ⟨w, ew, tw.mono (tup_upd hl1)⟩
        | v x => exact a
        | l es => exact absurd rfl (hls es)
      have old2 : m ≠ i → SlOk B (upd H1 l (.lst vs)) o2 s := fun hmi => by
        have e0 := hr 0
        rw [Nat.add_zero] at e0
        cases s with
        | no => trivial
        | d x => exact old (by intro z; cases z) (by intro es z; cases z)
        | v x => exact a
        | l es => exact absurd (h1 m es e0) hmi
      by_cases hm : m ≤ i
      · rw [if_pos hm]
        by_cases hmi : m = i
        · subst hmi
          rw [if_neg (by omega)] at tail
          rw [Nat.sub_self]
          refine .cons ?_ tail
          have e0 := hs 0
          rw [Nat.add_zero, e] at e0
          have eo : o2 = some (.ref l) := (Option.some.inj e0).symm
          exact ⟨l, _, eo, hn, upd_same, t.mono (tup_upd hl1)⟩
        · rw [if_pos (by omega)] at tail
          rw [show i - m = (i - (m + 1)) + 1 by omega]
          exact .cons (old2 hmi) tail
      · rw [if_neg hm]
        rw [if_neg (by omega)] at tail
        exact .cons (old2 (by omega)) tail
  have := key σ ρ 0 A1.e (fun j => by rw [Nat.zero_add]) (fun j => by rw [Nat.zero_add])
  rw [if_pos (Nat.zero_le i), Nat.sub_zero] at this
  exact this
/-- xs[k] = e -/
theorem bs_setL {i : Nat} {ti : TE} {tz : TS} {d : PyData} {k : Int} {N : List Sl → Prop} {P : PD} {L : PL} (hi : ρ[i]? = some (.l ds)) (h1 : ∀ j es, ρ[j]? = some (.l es) → j = i) (h : Ee W te ρ d) (hk : Ee W ti ρ (.int k)) (h0 : 0 ≤ k) (h2 : k < ds.length)
    (kk : Bs W tz (ρ.set i (.l (ds.set k.toNat d))) N P L) : Bs W (tSeq (tAsg te (gSub (tVar i) ti rSetL)) tz) ρ N P L := fun B σ H D A kn kr kl => by
  refine h B σ H _ A fun v H1 d' r1 t1 p1 => ?_
  subst p1
  have A1 := A.mono r1
  obtain ⟨o, e, l, vs, rfl, n, hl, t⟩ := A1.get hi
  refine ⟨_, e, hk B σ H1 _ A1 fun u H2 c r2 t2 p2 => ?_⟩
  subst p2
  have A2 := A1.mono r2
  have hl2 : H2 l = some (.lst vs) := Wd.keep r2 hl (Wd.nmt A1.iB n)
  refine ⟨l, vs, k, k.toNat, rfl, t2.int_of, hl2, ?_, kk B σ _ D (A2.wr e n hl2 h1 ((t.mono (Wd.tup r2)).set (t1.mono (Wd.tup r2)) k.toNat)) kn kr kl⟩
  obtain ⟨m, rfl⟩ := Int.eq_ofNat_of_zero_le h0
  rw [Int.toNat_natCast]
  unfold ixN
  rw [if_pos (by omega), if_pos (by rw [t.length]; exact h2), Int.toNat_natCast]
/-- xs[a:c] = es -/
theorem bs_setS {i : Nat} {ta tc : TO} {tz : TS} {es : List PyData} {a c : Int} {N : List Sl → Prop} {P : PD} {L : PL} (hi : ρ[i]? = some (.l ds)) (h1 : ∀ j es, ρ[j]? = some (.l es) → j = i) (h : El W te ρ (fun x => x = es)) (ha : Eo W ta ρ (fun o => o = some a)) (hc : Eo W tc ρ (fun o => o = some c))
    (h0 : 0 ≤ a) (h2 : a ≤ c) (h3 : c ≤ ds.length) (hz : ds.length + es.length ≤ 100000)
    (kk : Bs W tz (ρ.set i (.l (ds.take a.toNat ++ es ++ ds.drop c.toNat))) N P L) : Bs W (tSeq (tAsg te (gSlc (tVar i) ta tc)) tz) ρ N P L := fun B σ H D A kn kr kl => by
  refine h B σ H _ A fun b us es' H1 r1 nb eb tb p1 => ?_
  subst p1
  have A1 := A.mono r1
  obtain ⟨o, e, l, vs, rfl, n, hl, t⟩ := A1.get hi
  obtain ⟨o0, e0, l0, vs0, eo0, n0, hl0, t0⟩ := A.get hi
  have hlb : l ≠ b := fun z => by
    subst z
    rw [e] at e0
    have := (Option.some.inj e0)
    rw [eo0] at this
    have := V.ref.inj (Option.some.inj this)
    subst this
    rw [hl0] at nb
    cases nb
  refine ⟨_, e, ha B σ H1 _ A1 fun x H2 r2 p2 => hc B σ H2 _ (A1.mono r2) fun y H3 r3 p3 => ?_⟩
  subst p2
  subst p3
  have r23 := Wd.trans r2 r3
  have A3 := A1.mono r23
  have hl3 : H3 l = some (.lst vs) := Wd.keep r23 hl (Wd.nmt A1.iB n)
  have hb3 : H3 b = some (.lst us) := Wd.keep r23 eb (Wd.nmt A.i nb)
  refine ⟨l, b, vs, us, a, c, rfl, rfl, rfl, rfl, hl3, hb3, hlb, h0, h2, by rw [t.length]; exact h3, by rw [t.length, tb.length]; exact small4 hz, ?_⟩
  exact kk B σ _ D (A3.wr e n hl3 h1 ((((t.mono (Wd.tup r23)).take _).append (tb.mono (Wd.tup r23))).append ((t.mono (Wd.tup r23)).drop _))) kn kr kl
/-- list(t) -/
theorem el_listT (h : Ee W te ρ (.tuple ds)) : El W (tCB (fun xs H Q => ∃ p ys, xs = [.ref p] ∧ (SqL K H p ys ∨ SqT K H p ys) ∧ ∀ l, H l = none → Q (.ref l) (upd H l (.lst ys))) (tCons te tNil)) ρ (fun x => x = ds) := fun B σ H Q A k => h B σ H _ A fun v H1 d r1 t1 p1 => by
  subst p1
  obtain ⟨p, xs, rfl, e, r⟩ := t1.tup_of
  exact ⟨p, xs, rfl, .inr (SqT.of e), fun l hl => k l xs ds _ (Wd.trans r1 (Wd.new hl)) (Wd.back A.i r1 hl) upd_same (r.mono (Wd.tup (W := W) (Wd.new hl))) rfl⟩
/-- list(l) -/
theorem el_listL (h : Eq_ W te ρ (fun x => x = ds)) : El W (tCB (fun xs H Q => ∃ p ys, xs = [.ref p] ∧ (SqL K H p ys ∨ SqT K H p ys) ∧ ∀ l, H l = none → Q (.ref l) (upd H l (.lst ys))) (tCons te tNil)) ρ (fun x => x = ds) := fun B σ H Q A k => h B σ H _ A fun p xs d H1 r1 m e r q => by
  subst q
  exact ⟨p, xs, rfl, .inl (SqL.of e), fun l hl => k l xs d _ (Wd.trans r1 (Wd.new hl)) (Wd.back A.i r1 hl) upd_same (r.mono (Wd.tup (W := W) (Wd.new hl))) rfl⟩
/-- slices of tuples from the front, to the end -/
theorem ee_takeT (h : Ee W te ρ (.tuple ds)) (h1 : Ee W tl' ρ (.int n)) (hn : 0 ≤ n) : Ee W (tSl (rSlA K) te tNoPart (tPart tl')) ρ (.tuple (ds.take n.toNat)) := Ed.is (ee_slT h eo_none (eo_some h1)) (by rw [cut_take _ hn])
theorem ee_dropT (h : Ee W te ρ (.tuple ds)) (h1 : Ee W tl' ρ (.int n)) (hn : 0 ≤ n) : Ee W (tSl (rSlA K) te (tPart tl') tNoPart) ρ (.tuple (ds.drop n.toNat)) := Ed.is (ee_slT h (eo_some h1) eo_none) (by rw [cut_drop _ hn])
theorem cut_set {α : Type} {l : List α} {i : Nat} {x : α} (h : i < l.length) : l.take i ++ [x] ++ l.drop (i + 1) = l.set i x := by
  rw [List.set_eq_take_append_cons_drop, if_pos h, List.append_assoc]
  rfl
/-- r[:i] + (x,) + r[i+1:] of data -/
theorem ee_putT {t1 t2 t3 t4 t5 : TE} {x : PyData} {i : Nat} (h1 : Ee W t1 ρ (.tuple ds)) (h2 : Ee W t2 ρ (.int (i : Int))) (h3 : Ee W t3 ρ x) (h4 : Ee W t4 ρ (.tuple ds)) (h5 : Ee W t5 ρ (.int ((i : Int) + 1))) (hi : i < ds.length) (hl : ds.length ≤ 1000) :
    Ee W (tOp (rCatA K) (tOp (rCatA K) (tSl (rSlA K) t1 tNoPart (tPart t2)) (tTup (tCons t3 tNil))) (tSl (rSlA K) t4 (tPart t5) tNoPart)) ρ (.tuple (ds.set i x)) := by
  refine Ed.is (ee_catT (ee_catT (ee_takeT h1 h2 (by omega)) (ee_tup (ea_cons h3 ea_nil)) ?_) (ee_dropT h4 h5 (by omega)) ?_) ?_
  · rw [List.length_take]
    show _ + 1 ≤ _
    omega
  · rw [List.length_append, List.length_take, List.length_drop]
    show _ + 1 + _ ≤ _
    omega
  · rw [← cut_set hi, Int.toNat_natCast, show ((i : Int) + 1).toNat = i + 1 by omega]
/-- DEED_PARTS -/
theorem ee_nin {ta : TE} {x : Str} {D : Addr} (h : Ee W ta ρ (.str x)) (hp : ∃ u, PySem.W.nsIn K D x = some (some u) ∧ RelV v u) : Ee W (tOp (fun x y H Q => ∃ (z : Str) (r : Option Value), x = .str z ∧ y = .ref D ∧ PySem.W.nsIn K D z = some r ∧ Q (.bl (!r.isSome)) H) ta (tC (.ref D))) ρ (.bool false) := fun B σ H Q A k => h B σ H _ A fun v H1 d r1 t1 p1 => by
  subst p1
  obtain ⟨u, hu, _⟩ := hp
  exact ⟨x, some u, t1.str_of, rfl, hu, k _ H1 _ r1 (.bl false) rfl⟩
theorem ee_kdt {tb : TE} {x : Str} {w : World} {D : Addr} {i : Int} (h : Ee W tb ρ (.str x)) (hk : KDct K w D x (.int i)) : Ee W (tOp (rIxD K w) (tC (.ref D)) tb) ρ (.int i) := fun B σ H Q A k => h B σ H _ A fun v H1 d r1 t1 p1 => by
  subst p1
  exact ⟨D, x, .int i, rfl, t1.str_of, hk, k _ H1 _ r1 (.int i) rfl⟩
theorem le_tac : Le ρ ρ := Le.refl ρ
end
end Gw
set_option Elab.async false
set_option linter.all false
set_option maxRecDepth 100000
set_option maxHeartbeats 4000000
/-! == of lists of data, a written dict, the greatest of triples -/
namespace Gw
open PySem PySem.Spec PyProof.Rows L2
theorem lay_depth : ∀ {ds : List PyData}, (∀ d ∈ ds, d.canLay0 = true ∧ d.depth ≤ 8) → PyData.canLayAll0 ds = true ∧ PyData.depthAll ds ≤ 8
  | [], _ => ⟨by simp only [PyData.canLayAll0], by simp only [PyData.depthAll]; omega⟩
  | d :: r, h => by
    obtain ⟨h1, h2⟩ := lay_depth fun x hx => h x (List.mem_cons_of_mem _ hx)
    obtain ⟨h3, h4⟩ := h d List.mem_cons_self
    refine ⟨?_, ?_⟩
    · rw [PyData.canLayAll0, h3, h1]
      rfl
    · rw [PyData.depthAll]
      exact Nat.max_le.mpr ⟨h4, h2⟩
theorem shapedL {ds : List PyData} (h : ∀ d ∈ ds, d.canLay0 = true ∧ d.depth ≤ 8) : SeqAt.shaped (.list ds) = true := by
  obtain ⟨h1, h2⟩ := lay_depth h
  unfold SeqAt.shaped
  simp only [PyData.canLay0, PyData.depth, h1, Bool.true_and]
  exact decide_eq_true (by omega)
theorem shaped_nil : SeqAt.shaped (.list []) = true := shapedL fun d h => by cases h
section
variable {W : Wd} {K : PySem.W.Frag} {ρ : List Sl} {te tu : TE} {ds es : List PyData}
theorem ee_neLL (h1 : Eq_ W te ρ (fun x => x = ds)) (h2 : Eq_ W tu ρ (fun x => x = es)) (s1 : SeqAt.shaped (.list ds) = true) (s2 : SeqAt.shaped (.list es) = true) : Ee W (tOp (rNeD K) te tu) ρ (.bool (!PyData.eqv (.list ds) (.list es))) := fun B σ H Q A k =>
  h1 B σ H _ A fun p vs d H1 r1 m1 e1 t1 q1 => h2 B σ H1 _ (A.mono r1) fun q us e H2 r2 m2 e2 t2 q2 => by
    subst q1
    subst q2
    exact ⟨_, _, .lst (SqL.of (Wd.keep r2 e1 m1)) ((t1.mono (Wd.tup r2)).dp), .lst (SqL.of e2) t2.dp, s1, s2, k _ H2 _ (Wd.trans r1 r2) (.bl _) rfl⟩
theorem ee_eqLL (h1 : Eq_ W te ρ (fun x => x = ds)) (h2 : Eq_ W tu ρ (fun x => x = es)) (s1 : SeqAt.shaped (.list ds) = true) (s2 : SeqAt.shaped (.list es) = true) : Ee W (tOp (rEqD K) te tu) ρ (.bool (PyData.eqv (.list ds) (.list es))) := fun B σ H Q A k =>
  h1 B σ H _ A fun p vs d H1 r1 m1 e1 t1 q1 => h2 B σ H1 _ (A.mono r1) fun q us e H2 r2 m2 e2 t2 q2 => by
    subst q1
    subst q2
    exact ⟨_, _, .lst (SqL.of (Wd.keep r2 e1 m1)) ((t1.mono (Wd.tup r2)).dp), .lst (SqL.of e2) t2.dp, s1, s2, k _ H2 _ (Wd.trans r1 r2) (.bl _) rfl⟩
theorem eqv_nil : ∀ ds : List PyData, PyData.eqv (.list ds) (.list []) = ds.isEmpty
  | [] => by simp [PyData.eqv, PyData.eqvAll]
  | d :: r => by simp [PyData.eqv, PyData.eqvAll]
/-- an item of a written dict -/
theorem pairs_lit {σ : L2.St} {H : Hp} : ∀ {lit : List (Str × Int)} {Q : List (V × V) → Hp → Prop}, Q (lit.map fun p => (V.str p.1, V.int p.2)) H → tPairs (lit.map fun p => (tC (.str p.1), tC (.int p.2))) σ H Q
  | [], Q, h => h
  | p :: r, Q, h => pairs_lit (lit := r) (Q := fun ps H3 => Q ((V.str p.1, V.int p.2) :: ps) H3) h
theorem ee_lit {ty : TE} {x : Str} {v : Int} (lit : List (Str × Int)) (hl : lit.length ≤ 15) (h : Ee W ty ρ (.str x)) (hv : valV (mergeK [] (lit.map fun p => ((Sum.inr p.1 : Key), V.int p.2))) (Sum.inr x) = some (.int v)) :
    Ee W (tDGet (tDisp (lit.map fun p => (tC (.str p.1), tC (.int p.2)))) ty) ρ (.int v) := fun B σ H Q A k p hp => pairs_lit (by
  refine ⟨upd_same, lit.map (fun p => ((Sum.inr p.1 : Key), V.int p.2)), ?_, by rw [List.length_map]; exact hl, ?_⟩
  · rw [List.map_map]
    rfl
  · have r0 : W.rel H (upd (upd H p (.dK [])) p (.dK (mergeK [] (lit.map fun p => ((Sum.inr p.1 : Key), V.int p.2))))) := Wd.chg A.i (Wd.new hp) hp
    refine h B σ _ _ (A.mono r0) fun y H2 d r2 t2 p2 => ?_
    subst p2
    have e : H2 p = some (.dK (mergeK [] (lit.map fun p => ((Sum.inr p.1 : Key), V.int p.2)))) := Wd.keep r2 upd_same (Wd.nmt A.i hp)
    refine ⟨p, .int v, rfl, ?_, k _ H2 _ (Wd.trans r0 r2) (.int v) rfl⟩
    rw [t2.str_of, ← hv]
    exact DGet.k (k := Sum.inr x) e)
end
/-! ### the greatest -/
def tupOf (x : Int) (t : Strip) : PySem.W.Tup Int := ⟨[t.rank, 0 - (t.number : Int), gI t.inks (x - t.left)]⟩
def lawD (x : Int) (t : Strip) : PyData := .tuple [.int t.rank, .int (0 - (t.number : Int)), .int (gI t.inks (x - t.left))]
theorem lt_strip {x : Int} {a t : Strip} (h : a.number < t.number) : PySem.W.DatumOrd.lt (tupOf x a) (tupOf x t) = decide (a.rank < t.rank) := by
  show PySem.W.listLt [a.rank, 0 - (a.number : Int), _] [t.rank, 0 - (t.number : Int), _] = _
  rw [PySem.W.listLt]
  by_cases e : a.rank = t.rank
  · rw [if_pos e, PySem.W.listLt, if_neg (by omega)]
    show decide (0 - (a.number : Int) < 0 - (t.number : Int)) = _
    rw [decide_eq_false (by omega), decide_eq_false (by omega)]
  · rw [if_neg e]
    rfl
theorem max_best (x : Int) : ∀ (l : List Strip) (a : Strip), (∀ t ∈ l, a.number < t.number) → l.Pairwise (fun s t => s.number < t.number) →
    ∃ b : Strip, PySem.W.maxOf (tupOf x a) (l.map (tupOf x)) = tupOf x b ∧ l.foldl (bestStep x) (some (a.rank, gI a.inks (x - a.left))) = some (b.rank, gI b.inks (x - b.left))
  | [], a, _, _ => ⟨a, rfl, rfl⟩
  | t :: l, a, h, hp => by
    rw [List.pairwise_cons] at hp
    have e := lt_strip (x := x) (h t List.mem_cons_self)
    have em : PySem.W.maxOf (tupOf x a) ((t :: l).map (tupOf x)) = PySem.W.maxOf (if a.rank < t.rank then tupOf x t else tupOf x a) (l.map (tupOf x)) := by
      show List.foldl _ (if PySem.W.DatumOrd.lt (tupOf x a) (tupOf x t) = true then tupOf x t else tupOf x a) _ = List.foldl _ _ _
      rw [e]
      simp only [decide_eq_true_eq]
    have ef : (t :: l).foldl (bestStep x) (some (a.rank, gI a.inks (x - a.left))) = l.foldl (bestStep x) (if a.rank < t.rank then some (t.rank, gI t.inks (x - t.left)) else some (a.rank, gI a.inks (x - a.left))) := rfl
    rw [em, ef]
    by_cases hr : a.rank < t.rank
    · rw [if_pos hr, if_pos hr]
      exact max_best x l t hp.1 hp.2
    · rw [if_neg hr, if_neg hr]
      exact max_best x l a (fun u hu => h u (List.mem_cons_of_mem _ hu)) hp.2
theorem max_lawD {x : Int} {a : Strip} {l : List Strip} (hp : (a :: l).Pairwise (fun s t => s.number < t.number)) : ∃ b : Strip, PySem.W.maxD (lawD x a) (l.map (lawD x)) = lawD x b ∧ bestOf x (a :: l) = some (b.rank, gI b.inks (x - b.left)) := by
  rw [List.pairwise_cons] at hp
  obtain ⟨b, h1, h2⟩ := max_best x l a hp.1 hp.2
  refine ⟨b, ?_, h2⟩
  have e := PySem.W.maxD_map (tupOf x a) (l.map (tupOf x))
  rw [h1, List.map_map] at e
  exact e
theorem alike_lawD (x : Int) (l : List Strip) : PySem.W.AlikeAll (l.map (lawD x)) := by
  have e := PySem.W.alikeAll_datum (l.map (tupOf x))
  rw [List.map_map] at e
  exact e
theorem lay_lawD (x : Int) (l : List Strip) : ∀ d ∈ l.map (lawD x), d.canLay0 = true ∧ d.depth ≤ 8 := by
  intro d hd
  obtain ⟨t, _, rfl⟩ := List.mem_map.mp hd
  unfold lawD
  refine ⟨by simp [PyData.canLay0, PyData.canLayAll0], by simp [PyData.depth, PyData.depthAll]⟩
structure Taken.Ok (t : Taken) : Prop where
  len : t.strips.length ≤ 1000
  asc : t.strips.Pairwise (fun s t => s.number < t.number)
  rank : ∀ s ∈ t.strips, 0 ≤ s.rank
theorem best_split (x : Int) : ∀ (l : List Strip) (a b : Option (Int × Int)), (b = none → ∀ c, a = some c → c.1 ≤ 0) → (∀ c, b = some c → a = some c ∧ 0 < c.1) →
    ((l.filter fun t => decide (0 < t.rank)).foldl (bestStep x) b = none → ∀ c, l.foldl (bestStep x) a = some c → c.1 ≤ 0) ∧
    (∀ c, (l.filter fun t => decide (0 < t.rank)).foldl (bestStep x) b = some c → l.foldl (bestStep x) a = some c ∧ 0 < c.1)
  | [], a, b, h1, h2 => ⟨h1, h2⟩
  | t :: l, a, b, h1, h2 => by
    by_cases hr : 0 < t.rank
    · rw [List.filter_cons, if_pos (decide_eq_true hr)]
      refine best_split x l (bestStep x a t) (bestStep x b t) ?_ ?_
      · intro z
        cases b with
        | none => cases z
        | some c =>
          have : bestStep x (some c) t ≠ none := by
            show (if _ then _ else _) ≠ none
            split <;> simp
          exact absurd z this
      · intro c hc
        cases b with
        | none =>
          have hc : some (t.rank, gI t.inks (x - t.left)) = some c := hc
          have hc := Option.some.inj hc
          subst hc
          refine ⟨?_, hr⟩
          cases a with
          | none => rfl
          | some d =>
            have hd := h1 rfl d rfl
            show (if d.1 < t.rank then _ else _) = _
            rw [if_pos (by omega)]
        | some d =>
          obtain ⟨e, hd⟩ := h2 d rfl
          subst e
          refine ⟨hc, ?_⟩
          have hc : (if d.1 < t.rank then some (t.rank, gI t.inks (x - t.left)) else some d) = some c := hc
          split at hc
          · have hc := Option.some.inj hc
            subst hc
            exact hr
          · have hc := Option.some.inj hc
            subst hc
            exact hd
    · rw [List.filter_cons, if_neg (by simpa using hr)]
      refine best_split x l (bestStep x a t) b ?_ ?_
      · intro z c hc
        cases a with
        | none =>
          have hc := Option.some.inj (show some (t.rank, gI t.inks (x - t.left)) = some c from hc)
          subst hc
          show t.rank ≤ 0
          omega
        | some d =>
          have hd := h1 z d rfl
          have hc : (if d.1 < t.rank then some (t.rank, gI t.inks (x - t.left)) else some d) = some c := hc
          split at hc
          · have hc := Option.some.inj hc
            subst hc
            show t.rank ≤ 0
            omega
          · have hc := Option.some.inj hc
            subst hc
            exact hd
      · intro c hc
        obtain ⟨e, hd⟩ := h2 c hc
        subst e
        refine ⟨?_, hd⟩
        show (if c.1 < t.rank then _ else some c) = some c
        rw [if_neg (by omega)]
theorem foldl_some {x : Int} : ∀ {l : List Strip} {c : Int × Int}, l.foldl (bestStep x) (some c) ≠ none
  | [], c, z => by cases z
  | t :: l, c, z => by
    have z : l.foldl (bestStep x) (if c.1 < t.rank then some (t.rank, gI t.inks (x - t.left)) else some c) = none := z
    split at z <;> exact foldl_some z
theorem best_none {x : Int} {l : List Strip} (h : bestOf x l = none) : l = [] := by
  cases l with
  | nil => rfl
  | cons t l => exact absurd h foldl_some
theorem best_rank {x : Int} : ∀ {l : List Strip} {a : Option (Int × Int)}, (∀ s ∈ l, 0 ≤ s.rank) → (∀ c, a = some c → 0 ≤ c.1) → ∀ c, l.foldl (bestStep x) a = some c → 0 ≤ c.1
  | [], a, _, h, c, hc => h c hc
  | t :: l, a, hl, h, c, hc => by
    refine best_rank (l := l) (a := bestStep x a t) (fun s hs => hl s (List.mem_cons_of_mem _ hs)) (fun d hd => ?_) c hc
    have ht := hl t List.mem_cons_self
    cases a with
    | none =>
      have hd := Option.some.inj (show some (t.rank, gI t.inks (x - t.left)) = some d from hd)
      subst hd
      exact ht
    | some e =>
      have hd : (if e.1 < t.rank then some (t.rank, gI t.inks (x - t.left)) else some e) = some d := hd
      split at hd
      · have hd := Option.some.inj hd
        subst hd
        exact ht
      · have hd := Option.some.inj hd
        subst hd
        exact h e rfl
/-- what the law's ink says: above the floor, then the floor, then what lies below -/
theorem ink_above {t : Taken} {x : Int} {b : Int × Int} (h : bestOf x ((covering t x).filter fun s => decide (0 < s.rank)) = some b) : inkAt t x = b.2 := by
  obtain ⟨h1, h2⟩ := (best_split x (covering t x) none none (fun _ c z => by cases z) (fun c z => by cases z)).2 b h
  unfold inkAt
  rw [show bestOf x (covering t x) = some b from h1]
  show (if _ then _ else _) = _
  rw [if_neg (by intro z; omega)]
theorem ink_below {t : Taken} {x : Int} (ok : t.Ok) (h : bestOf x ((covering t x).filter fun s => decide (0 < s.rank)) = none) :
    inkAt t x = if gI t.inks x ≠ 0 ∨ covering t x = [] then gI t.inks x else ((bestOf x (covering t x)).getD (0, 0)).2 := by
  have h1 := (best_split x (covering t x) none none (fun _ c z => by cases z) (fun c z => by cases z)).1 h
  have h2 := best_rank (x := x) (l := covering t x) (a := none) (fun s hs => ok.rank s (List.mem_filter.mp hs).1) (fun c z => by cases z)
  unfold inkAt
  cases e : bestOf x (covering t x) with
  | none =>
    rw [if_pos (.inr (best_none e))]
  | some b =>
    have e1 := h1 b e
    have e2 := h2 b e
    have hne : covering t x ≠ [] := fun z => by rw [z] at e; cases e
    show (if _ then _ else _) = _
    by_cases hg : gI t.inks x = 0
    · rw [if_neg (by intro z; exact z.2 hg), if_neg (by intro z; rcases z with z | z; exact z hg; exact hne z)]
      rfl
    · rw [if_pos ⟨by omega, hg⟩, if_pos (.inl hg)]
end Gw
set_option Elab.async false
set_option linter.all false
set_option maxRecDepth 100000
set_option maxHeartbeats 4000000
namespace Gw
open PySem PySem.Spec PyProof.Rows L2
theorem nth_mem {α : Type} {l : List α} {g : α → PyData} {i : Nat} (h : i < (l.map g).length) : ∃ x, x ∈ l ∧ nth (l.map g) i = g x := by
  have h' : i < l.length := by rw [List.length_map] at h; exact h
  refine ⟨l[i], List.getElem_mem _, nth_at ?_⟩
  rw [List.getElem?_map, List.getElem?_eq_getElem h']
  rfl
theorem ee_divmod {W : Wd} {ρ : List Sl} {ta tb : TE} {i j : Int} (ha : Ee W ta ρ (.int i)) (hb : Ee W tb ρ (.int j)) (hc : CDiv i j) :
    Ee W (tCB (fun xs H Q => ∃ i j, xs = [.int i, .int j] ∧ CDiv i j ∧ ∀ p, H p = none → Q (.ref p) (upd H p (.tup [.int (i / j), .int (i % j)]))) (tCons ta (tCons tb tNil))) ρ (.tuple [.int (i / j), .int (i % j)]) := fun B σ H Q A k =>
  ha B σ H _ A fun v H1 d r1 t1 p1 => hb B σ H1 _ (A.mono r1) fun u H2 e r2 t2 p2 => by
    subst p1
    subst p2
    exact ⟨i, j, by rw [t1.int_of, t2.int_of], hc, fun p hp => k (.ref p) _ _ (Wd.trans r1 (Wd.trans r2 (Wd.new hp))) (.tup upd_same (.cons (.int _) (.cons (.int _) .nil))) rfl⟩
/- one step of the evaluation; walk_at "ev": to its end -/
local macro_rules | `(tactic| walk_at "ev1") => `(tactic| first
  | exact ee_int | exact ee_bl | exact ee_str | exact ee_non | exact ee_var rfl | exact eo_none | exact ea_nil
  | refine' ea_cons ?_ ?_ | refine' ee_II ?_ ?_ | refine' ee_IB ?_ ?_ | refine' ee_UI ?_ | refine' ee_IC ?_ ?_ ?_
  | refine' et_test ?_ | refine' et_B ?_ | refine' et_not ?_ | refine' et_and ?_ (fun _ => ?_) | refine' et_or ?_ (fun _ => ?_)
  | refine' ee_andV ?_ (fun _ => ?_) | refine' ee_orV ?_ (fun _ => ?_) | refine' ee_notV ?_
  | refine' ee_isN ?_ | refine' ee_notN ?_ | refine' ee_eqD ?_ ?_ ?_ | refine' ee_neD ?_ ?_ ?_
  | refine' ee_ixT ?_ ?_ ?_ | refine' ee_lenT ?_ | refine' ee_isi ?_ ?_ | refine' ee_tup ?_ | refine' eo_some ?_ | refine' ee_slT ?_ ?_ ?_
  | exact ki_ii | exact ki_ib | exact ki_tt | exact ki_ss | (show atI _ _ = some _; first | rfl | assumption) | (show scalD _ _ = true; rfl))
local macro_rules | `(tactic| walk_at "ev") => `(tactic| repeat' walk_at "ev1")
abbrev F_is_whole (ds : List PyData) (r : PyData) : Prop := ∃ i a b : Int, ds = [.int i, .int a, .int b] ∧ r = .bool (decide (a ≤ i) && decide (i ≤ b))
abbrev F_is_frame (ds : List PyData) (r : PyData) : Prop := ∃ f : Frame, f.Ok ∧ ds = [f.d] ∧ r = .bool true
abbrev F_need_frame (ds : List PyData) (r : PyData) : Prop := ∃ f : Frame, f.Ok ∧ ds = [f.d] ∧ r = .none
abbrev F_ticks_of (ds : List PyData) (r : PyData) : Prop := ∃ f : Frame, f.Ok ∧ ds = [f.d] ∧ r = .int f.ticks
def spotD (f : Frame) (t : Int) : PyData := if t % (f.wide + f.gap) < f.wide then .int (t % (f.wide + f.gap)) else .none
abbrev F_place_of (ds : List PyData) (r : PyData) : Prop := ∃ (f : Frame) (t : Int), f.Ok ∧ 0 ≤ t ∧ t < f.ticks ∧ ds = [f.d, .int t] ∧ r = .tuple [.int (t / (f.wide + f.gap)), spotD f t]
abbrev F_are_inks (ds : List PyData) (r : PyData) : Prop := ∃ (l : List Int) (most : Int) (many : PyData), 1 ≤ l.length ∧ (l.length : Int) ≤ most ∧ most ≤ 1000 ∧ (many = .none ∨ many = .int l.length) ∧ (∀ i ∈ l, InkOk i) ∧ ds = [inksD l, .int most, many] ∧ r = .bool true
abbrev F_are_rows (ds : List PyData) (r : PyData) : Prop := ∃ (l : List (List Int)) (most : Nat), RowsOk most l ∧ most ≤ 1000 ∧ ds = [rowsD l, .int most] ∧ r = .bool true
abbrev F_is_shape (ds : List PyData) (r : PyData) : Prop := ∃ (l : List (List Int)), RowsOk 8 l ∧ ds = [rowsD l] ∧ r = .bool true
abbrev F_is_place (ds : List PyData) (r : PyData) : Prop := ∃ x y : Int, Far x ∧ Far y ∧ ds = [.int x, .int y] ∧ r = .bool true
abbrev F_is_number_in (ds : List PyData) (r : PyData) : Prop := ∃ (s : Option Nat) (b : List (List (List Int))), ShapeOk b.length s ∧ ds = [shapeD s, bookD b] ∧ r = .bool true
abbrev F_is_mover (ds : List PyData) (r : PyData) : Prop := ∃ (m : Mover) (b : List (List (List Int))), MoverOk b.length m ∧ ds = [m.d, bookD b] ∧ r = .bool true
abbrev F_are_pots (ds : List PyData) (r : PyData) : Prop := ∃ (l : List Int), l.length = 16 ∧ (∀ h ∈ l, 0 ≤ h ∧ h ≤ 63) ∧ ds = [inksD l] ∧ r = .bool true
abbrev F_is_stand (ds : List PyData) (r : PyData) : Prop := ∃ s : Stand, s.Ok ∧ ds = [s.d] ∧ r = .bool true
abbrev F_need_stand (ds : List PyData) (r : PyData) : Prop := ∃ s : Stand, s.Ok ∧ ds = [s.d] ∧ r = .none
section
variable {W : Wd} {ta : TA} {ρ : List Sl} {E : XK}
theorem e_is_whole {i a b : Int} (h : EA W ta ρ [.int i, .int a, .int b]) : Ee W (tCall (spF 3 F_is_whole) [] E ta) ρ (.bool (decide (a ≤ i) && decide (i ≤ b))) := ee_call h ⟨_, _, _, rfl, rfl⟩ rfl
theorem e_is_frame {f : Frame} (ok : f.Ok) (h : EA W ta ρ [f.d]) : Ee W (tCall (spF 1 F_is_frame) [] E ta) ρ (.bool true) := ee_call h ⟨_, ok, rfl, rfl⟩ rfl
theorem e_need_frame {f : Frame} (ok : f.Ok) (h : EA W ta ρ [f.d]) : Ee W (tCall (spF 1 F_need_frame) [] E ta) ρ .none := ee_call h ⟨_, ok, rfl, rfl⟩ rfl
theorem e_ticks_of {f : Frame} (ok : f.Ok) (h : EA W ta ρ [f.d]) : Ee W (tCall (spF 1 F_ticks_of) [] E ta) ρ (.int f.ticks) := ee_call h ⟨_, ok, rfl, rfl⟩ rfl
theorem e_place_of {f : Frame} {t : Int} (ok : f.Ok) (h0 : 0 ≤ t) (h1 : t < f.ticks) (h : EA W ta ρ [f.d, .int t]) : Ee W (tCall (spF 2 F_place_of) [] E ta) ρ (.tuple [.int (t / (f.wide + f.gap)), spotD f t]) := ee_call h ⟨_, _, ok, h0, h1, rfl, rfl⟩ rfl
theorem e_are_inks {l : List Int} {most : Int} {many : PyData} (h1 : 1 ≤ l.length) (h2 : (l.length : Int) ≤ most) (h5 : most ≤ 1000) (h3 : many = .none ∨ many = .int l.length) (h4 : ∀ i ∈ l, InkOk i) (h : EA W ta ρ [inksD l, .int most, many]) : Ee W (tCall (spF 3 F_are_inks) [] E ta) ρ (.bool true) := ee_call h ⟨l, most, many, h1, h2, h5, h3, h4, rfl, rfl⟩ rfl
theorem e_are_rows {l : List (List Int)} {most : Nat} (ok : RowsOk most l) (hm : most ≤ 1000) (h : EA W ta ρ [rowsD l, .int most]) : Ee W (tCall (spF 2 F_are_rows) [] E ta) ρ (.bool true) := ee_call h ⟨_, _, ok, hm, rfl, rfl⟩ rfl
theorem e_is_shape {l : List (List Int)} (ok : RowsOk 8 l) (h : EA W ta ρ [rowsD l]) : Ee W (tCall (spF 1 F_is_shape) [] E ta) ρ (.bool true) := ee_call h ⟨_, ok, rfl, rfl⟩ rfl
theorem e_is_place {x y : Int} (h1 : Far x) (h2 : Far y) (h : EA W ta ρ [.int x, .int y]) : Ee W (tCall (spF 2 F_is_place) [] E ta) ρ (.bool true) := ee_call h ⟨_, _, h1, h2, rfl, rfl⟩ rfl
theorem e_is_number_in {s : Option Nat} {b : List (List (List Int))} (ok : ShapeOk b.length s) (h : EA W ta ρ [shapeD s, bookD b]) : Ee W (tCall (spF 2 F_is_number_in) [] E ta) ρ (.bool true) := ee_call h ⟨_, _, ok, rfl, rfl⟩ rfl
theorem e_is_mover {m : Mover} {b : List (List (List Int))} (ok : MoverOk b.length m) (h : EA W ta ρ [m.d, bookD b]) : Ee W (tCall (spF 2 F_is_mover) [] E ta) ρ (.bool true) := ee_call h ⟨_, _, ok, rfl, rfl⟩ rfl
theorem e_are_pots {l : List Int} (h1 : l.length = 16) (h2 : ∀ h ∈ l, 0 ≤ h ∧ h ≤ 63) (h : EA W ta ρ [inksD l]) : Ee W (tCall (spF 1 F_are_pots) [] E ta) ρ (.bool true) := ee_call h ⟨_, h1, h2, rfl, rfl⟩ rfl
theorem e_is_stand {s : Stand} (ok : s.Ok) (h : EA W ta ρ [s.d]) : Ee W (tCall (spF 1 F_is_stand) [] E ta) ρ (.bool true) := ee_call h ⟨_, ok, rfl, rfl⟩ rfl
theorem e_need_stand {s : Stand} (ok : s.Ok) (h : EA W ta ρ [s.d]) : Ee W (tCall (spF 1 F_need_stand) [] E ta) ρ .none := ee_call h ⟨_, ok, rfl, rfl⟩ rfl
end
section
variable {P : Program} {w : World} {K : PySem.W.Frag} {mg : Str → Option Value} {base : Heap} {C D : Addr}
theorem sc_is_whole : FnScope ["thing", "low", "high"] ["thing", "low", "high"] (defScope s_is_whole) := ⟨rfl, rfl, rfl, by decide +kernel, rfl, by decide +kernel, by decide +kernel⟩
theorem c_is_whole (T : Txt K mg w C D) : Cal P w K mg base 1 "is_whole" (spF 3 F_is_whole) := by
  have nd := sc_is_whole.nd
  refine mkF T.f_is_whole (fun _ _ _ _ _ _ us hl => match us, hl with | [_, _, _], _ => rfl) sc_is_whole rfl (fun f cdv A outer s H E hr => ⟨_, (pss_one (ps_ret (pe_and (pe_callB (call_isiW (K := K) rfl) (by rfl) T.b_isinstance (by decide +kernel) (pa_cons (pv 0) (pa_cons (pe_bltn (v := .ty "int") (by rfl) T.b_int (by decide +kernel) rfl) pa_nil))) (pe_and (pe_not (pe_callB (call_isiW (K := K) rfl) (by rfl) T.b_isinstance (by decide +kernel) (pa_cons (pv 0) (pa_cons (pe_bltn (v := .ty "bool") (by rfl) T.b_bool (by decide +kernel) rfl) pa_nil)))) (pe_and (pe_cmpR op_le (pv 1) (pv 0) (nomark _)) (pe_one (pe_cmpR op_le (pv 0) (pv 2) (nomark _)))))))), fun ds r hn hF => ?_⟩)
  obtain ⟨i, a, b, rfl, rfl⟩ := hF
  refine bs_ret (Ed.is (by walk_at "ev") ?_)
  simp
theorem sc_is_frame : FnScope ["thing"] ["thing"] (defScope s_is_frame) := ⟨rfl, rfl, rfl, by decide +kernel, rfl, by decide +kernel, by decide +kernel⟩
theorem c_is_frame (T : Txt K mg w C D) : Cal P w K mg base 2 "is_frame" (spF 1 F_is_frame) := by
  have nd := sc_is_frame.nd
  have c_is_whole := c_is_whole (P := P) (w := w) (base := base) T
  refine mkF T.f_is_frame (fun _ _ _ _ _ _ us hl => match us, hl with | [_], _ => rfl) sc_is_frame rfl (fun f cdv A outer s H E hr => ⟨_, (pss_cons (ps_if (PW.pt (pw_or (pt_not (pt_val (pe_callB (call_isiW (K := K) rfl) (by rfl) T.b_isinstance (by decide +kernel) (pa_cons (pv 0) (pa_cons (pe_bltn (v := .ty "tuple") (by rfl) T.b_tuple (by decide +kernel) rfl) pa_nil))))) (pw_or1 (pt_cmpR op_ne (pe_callB (call_lenK (K := K) rfl) (by rfl) T.b_len (by decide +kernel) (pa_cons (pv 0) pa_nil)) pe_int (nomark _))))) (pss_one (ps_ret pe_bl)) pss_nil) (pss_cons (ps_if (PW.pt (pw_or (pt_not (pt_val (pe_c c_is_whole hr (by decide) (by rfl) (pa_cons (pe_ix (ix_tupK (K := K) rfl) (pv 0) pe_int (fun _ _ => rfl)) (pa_cons pe_int (pa_cons (pe_gc (by rfl) T.n_MOST_WIDE) pa_nil)))))) (pw_or1 (pt_not (pt_val (pe_c c_is_whole hr (by decide) (by rfl) (pa_cons (pe_ix (ix_tupK (K := K) rfl) (pv 0) pe_int (fun _ _ => rfl)) (pa_cons pe_int (pa_cons (pe_gc (by rfl) T.n_MOST_HIGH) pa_nil))))))))) (pss_one (ps_ret pe_bl)) pss_nil) (pss_one (ps_ret (pe_and (pe_c c_is_whole hr (by decide) (by rfl) (pa_cons (pe_ix (ix_tupK (K := K) rfl) (pv 0) pe_int (fun _ _ => rfl)) (pa_cons pe_int (pa_cons (pe_gc (by rfl) T.n_MOST_GAP) pa_nil)))) (pe_one (pe_c c_is_whole hr (by decide) (by rfl) (pa_cons (pe_ix (ix_tupK (K := K) rfl) (pv 0) pe_int (fun _ _ => rfl)) (pa_cons pe_int (pa_cons (pe_gc (by rfl) T.n_MOST_KEPT) pa_nil)))))))))), fun ds r hn hF => ?_⟩)
  obtain ⟨f, ok, rfl, rfl⟩ := hF
  obtain ⟨w1, w2, h1, h2, g1, g2, m1, m2⟩ := ok
  refine bs_ifF (Et.is (by walk_at "ev") ?_) (bs_skip ?_)
  · rfl
  refine bs_ifF (Et.is (et_or (et_not (et_B (e_is_whole (by walk_at "ev")))) fun _ => et_not (et_B (e_is_whole (by walk_at "ev")))) ?_) (bs_skip ?_)
  · simp; omega
  refine bs_ret (Ed.is (ee_andV (e_is_whole (by walk_at "ev")) fun _ => e_is_whole (by walk_at "ev")) ?_)
  simp; omega
theorem sc_need_frame : FnScope ["frame"] ["frame"] (defScope s_need_frame) := ⟨rfl, rfl, rfl, by decide +kernel, rfl, by decide +kernel, by decide +kernel⟩
theorem c_need_frame (T : Txt K mg w C D) : Cal P w K mg base 3 "need_frame" (spF 1 F_need_frame) := by
  have nd := sc_need_frame.nd
  have c_is_frame := c_is_frame (P := P) (w := w) (base := base) T
  refine mkF T.f_need_frame (fun _ _ _ _ _ _ us hl => match us, hl with | [_], _ => rfl) sc_need_frame rfl (fun f cdv A outer s H E hr => ⟨_, (pss_one (ps_if (pt_not (pt_val (pe_c c_is_frame hr (by decide) (by rfl) (pa_cons (pv 0) pa_nil)))) (pss_one ps_never) pss_nil)), fun ds r hn hF => ?_⟩)
  obtain ⟨f, ok, rfl, rfl⟩ := hF
  exact bs_ifZ (et_not (et_B (e_is_frame ok (by walk_at "ev")))) (fun z => by cases z) (fun _ => bs_next rfl)
theorem sc_ticks_of : FnScope ["frame"] ["frame"] (defScope s_ticks_of) := ⟨rfl, rfl, rfl, by decide +kernel, rfl, by decide +kernel, by decide +kernel⟩
theorem c_ticks_of (T : Txt K mg w C D) : Cal P w K mg base 1 "ticks_of" (spF 1 F_ticks_of) := by
  have nd := sc_ticks_of.nd
  refine mkF T.f_ticks_of (fun _ _ _ _ _ _ us hl => match us, hl with | [_], _ => rfl) sc_ticks_of rfl (fun f cdv A outer s H E hr => ⟨_, (pss_one (ps_ret (pe_op op_mul (pe_ix (ix_tupK (K := K) rfl) (pv 0) pe_int (fun _ _ => rfl)) (pe_op op_add (pe_ix (ix_tupK (K := K) rfl) (pv 0) pe_int (fun _ _ => rfl)) (pe_ix (ix_tupK (K := K) rfl) (pv 0) pe_int (fun _ _ => rfl)))))), fun ds r hn hF => ?_⟩)
  obtain ⟨f, ok, rfl, rfl⟩ := hF
  obtain ⟨w1, w2, h1, h2, g1, g2, m1, m2⟩ := ok
  exact bs_ret (ee_IC (by walk_at "ev") (by walk_at "ev") (.inl ⟨by omega, by omega⟩))
theorem sc_place_of : FnScope ["frame", "tick", "row", "spot"] ["frame", "tick"] (defScope s_place_of) := ⟨rfl, rfl, rfl, by decide +kernel, rfl, by decide +kernel, by decide +kernel⟩
theorem c_place_of (T : Txt K mg w C D) : Cal P w K mg base 2 "place_of" (spF 2 F_place_of) := by
  have nd := sc_place_of.nd
  have c_ticks_of := c_ticks_of (P := P) (w := w) (base := base) T
  refine mkF T.f_place_of (fun _ _ _ _ _ _ us hl => match us, hl with | [_, _], _ => rfl) sc_place_of rfl (fun f cdv A outer s H E hr => ⟨_, (pss_cons (ps_if (PW.pt (pw_or (pt_cmpR op_lt (pv 1) pe_int (nomark _)) (pw_or1 (pt_cmpR op_ge (pv 1) (pe_c c_ticks_of hr (by decide) (by rfl) (pa_cons (pv 0) pa_nil)) (nomark _))))) (pss_one ps_never) pss_nil) (pss_cons (ps_asg (pe_callB call_divmod (by rfl) T.b_divmod (by decide +kernel) (pa_cons (pv 1) (pa_cons (pe_op op_add (pe_ix (ix_tupK (K := K) rfl) (pv 0) pe_int (fun _ _ => rfl)) (pe_ix (ix_tupK (K := K) rfl) (pv 0) pe_int (fun _ _ => rfl))) pa_nil))) (pg_tupK (K := K) rfl (by rfl) (pgs_cons (pg_name (i := 2) nd rfl (by first | exact Or.inl rfl | exact Or.inr rfl)) (pgs_cons (pg_name (i := 3) nd rfl (by first | exact Or.inl rfl | exact Or.inr rfl)) pgs_nil)))) (pss_cons (ps_if (pt_cmpR op_ge (pv 3) (pe_ix (ix_tupK (K := K) rfl) (pv 0) pe_int (fun _ _ => rfl)) (nomark _)) (pss_one (ps_ret (pe_tup (pa_cons (pv 2) (pa_cons pe_non pa_nil))))) pss_nil) (pss_one (ps_ret (pe_tup (pa_cons (pv 2) (pa_cons (pv 3) pa_nil)))))))), fun ds r hn hF => ?_⟩)
  obtain ⟨f, t, ok, h0, h1, rfl, rfl⟩ := hF
  refine bs_ifF (Et.is (et_or (by walk_at "ev") fun _ => et_test (ee_IB (by walk_at "ev") (e_ticks_of ok (by walk_at "ev")))) ?_) (bs_skip ?_)
  · simp; omega
  obtain ⟨w1, w2, h2, h3, g1, g2, m1, m2⟩ := ok
  refine bs_asgG (ee_divmod (by walk_at "ev") (by walk_at "ev") ⟨by omega, by omega⟩) (gd_tup (gds_cons gd_name (gds_cons gd_name gds_nil)) rfl) ?_
  unfold spotD
  refine bs_ifC (by walk_at "ev") (fun e => ?_) (fun e => bs_skip ?_)
  · have e' := of_decide_eq_true e
    rw [if_neg (by omega)]
    exact bs_retS (bs_ret (by walk_at "ev"))
  · have e' := of_decide_eq_false e
    rw [if_pos (by omega)]
    exact bs_ret (by walk_at "ev")
theorem sc_are_inks : FnScope ["thing", "most", "many", "ink"] ["thing", "most", "many"] (defScope s_are_inks) := ⟨rfl, rfl, rfl, by decide +kernel, rfl, by decide +kernel, by decide +kernel⟩
theorem c_are_inks (T : Txt K mg w C D) : Cal P w K mg base 2 "are_inks" (spF 3 F_are_inks) := by
  have nd := sc_are_inks.nd
  have c_is_whole := c_is_whole (P := P) (w := w) (base := base) T
  refine mkF T.f_are_inks (fun _ _ _ _ _ _ us hl => match us, hl with | [_, _, _], _ => rfl) sc_are_inks rfl (fun f cdv A outer s H E hr => ⟨_, (pss_cons (ps_if (PW.pt (pw_or (pt_not (pt_val (pe_callB (call_isiW (K := K) rfl) (by rfl) T.b_isinstance (by decide +kernel) (pa_cons (pv 0) (pa_cons (pe_bltn (v := .ty "tuple") (by rfl) T.b_tuple (by decide +kernel) rfl) pa_nil))))) (pw_or (pt_cmpR op_lt (pe_callB (call_lenK (K := K) rfl) (by rfl) T.b_len (by decide +kernel) (pa_cons (pv 0) pa_nil)) pe_int (nomark _)) (pw_or1 (pt_cmpR op_gt (pe_callB (call_lenK (K := K) rfl) (by rfl) T.b_len (by decide +kernel) (pa_cons (pv 0) pa_nil)) (pv 1) (nomark _)))))) (pss_one (ps_ret pe_bl)) pss_nil) (pss_cons (ps_if (PW.pt (pw_and (pt_cmpR op_notN (pv 2) pe_non (nomark _)) (pw_and1 (pt_cmpR op_ne (pe_callB (call_lenK (K := K) rfl) (by rfl) T.b_len (by decide +kernel) (pa_cons (pv 0) pa_nil)) (pv 2) (nomark _))))) (pss_one (ps_ret pe_bl)) pss_nil) (pss_one (ps_ret (pe_callB (cr_allK (K := K) rfl (by rfl)) (by rfl) T.b_all (by decide +kernel) (pa_cons (pe_lc (own := [("ink", 3)]) (by rfl) nd (pi_tupK (K := K) rfl (pv 0)) (blkOk_by (N := ["thing", "most", "many", "ink"]) (sc := defScope s_are_inks) (by decide +kernel)) (fun _ _ _ _ _ => (pg_name (i := 3) nd rfl (by first | exact Or.inl rfl | exact Or.inr rfl))) (fun _ _ _ _ _ => pts_nil) (fun _ _ _ _ _ => (pe_c c_is_whole hr (by decide) (by rfl) (pa_cons (pv 3) (pa_cons pe_int (pa_cons (pe_op op_sub (pe_gc (by rfl) T.n_INKS) pe_int) pa_nil)))))) pa_nil)))))), fun ds r hn hF => ?_⟩)
  obtain ⟨l, most, many, h1, h2, h5, h3, h4, rfl, rfl⟩ := hF
  refine bs_ifF (Et.is (by walk_at "ev") ?_) (bs_skip ?_)
  · simp [tyD, inksD]; omega
  refine bs_ifF ?_ (bs_skip ?_)
  · rcases h3 with rfl | rfl
    · exact Et.is (et_and (b := false) (by walk_at "ev") fun e => absurd e (by decide)) (by rfl)
    · refine Et.is (by walk_at "ev") ?_
      simp [inksD, eqD]
  refine bs_ret (ee_all (el_lcY (js := [3]) (src_T (ee_var rfl)) (by simp [inksD]; omega) (fun _ y => y = .bool true) (by simp) (fun i hi => ⟨_, gd_name, ?_⟩) (fun rs h => paired_all h)))
  obtain ⟨x, hx, e⟩ := nth_mem hi
  rw [e]
  refine Ed.is (e_is_whole (by walk_at "ev")) ?_
  have := h4 x hx
  unfold InkOk at this
  simp; omega
theorem sc_are_rows : FnScope ["thing", "most", "row"] ["thing", "most"] (defScope s_are_rows) := ⟨rfl, rfl, rfl, by decide +kernel, rfl, by decide +kernel, by decide +kernel⟩
theorem c_are_rows (T : Txt K mg w C D) : Cal P w K mg base 3 "are_rows" (spF 2 F_are_rows) := by
  have nd := sc_are_rows.nd
  have c_are_inks := c_are_inks (P := P) (w := w) (base := base) T
  refine mkF T.f_are_rows (fun _ _ _ _ _ _ us hl => match us, hl with | [_, _], _ => rfl) sc_are_rows rfl (fun f cdv A outer s H E hr => ⟨_, (pss_cons (ps_if (PW.pt (pw_or (pt_not (pt_val (pe_callB (call_isiW (K := K) rfl) (by rfl) T.b_isinstance (by decide +kernel) (pa_cons (pv 0) (pa_cons (pe_bltn (v := .ty "tuple") (by rfl) T.b_tuple (by decide +kernel) rfl) pa_nil))))) (pw_or (pt_cmpR op_lt (pe_callB (call_lenK (K := K) rfl) (by rfl) T.b_len (by decide +kernel) (pa_cons (pv 0) pa_nil)) pe_int (nomark _)) (pw_or1 (pt_cmpR op_gt (pe_callB (call_lenK (K := K) rfl) (by rfl) T.b_len (by decide +kernel) (pa_cons (pv 0) pa_nil)) (pv 1) (nomark _)))))) (pss_one (ps_ret pe_bl)) pss_nil) (pss_cons (ps_if (pt_not (pt_val (pe_c c_are_inks hr (by decide) (by rfl) (pa_cons (pe_ix (ix_tupK (K := K) rfl) (pv 0) pe_int (fun _ _ => rfl)) (pa_cons (pv 1) (pa_cons pe_non pa_nil)))))) (pss_one (ps_ret pe_bl)) pss_nil) (pss_one (ps_ret (pe_callB (cr_allK (K := K) rfl (by rfl)) (by rfl) T.b_all (by decide +kernel) (pa_cons (pe_lc (own := [("row", 2)]) (by rfl) nd (pi_tupK (K := K) rfl (pv 0)) (blkOk_by (N := ["thing", "most", "row"]) (sc := defScope s_are_rows) (by decide +kernel)) (fun _ _ _ _ _ => (pg_name (i := 2) nd rfl (by first | exact Or.inl rfl | exact Or.inr rfl))) (fun _ _ _ _ _ => pts_nil) (fun _ _ _ _ _ => (pe_c c_are_inks hr (by decide) (by rfl) (pa_cons (pv 2) (pa_cons (pv 1) (pa_cons (pe_callB (call_lenK (K := K) rfl) (by rfl) T.b_len (by decide +kernel) (pa_cons (pe_ix (ix_tupK (K := K) rfl) (pv 0) pe_int (fun _ _ => rfl)) pa_nil)) pa_nil)))))) pa_nil)))))), fun ds r hn hF => ?_⟩)
  obtain ⟨l, most, ok, hm, rfl, rfl⟩ := hF
  obtain ⟨h1, h2, n, n1, n2, hr'⟩ := ok
  obtain ⟨x, l', rfl⟩ : ∃ x l', l = x :: l' := by
    cases l with
    | nil => simp at h1
    | cons x l' => exact ⟨x, l', rfl⟩
  have hx := hr' x List.mem_cons_self
  have at0 : atI ((x :: l').map inksD) 0 = some (inksD x) := atI_row (by omega) (by simp)
  refine bs_ifF (Et.is (by walk_at "ev") ?_) (bs_skip ?_)
  · simp [tyD, rowsD] at *; omega
  refine bs_ifF (Et.is (et_not (et_B (e_are_inks (l := x) (most := most) (by omega) (by omega) (by omega) (.inl rfl) hx.2 (by walk_at "ev")))) (by rfl)) (bs_skip ?_)
  refine bs_ret (ee_all (el_lcY (js := [2]) (src_T (ee_var rfl)) (by simp [rowsD] at *; omega) (fun _ y => y = .bool true) (by simp) (fun i hi => ⟨_, gd_name, ?_⟩) (fun rs h => paired_all h)))
  obtain ⟨y, hy, e⟩ := nth_mem hi
  rw [e]
  have hy' := hr' y hy
  have el : ((inksD x :: l'.map inksD).length : Int) = (l'.length : Int) + 1 := by simp
  refine e_are_inks (l := y) (most := most) (by omega) (by omega) (by omega) (.inr (congrArg PyData.int (?_ : ((x.map PyData.int).length : Int) = (y.length : Int)))) hy'.2 (by walk_at "ev")
  rw [List.length_map, hx.1, hy'.1]
theorem sc_is_shape : FnScope ["thing"] ["thing"] (defScope s_is_shape) := ⟨rfl, rfl, rfl, by decide +kernel, rfl, by decide +kernel, by decide +kernel⟩
theorem c_is_shape (T : Txt K mg w C D) : Cal P w K mg base 4 "is_shape" (spF 1 F_is_shape) := by
  have nd := sc_is_shape.nd
  have c_are_rows := c_are_rows (P := P) (w := w) (base := base) T
  refine mkF T.f_is_shape (fun _ _ _ _ _ _ us hl => match us, hl with | [_], _ => rfl) sc_is_shape rfl (fun f cdv A outer s H E hr => ⟨_, (pss_one (ps_ret (pe_c c_are_rows hr (by decide) (by rfl) (pa_cons (pv 0) (pa_cons (pe_gc (by rfl) T.n_MOST_SIDE) pa_nil))))), fun ds r hn hF => ?_⟩)
  obtain ⟨l, ok, rfl, rfl⟩ := hF
  exact bs_ret (e_are_rows (most := 8) ok (by omega) (by walk_at "ev"))
theorem sc_is_place : FnScope ["x", "y"] ["x", "y"] (defScope s_is_place) := ⟨rfl, rfl, rfl, by decide +kernel, rfl, by decide +kernel, by decide +kernel⟩
theorem c_is_place (T : Txt K mg w C D) : Cal P w K mg base 2 "is_place" (spF 2 F_is_place) := by
  have nd := sc_is_place.nd
  have c_is_whole := c_is_whole (P := P) (w := w) (base := base) T
  refine mkF T.f_is_place (fun _ _ _ _ _ _ us hl => match us, hl with | [_, _], _ => rfl) sc_is_place rfl (fun f cdv A outer s H E hr => ⟨_, (pss_one (ps_ret (pe_and (pe_c c_is_whole hr (by decide) (by rfl) (pa_cons (pv 0) (pa_cons (pe_un un_neg (pe_gc (by rfl) T.n_FAR)) (pa_cons (pe_gc (by rfl) T.n_FAR) pa_nil)))) (pe_one (pe_c c_is_whole hr (by decide) (by rfl) (pa_cons (pv 1) (pa_cons (pe_un un_neg (pe_gc (by rfl) T.n_FAR)) (pa_cons (pe_gc (by rfl) T.n_FAR) pa_nil)))))))), fun ds r hn hF => ?_⟩)
  obtain ⟨x, y, h1, h2, rfl, rfl⟩ := hF
  unfold Far at h1 h2
  refine bs_ret (Ed.is (ee_andV (e_is_whole (by walk_at "ev")) fun _ => e_is_whole (by walk_at "ev")) ?_)
  simp; omega
theorem sc_is_number_in : FnScope ["thing", "book"] ["thing", "book"] (defScope s_is_number_in) := ⟨rfl, rfl, rfl, by decide +kernel, rfl, by decide +kernel, by decide +kernel⟩
theorem c_is_number_in (T : Txt K mg w C D) : Cal P w K mg base 2 "is_number_in" (spF 2 F_is_number_in) := by
  have nd := sc_is_number_in.nd
  have c_is_whole := c_is_whole (P := P) (w := w) (base := base) T
  refine mkF T.f_is_number_in (fun _ _ _ _ _ _ us hl => match us, hl with | [_, _], _ => rfl) sc_is_number_in rfl (fun f cdv A outer s H E hr => ⟨_, (pss_one (ps_ret (pe_or (pe_cmpR op_isN (pv 0) pe_non (nomark _)) (pe_one (pe_c c_is_whole hr (by decide) (by rfl) (pa_cons (pv 0) (pa_cons pe_int (pa_cons (pe_op op_sub (pe_callB (call_lenK (K := K) rfl) (by rfl) T.b_len (by decide +kernel) (pa_cons (pv 1) pa_nil)) pe_int) pa_nil)))))))), fun ds r hn hF => ?_⟩)
  obtain ⟨s', b, ok, rfl, rfl⟩ := hF
  refine bs_ret ?_
  cases s' with
  | none => exact Ed.is (ee_orV (b := true) (by walk_at "ev") (fun z => by cases z)) rfl
  | some n =>
    have h := ok n rfl
    refine Ed.is (ee_orV (by walk_at "ev") fun _ => e_is_whole (by walk_at "ev")) ?_
    simp [isNoneD, bookD]; omega
theorem sc_is_mover : FnScope ["thing", "book"] ["thing", "book"] (defScope s_is_mover) := ⟨rfl, rfl, rfl, by decide +kernel, rfl, by decide +kernel, by decide +kernel⟩
theorem c_is_mover (T : Txt K mg w C D) : Cal P w K mg base 3 "is_mover" (spF 2 F_is_mover) := by
  have nd := sc_is_mover.nd
  have c_is_number_in := c_is_number_in (P := P) (w := w) (base := base) T
  have c_is_place := c_is_place (P := P) (w := w) (base := base) T
  have c_is_whole := c_is_whole (P := P) (w := w) (base := base) T
  refine mkF T.f_is_mover (fun _ _ _ _ _ _ us hl => match us, hl with | [_, _], _ => rfl) sc_is_mover rfl (fun f cdv A outer s H E hr => ⟨_, (pss_cons (ps_if (PW.pt (pw_or (pt_not (pt_val (pe_callB (call_isiW (K := K) rfl) (by rfl) T.b_isinstance (by decide +kernel) (pa_cons (pv 0) (pa_cons (pe_bltn (v := .ty "tuple") (by rfl) T.b_tuple (by decide +kernel) rfl) pa_nil))))) (pw_or1 (pt_cmpR op_ne (pe_callB (call_lenK (K := K) rfl) (by rfl) T.b_len (by decide +kernel) (pa_cons (pv 0) pa_nil)) pe_int (nomark _))))) (pss_one (ps_ret pe_bl)) pss_nil) (pss_cons (ps_if (PW.pt (pw_or (pt_not (pt_val (pe_c c_is_number_in hr (by decide) (by rfl) (pa_cons (pe_ix (ix_tupK (K := K) rfl) (pv 0) pe_int (fun _ _ => rfl)) (pa_cons (pv 1) pa_nil))))) (pw_or1 (pt_not (pt_val (pe_c c_is_place hr (by decide) (by rfl) (pa_cons (pe_ix (ix_tupK (K := K) rfl) (pv 0) pe_int (fun _ _ => rfl)) (pa_cons (pe_ix (ix_tupK (K := K) rfl) (pv 0) pe_int (fun _ _ => rfl)) pa_nil)))))))) (pss_one (ps_ret pe_bl)) pss_nil) (pss_one (ps_ret (pe_and (pe_c c_is_whole hr (by decide) (by rfl) (pa_cons (pe_ix (ix_tupK (K := K) rfl) (pv 0) pe_int (fun _ _ => rfl)) (pa_cons pe_int (pa_cons pe_int pa_nil)))) (pe_one (pe_c c_is_whole hr (by decide) (by rfl) (pa_cons (pe_ix (ix_tupK (K := K) rfl) (pv 0) pe_int (fun _ _ => rfl)) (pa_cons pe_int (pa_cons pe_int pa_nil)))))))))), fun ds r hn hF => ?_⟩)
  obtain ⟨m, b, ok, rfl, rfl⟩ := hF
  obtain ⟨h1, h2, h3, h4, h5, h6, h7⟩ := ok
  refine bs_ifF (Et.is (by walk_at "ev") (by rfl)) (bs_skip ?_)
  refine bs_ifF (Et.is (et_or (et_not (et_B (e_is_number_in h1 (by walk_at "ev")))) fun _ => et_not (et_B (e_is_place h2 h3 (by walk_at "ev")))) (by rfl)) (bs_skip ?_)
  refine bs_ret (Ed.is (ee_andV (e_is_whole (by walk_at "ev")) fun _ => e_is_whole (by walk_at "ev")) ?_)
  simp; omega
theorem sc_are_pots : FnScope ["thing", "hue"] ["thing"] (defScope s_are_pots) := ⟨rfl, rfl, rfl, by decide +kernel, rfl, by decide +kernel, by decide +kernel⟩
theorem c_are_pots (T : Txt K mg w C D) : Cal P w K mg base 2 "are_pots" (spF 1 F_are_pots) := by
  have nd := sc_are_pots.nd
  have c_is_whole := c_is_whole (P := P) (w := w) (base := base) T
  refine mkF T.f_are_pots (fun _ _ _ _ _ _ us hl => match us, hl with | [_], _ => rfl) sc_are_pots rfl (fun f cdv A outer s H E hr => ⟨_, (pss_cons (ps_if (PW.pt (pw_or (pt_not (pt_val (pe_callB (call_isiW (K := K) rfl) (by rfl) T.b_isinstance (by decide +kernel) (pa_cons (pv 0) (pa_cons (pe_bltn (v := .ty "tuple") (by rfl) T.b_tuple (by decide +kernel) rfl) pa_nil))))) (pw_or1 (pt_cmpR op_ne (pe_callB (call_lenK (K := K) rfl) (by rfl) T.b_len (by decide +kernel) (pa_cons (pv 0) pa_nil)) (pe_gc (by rfl) T.n_INKS) (nomark _))))) (pss_one (ps_ret pe_bl)) pss_nil) (pss_one (ps_ret (pe_callB (cr_allK (K := K) rfl (by rfl)) (by rfl) T.b_all (by decide +kernel) (pa_cons (pe_lc (own := [("hue", 1)]) (by rfl) nd (pi_tupK (K := K) rfl (pv 0)) (blkOk_by (N := ["thing", "hue"]) (sc := defScope s_are_pots) (by decide +kernel)) (fun _ _ _ _ _ => (pg_name (i := 1) nd rfl (by first | exact Or.inl rfl | exact Or.inr rfl))) (fun _ _ _ _ _ => pts_nil) (fun _ _ _ _ _ => (pe_c c_is_whole hr (by decide) (by rfl) (pa_cons (pv 1) (pa_cons pe_int (pa_cons (pe_op op_sub (pe_gc (by rfl) T.n_HUES) pe_int) pa_nil)))))) pa_nil))))), fun ds r hn hF => ?_⟩)
  obtain ⟨l, h1, h2, rfl, rfl⟩ := hF
  refine bs_ifF (Et.is (by walk_at "ev") ?_) (bs_skip ?_)
  · simp [tyD, inksD, eqD, h1]
  refine bs_ret (ee_all (el_lcY (js := [1]) (src_T (ee_var rfl)) (by simp [inksD]; omega) (fun _ y => y = .bool true) (by simp) (fun i hi => ⟨_, gd_name, ?_⟩) (fun rs h => paired_all h)))
  obtain ⟨x, hx, e⟩ := nth_mem hi
  rw [e]
  refine Ed.is (e_is_whole (by walk_at "ev")) ?_
  have := h2 x hx
  simp; omega
theorem sc_is_stand : FnScope ["thing", "floor", "shift", "book", "movers", "pots", "shape", "mover"] ["thing"] (defScope s_is_stand) := ⟨rfl, rfl, rfl, by decide +kernel, rfl, by decide +kernel, by decide +kernel⟩
theorem c_is_stand (T : Txt K mg w C D) : Cal P w K mg base 5 "is_stand" (spF 1 F_is_stand) := by
  have nd := sc_is_stand.nd
  have c_are_pots := c_are_pots (P := P) (w := w) (base := base) T
  have c_are_rows := c_are_rows (P := P) (w := w) (base := base) T
  have c_is_mover := c_is_mover (P := P) (w := w) (base := base) T
  have c_is_place := c_is_place (P := P) (w := w) (base := base) T
  have c_is_shape := c_is_shape (P := P) (w := w) (base := base) T
  refine mkF T.f_is_stand (fun _ _ _ _ _ _ us hl => match us, hl with | [_], _ => rfl) sc_is_stand rfl (fun f cdv A outer s H E hr => ⟨_, (pss_cons (ps_if (PW.pt (pw_or (pt_not (pt_val (pe_callB (call_isiW (K := K) rfl) (by rfl) T.b_isinstance (by decide +kernel) (pa_cons (pv 0) (pa_cons (pe_bltn (v := .ty "tuple") (by rfl) T.b_tuple (by decide +kernel) rfl) pa_nil))))) (pw_or1 (pt_cmpR op_ne (pe_callB (call_lenK (K := K) rfl) (by rfl) T.b_len (by decide +kernel) (pa_cons (pv 0) pa_nil)) pe_int (nomark _))))) (pss_one (ps_ret pe_bl)) pss_nil) (pss_cons (ps_asg (pv 0) (pg_tupK (K := K) rfl (by rfl) (pgs_cons (pg_name (i := 1) nd rfl (by first | exact Or.inl rfl | exact Or.inr rfl)) (pgs_cons (pg_name (i := 2) nd rfl (by first | exact Or.inl rfl | exact Or.inr rfl)) (pgs_cons (pg_name (i := 3) nd rfl (by first | exact Or.inl rfl | exact Or.inr rfl)) (pgs_cons (pg_name (i := 4) nd rfl (by first | exact Or.inl rfl | exact Or.inr rfl)) (pgs_cons (pg_name (i := 5) nd rfl (by first | exact Or.inl rfl | exact Or.inr rfl)) pgs_nil))))))) (pss_cons (ps_if (PW.pt (pw_or (pt_not (pt_val (pe_c c_are_rows hr (by decide) (by rfl) (pa_cons (pv 1) (pa_cons (pe_gc (by rfl) T.n_FLOOR_SIDE) pa_nil))))) (pw_or1 (pt_not (pt_val (pe_c c_are_pots hr (by decide) (by rfl) (pa_cons (pv 5) pa_nil))))))) (pss_one (ps_ret pe_bl)) pss_nil) (pss_cons (ps_if (PW.pt (pw_or (pt_not (pt_val (pe_callB (call_isiW (K := K) rfl) (by rfl) T.b_isinstance (by decide +kernel) (pa_cons (pv 2) (pa_cons (pe_bltn (v := .ty "tuple") (by rfl) T.b_tuple (by decide +kernel) rfl) pa_nil))))) (pw_or (pt_cmpR op_ne (pe_callB (call_lenK (K := K) rfl) (by rfl) T.b_len (by decide +kernel) (pa_cons (pv 2) pa_nil)) pe_int (nomark _)) (pw_or1 (pt_not (pt_val (pe_c c_is_place hr (by decide) (by rfl) (pa_cons (pe_ix (ix_tupK (K := K) rfl) (pv 2) pe_int (fun _ _ => rfl)) (pa_cons (pe_ix (ix_tupK (K := K) rfl) (pv 2) pe_int (fun _ _ => rfl)) pa_nil))))))))) (pss_one (ps_ret pe_bl)) pss_nil) (pss_cons (ps_if (PW.pt (pw_or (pt_not (pt_val (pe_callB (call_isiW (K := K) rfl) (by rfl) T.b_isinstance (by decide +kernel) (pa_cons (pv 3) (pa_cons (pe_bltn (v := .ty "tuple") (by rfl) T.b_tuple (by decide +kernel) rfl) pa_nil))))) (pw_or (pt_cmpR op_gt (pe_callB (call_lenK (K := K) rfl) (by rfl) T.b_len (by decide +kernel) (pa_cons (pv 3) pa_nil)) (pe_gc (by rfl) T.n_MOST_SHAPES) (nomark _)) (pw_or1 (pt_not (pt_val (pe_callB (cr_allK (K := K) rfl (by rfl)) (by rfl) T.b_all (by decide +kernel) (pa_cons (pe_lc (own := [("shape", 6)]) (by rfl) nd (pi_tupK (K := K) rfl (pv 3)) (blkOk_by (N := ["thing", "floor", "shift", "book", "movers", "pots", "shape", "mover"]) (sc := defScope s_is_stand) (by decide +kernel)) (fun _ _ _ _ _ => (pg_name (i := 6) nd rfl (by first | exact Or.inl rfl | exact Or.inr rfl))) (fun _ _ _ _ _ => pts_nil) (fun _ _ _ _ _ => (pe_c c_is_shape hr (by decide) (by rfl) (pa_cons (pv 6) pa_nil)))) pa_nil)))))))) (pss_one (ps_ret pe_bl)) pss_nil) (pss_cons (ps_if (PW.pt (pw_or (pt_not (pt_val (pe_callB (call_isiW (K := K) rfl) (by rfl) T.b_isinstance (by decide +kernel) (pa_cons (pv 4) (pa_cons (pe_bltn (v := .ty "tuple") (by rfl) T.b_tuple (by decide +kernel) rfl) pa_nil))))) (pw_or1 (pt_cmpR op_gt (pe_callB (call_lenK (K := K) rfl) (by rfl) T.b_len (by decide +kernel) (pa_cons (pv 4) pa_nil)) (pe_gc (by rfl) T.n_MOST_MOVERS) (nomark _))))) (pss_one (ps_ret pe_bl)) pss_nil) (pss_one (ps_ret (pe_callB (cr_allK (K := K) rfl (by rfl)) (by rfl) T.b_all (by decide +kernel) (pa_cons (pe_lc (own := [("mover", 7)]) (by rfl) nd (pi_tupK (K := K) rfl (pv 4)) (blkOk_by (N := ["thing", "floor", "shift", "book", "movers", "pots", "shape", "mover"]) (sc := defScope s_is_stand) (by decide +kernel)) (fun _ _ _ _ _ => (pg_name (i := 7) nd rfl (by first | exact Or.inl rfl | exact Or.inr rfl))) (fun _ _ _ _ _ => pts_nil) (fun _ _ _ _ _ => (pe_c c_is_mover hr (by decide) (by rfl) (pa_cons (pv 7) (pa_cons (pv 3) pa_nil))))) pa_nil)))))))))), fun ds r hn hF => ?_⟩)
  obtain ⟨s', ok, rfl, rfl⟩ := hF
  obtain ⟨k1, k2, k3, k4, k5, k6, k7, k8, k9⟩ := ok
  refine bs_ifF (Et.is (by walk_at "ev") (by rfl)) (bs_skip ?_)
  refine bs_asgG (ee_var rfl) (gd_tup (gds_cons gd_name (gds_cons gd_name (gds_cons gd_name (gds_cons gd_name (gds_cons gd_name gds_nil))))) rfl) ?_
  refine bs_ifF (Et.is (et_or (et_not (et_B (e_are_rows (most := 16) k1 (by omega) (by walk_at "ev")))) fun _ => et_not (et_B (e_are_pots k8 k9 (by walk_at "ev")))) (by rfl)) (bs_skip ?_)
  refine bs_ifF (Et.is (et_or (by walk_at "ev") fun _ => et_or (by walk_at "ev") fun _ => et_not (et_B (e_is_place k2 k3 (by walk_at "ev")))) (by rfl)) (bs_skip ?_)
  refine bs_ifF (Et.is (et_or (by walk_at "ev") fun _ => et_or (by walk_at "ev") fun _ => et_not (et_B (ee_all (el_lcY (js := [6]) (src_T (ee_var rfl)) (by simp; omega) (fun _ y => y = .bool true) (by simp) (fun i hi => ⟨_, gd_name, ?_⟩) (fun rs h => paired_all h))))) ?_) (bs_skip ?_)
  · obtain ⟨x, hx, e⟩ := nth_mem hi
    rw [e]
    exact e_is_shape (k5 x hx) (by walk_at "ev")
  · simp [tyD, bookD]; omega
  refine bs_ifF (Et.is (by walk_at "ev") ?_) (bs_skip ?_)
  · simp [tyD, moversD]; omega
  refine bs_ret (ee_all (el_lcY (js := [7]) (src_T (ee_var rfl)) (by simp; omega) (fun _ y => y = .bool true) (by simp) (fun i hi => ⟨_, gd_name, ?_⟩) (fun rs h => paired_all h)))
  obtain ⟨x, hx, e⟩ := nth_mem hi
  rw [e]
  exact e_is_mover (k7 x hx) (by walk_at "ev")
theorem sc_need_stand : FnScope ["stand"] ["stand"] (defScope s_need_stand) := ⟨rfl, rfl, rfl, by decide +kernel, rfl, by decide +kernel, by decide +kernel⟩
theorem c_need_stand (T : Txt K mg w C D) : Cal P w K mg base 6 "need_stand" (spF 1 F_need_stand) := by
  have nd := sc_need_stand.nd
  have c_is_stand := c_is_stand (P := P) (w := w) (base := base) T
  refine mkF T.f_need_stand (fun _ _ _ _ _ _ us hl => match us, hl with | [_], _ => rfl) sc_need_stand rfl (fun f cdv A outer s H E hr => ⟨_, (pss_one (ps_if (pt_not (pt_val (pe_c c_is_stand hr (by decide) (by rfl) (pa_cons (pv 0) pa_nil)))) (pss_one ps_never) pss_nil)), fun ds r hn hF => ?_⟩)
  obtain ⟨s', ok, rfl, rfl⟩ := hF
  exact bs_ifZ (et_not (et_B (e_is_stand ok (by walk_at "ev")))) (fun z => by cases z) (fun _ => bs_next rfl)
end
end Gw
set_option Elab.async false
set_option linter.all false
set_option maxRecDepth 100000
set_option maxHeartbeats 4000000
namespace Gw
open PySem PySem.Spec PyProof.Rows L2
/- one step of the evaluation; walk_at "ev": to its end -/
local macro_rules | `(tactic| walk_at "ev1") => `(tactic| first
  | exact ee_int | exact ee_bl | exact ee_str | exact ee_non | exact ee_var rfl | exact eo_none | exact ea_nil
  | refine' ea_cons ?_ ?_ | refine' ee_II ?_ ?_ | refine' ee_IB ?_ ?_ | refine' ee_UI ?_ | refine' ee_IC ?_ ?_ ?_
  | refine' et_test ?_ | refine' et_B ?_ | refine' et_not ?_ | refine' et_and ?_ (fun _ => ?_) | refine' et_or ?_ (fun _ => ?_)
  | refine' ee_andV ?_ (fun _ => ?_) | refine' ee_orV ?_ (fun _ => ?_) | refine' ee_notV ?_
  | refine' ee_isN ?_ | refine' ee_notN ?_ | refine' ee_eqD ?_ ?_ ?_ | refine' ee_neD ?_ ?_ ?_
  | refine' ee_ixT ?_ ?_ ?_ | refine' ee_lenT ?_ | refine' ee_isi ?_ ?_ | refine' ee_tup ?_ | refine' eo_some ?_ | refine' ee_slT ?_ ?_ ?_
  | exact ki_ii | exact ki_ib | exact ki_tt | exact ki_ss | (show atI _ _ = some _; first | rfl | assumption) | (show scalD _ _ = true; rfl))
local macro_rules | `(tactic| walk_at "ev") => `(tactic| repeat' walk_at "ev1")
local macro_rules | `(tactic| walk_at "ev1") => `(tactic| first | refine' el_take ?_ ?_ ?_ | refine' el_drop ?_ ?_ ?_ | refine' ee_revT ?_)
def natsD (l : List Nat) : List PyData := l.map fun (n : Nat) => PyData.int (n : Int)
abbrev F_strip_of (ds : List PyData) (r : PyData) : Prop := ∃ (sh : List (List Int)) (turn row : Int), ds = [rowsD sh, .int turn, .int row] ∧ r = inksD (stripOf sh turn row)
abbrev F_lying_on (ds rs : List PyData) : Prop := ∃ (s : Stand) (row : Int), s.Ok ∧ ds = [s.d, .int row] ∧ rs = natsD (lying s row)
abbrev F_kept_on (ds rs : List PyData) : Prop := ∃ (f : Frame) (s : Stand) (row : Int), f.Ok ∧ s.Ok ∧ ds = [f.d, s.d, .int row] ∧ rs = natsD (kept f s row)
abbrev F_lost_on (ds rs : List PyData) : Prop := ∃ (f : Frame) (s : Stand) (row : Int), f.Ok ∧ s.Ok ∧ ds = [f.d, s.d, .int row] ∧ rs = natsD ((lying s row).drop f.most.toNat)
abbrev F_floor_strip (ds : List PyData) (r : PyData) : Prop := ∃ (f : Frame) (s : Stand) (row : Int), f.Ok ∧ s.Ok ∧ ds = [f.d, s.d, .int row] ∧ r = inksD (floorStrip f s row)
abbrev F_taken (ds : List PyData) (r : PyData) : Prop := ∃ (f : Frame) (s : Stand) (row : Int), f.Ok ∧ s.Ok ∧ ds = [f.d, s.d, .int row] ∧ r = (taken f s row).d
abbrev F_covering (ds rs : List PyData) : Prop := ∃ (t : Taken) (x : Int), t.strips.length ≤ 1000 ∧ ds = [t.d, .int x] ∧ rs = (covering t x).map (covD x)
abbrev F_ink_at (ds : List PyData) (r : PyData) : Prop := ∃ (t : Taken) (x : Int), 0 ≤ x ∧ x < t.inks.length ∧ t.strips.length ≤ 1000 ∧ ds = [t.d, .int x] ∧ r = .int (inkAt t x)
section
variable {W : Wd} {ta : TA} {ρ : List Sl} {E : XK}
theorem e_strip_of {sh : List (List Int)} {turn row : Int} (h : EA W ta ρ [rowsD sh, .int turn, .int row]) : Ee W (tCall (spF 3 F_strip_of) [] E ta) ρ (inksD (stripOf sh turn row)) := ee_call h ⟨_, _, _, rfl, rfl⟩ rfl
theorem e_lying_on {s : Stand} {row : Int} (ok : s.Ok) (h : EA W ta ρ [s.d, .int row]) : El W (tCall (spL 2 F_lying_on) [] E ta) ρ (fun x => x = natsD (lying s row)) := el_call h ⟨_, _, ok, rfl, rfl⟩ rfl
theorem e_kept_on {f : Frame} {s : Stand} {row : Int} (ok : f.Ok) (ok2 : s.Ok) (h : EA W ta ρ [f.d, s.d, .int row]) : El W (tCall (spL 3 F_kept_on) [] E ta) ρ (fun x => x = natsD (kept f s row)) := el_call h ⟨_, _, _, ok, ok2, rfl, rfl⟩ rfl
theorem e_lost_on {f : Frame} {s : Stand} {row : Int} (ok : f.Ok) (ok2 : s.Ok) (h : EA W ta ρ [f.d, s.d, .int row]) : El W (tCall (spL 3 F_lost_on) [] E ta) ρ (fun x => x = natsD ((lying s row).drop f.most.toNat)) := el_call h ⟨_, _, _, ok, ok2, rfl, rfl⟩ rfl
theorem e_floor_strip {f : Frame} {s : Stand} {row : Int} (ok : f.Ok) (ok2 : s.Ok) (h : EA W ta ρ [f.d, s.d, .int row]) : Ee W (tCall (spF 3 F_floor_strip) [] E ta) ρ (inksD (floorStrip f s row)) := ee_call h ⟨_, _, _, ok, ok2, rfl, rfl⟩ rfl
theorem e_taken {f : Frame} {s : Stand} {row : Int} (ok : f.Ok) (ok2 : s.Ok) (h : EA W ta ρ [f.d, s.d, .int row]) : Ee W (tCall (spF 3 F_taken) [] E ta) ρ (taken f s row).d := ee_call h ⟨_, _, _, ok, ok2, rfl, rfl⟩ rfl
theorem e_covering {t : Taken} {x : Int} (h2 : t.strips.length ≤ 1000) (h : EA W ta ρ [t.d, .int x]) : El W (tCall (spL 2 F_covering) [] E ta) ρ (fun y => y = (covering t x).map (covD x)) := el_call h ⟨_, _, h2, rfl, rfl⟩ rfl
theorem e_ink_at {t : Taken} {x : Int} (h0 : 0 ≤ x) (h1 : x < t.inks.length) (h2 : t.strips.length ≤ 1000) (h : EA W ta ρ [t.d, .int x]) : Ee W (tCall (spF 2 F_ink_at) [] E ta) ρ (.int (inkAt t x)) := ee_call h ⟨_, _, h0, h1, h2, rfl, rfl⟩ rfl
end
theorem nth_map {α : Type} {l : List α} {g : α → PyData} {i : Nat} {x : α} (h : l[i]? = some x) : nth (l.map g) i = g x := nth_at (by rw [List.getElem?_map, h]; rfl)
theorem gM_at {m : List Mover} {i : Nat} (h : i < m.length) : m[i]? = some (gM m i) := by
  unfold gM
  rw [List.getD_eq_getElem?_getD, List.getElem?_eq_getElem h]
  rfl
theorem filt_succ (p : Nat → Bool) (i : Nat) : (List.range (i + 1)).filter p = (List.range i).filter p ++ (if p i = true then [i] else []) := by
  rw [List.range_succ, List.filter_append, List.filter_cons]
  rfl
theorem take_succ' {α : Type} {l : List α} {i : Nat} {x : α} (h : l[i]? = some x) : l.take (i + 1) = l.take i ++ [x] := by
  rw [List.take_add_one, h]
  rfl
theorem lies_shape {b : List (List (List Int))} {m : Mover} {row : Int} (h : lies b m row = true) : ∃ n, m.shape = some n := by
  unfold lies at h
  cases e : m.shape with
  | none =>
    rw [e] at h
    cases h
  | some n => exact ⟨n, rfl⟩
theorem kept_lies {f : Frame} {s : Stand} {row : Int} {k : Nat} (h : k ∈ kept f s row) : k < s.movers.length ∧ lies s.book (gM s.movers k) row = true := by
  have h1 := List.mem_of_mem_take h
  unfold lying at h1
  rw [List.mem_filter, List.mem_range] at h1
  exact h1
theorem lying_len (s : Stand) (row : Int) : (lying s row).length ≤ s.movers.length := by
  have h := List.length_filter_le (fun i => lies s.book (gM s.movers i) row) (List.range s.movers.length)
  rw [List.length_range] at h
  exact h
theorem kept_len (f : Frame) (s : Stand) (row : Int) : (kept f s row).length ≤ s.movers.length := by
  have h := lying_len s row
  unfold kept
  rw [List.length_take]
  omega
theorem filt_take {α : Type} (p : α → Bool) {l : List α} {i : Nat} {x : α} (h : l[i]? = some x) : (l.take (i + 1)).filter p = (l.take i).filter p ++ (if p x = true then [x] else []) := by
  rw [take_succ' h, List.filter_append, List.filter_cons]
  rfl
def bestD : Option (Int × Int) → PyData
  | none => .none
  | some b => .tuple [.int b.1, .int b.2]
theorem bestOf_succ {x : Int} {l : List Strip} {i : Nat} {t : Strip} (h : l[i]? = some t) : bestOf x (l.take (i + 1)) = bestStep x (bestOf x (l.take i)) t := by
  unfold bestOf
  rw [take_succ' h, List.foldl_append]
  rfl
theorem getE {α : Type} {l : List α} {i : Nat} (h : i < l.length) : l[i]? = some l[i] := List.getElem?_eq_getElem h
section
variable {P : Program} {w : World} {K : PySem.W.Frag} {mg : Str → Option Value} {base : Heap} {C D : Addr}
theorem sc_strip_of : FnScope ["shape", "turn", "row"] ["shape", "turn", "row"] (defScope s_strip_of) := ⟨rfl, rfl, rfl, by decide +kernel, rfl, by decide +kernel, by decide +kernel⟩
theorem c_strip_of (T : Txt K mg w C D) : Cal P w K mg base 1 "strip_of" (spF 3 F_strip_of) := by
  have nd := sc_strip_of.nd
  refine mkF T.f_strip_of (fun _ _ _ _ _ _ us hl => match us, hl with | [_, _, _], _ => rfl) sc_strip_of rfl (fun f cdv A outer s H E hr => ⟨_, (pss_cons (ps_if (PW.pt (pw_or (pt_cmpR op_lt (pv 2) pe_int (nomark _)) (pw_or1 (pt_cmpR op_ge (pv 2) (pe_callB (call_lenK (K := K) rfl) (by rfl) T.b_len (by decide +kernel) (pa_cons (pv 0) pa_nil)) (nomark _))))) (pss_one (ps_ret (pe_tup pa_nil))) pss_nil) (pss_cons (ps_if (pt_cmpR op_ge (pv 1) pe_int (nomark _)) (pss_one (ps_set (i := 2) nd rfl (by first | exact Or.inl rfl | exact Or.inr rfl) (pe_op op_sub (pe_op op_sub (pe_callB (call_lenK (K := K) rfl) (by rfl) T.b_len (by decide +kernel) (pa_cons (pv 0) pa_nil)) pe_int) (pv 2)))) pss_nil) (pss_cons (ps_if (pt_cmpR op_eq (pe_op op_mod (pv 1) pe_int) pe_int (nomark _)) (pss_one (ps_ret (pe_revT (K := K) rfl (pe_ix (ix_tupK (K := K) rfl) (pv 0) (pv 2) (fun _ _ => rfl))))) pss_nil) (pss_one (ps_ret (pe_ix (ix_tupK (K := K) rfl) (pv 0) (pv 2) (fun _ _ => rfl))))))), fun ds r hn hF => ?_⟩)
  obtain ⟨sh, turn, row, rfl, rfl⟩ := hF
  unfold stripOf
  refine bs_ifC (Et.is (b := decide (row < 0 ∨ (sh.length : Int) ≤ row)) (by walk_at "ev") (by simp)) (fun e => ?_) (fun e => bs_skip ?_)
  · rw [if_pos (of_decide_eq_true e)]
    exact bs_retS (bs_ret (by walk_at "ev"))
  · have e := of_decide_eq_false e
    rw [if_neg e]
    refine bs_ifC (by walk_at "ev") (fun e1 => ?_) (fun e1 => bs_skip ?_)
    · have e1 := of_decide_eq_true e1
      refine bs_asgE (by walk_at "ev") ?_
      simp only [List.length_map]
      have hx : atI (sh.map inksD) ((sh.length : Int) - 1 - row) = some (inksD (gR sh ((sh.length : Int) - 1 - row))) := atI_row (by omega) (by omega)
      rw [if_pos e1]
      refine bs_ifC (Et.is (b := decide (turn % 2 = 1)) (et_test (ee_eqD (ee_IC (ee_var rfl) ee_int (by decide)) ee_int rfl)) rfl) (fun e2 => ?_) (fun e2 => bs_skip ?_)
      · rw [if_pos (of_decide_eq_true e2)]
        refine bs_retS (bs_ret (Ed.is (by walk_at "ev") ?_))
        simp [inksD]
      · rw [if_neg (of_decide_eq_false e2)]
        exact bs_ret (by walk_at "ev")
    · have e1 := of_decide_eq_false e1
      have hx : atI (sh.map inksD) row = some (inksD (gR sh row)) := atI_row (by omega) (by omega)
      rw [if_neg e1]
      refine bs_ifC (Et.is (b := decide (turn % 2 = 1)) (et_test (ee_eqD (ee_IC (ee_var rfl) ee_int (by decide)) ee_int rfl)) rfl) (fun e2 => ?_) (fun e2 => bs_skip ?_)
      · rw [if_pos (of_decide_eq_true e2)]
        refine bs_retS (bs_ret (Ed.is (by walk_at "ev") ?_))
        simp [inksD]
      · rw [if_neg (of_decide_eq_false e2)]
        exact bs_ret (by walk_at "ev")
theorem sc_lying_on : FnScope ["stand", "row", "found", "number", "mover"] ["stand", "row"] (defScope s_lying_on) := ⟨rfl, rfl, rfl, by decide +kernel, rfl, by decide +kernel, by decide +kernel⟩
theorem c_lying_on (T : Txt K mg w C D) : Cal P w K mg base 1 "lying_on" (spL 2 F_lying_on) := by
  have nd := sc_lying_on.nd
  refine mkL T.f_lying_on (fun _ _ _ _ _ _ us hl => match us, hl with | [_, _], _ => rfl) sc_lying_on rfl (fun f cdv A outer s H E hr => ⟨_, (pss_cons (ps_set (i := 2) nd rfl (by first | exact Or.inl rfl | exact Or.inr rfl) (pe_lst pa_nil)) (pss_cons (ps_for PassesOwn.never rfl (pi_enumT (K := K) rfl (by rfl) T.b_enumerate (pa_cons (pe_ix (ix_tupK (K := K) rfl) (pv 0) pe_int (fun _ _ => rfl)) pa_nil)) (pg_tupK (K := K) rfl (by rfl) (pgs_cons (pg_name (i := 3) nd rfl (by first | exact Or.inl rfl | exact Or.inr rfl)) (pgs_cons (pg_name (i := 4) nd rfl (by first | exact Or.inl rfl | exact Or.inr rfl)) pgs_nil))) (pss_one (ps_if (PW.pt (pw_and (pt_cmpR op_notN (pe_ix (ix_tupK (K := K) rfl) (pv 4) pe_int (fun _ _ => rfl)) pe_non (nomark _)) (pw_and (pt_cmpR op_le pe_int (pe_op op_sub (pv 1) (pe_ix (ix_tupK (K := K) rfl) (pv 4) pe_int (fun _ _ => rfl))) (nomark _)) (pw_and1 (pt_cmpR op_lt (pe_op op_sub (pv 1) (pe_ix (ix_tupK (K := K) rfl) (pv 4) pe_int (fun _ _ => rfl))) (pe_callB (call_lenK (K := K) rfl) (by rfl) T.b_len (by decide +kernel) (pa_cons (pe_ix (ix_tupK (K := K) rfl) (pe_ix (ix_tupK (K := K) rfl) (pv 0) pe_int (fun _ _ => rfl)) (pe_ix (ix_tupK (K := K) rfl) (pv 4) pe_int (fun _ _ => rfl)) (fun _ _ => rfl)) pa_nil)) (nomark _)))))) (pss_one (ps_expr (pe_bm PySem.F.plainAttrs_list PySem.F.slot_list_append PySem.F.type_list_append mt_append (pv 2) (pa_cons (pv 3) pa_nil)))) pss_nil))) (pss_one (ps_ret (pv 2))))), fun ds r hn hF => ?_⟩)
  obtain ⟨s', row, ok, rfl, rfl⟩ := hF
  refine bs_asgL el_nil fun ds e => ?_
  subst e
  refine bs_for (srcF_E (by walk_at "ev")) (fun i => [.d s'.d, .d (.int row), .l (natsD ((List.range i).filter fun i => lies s'.book (gM s'.movers i) row)), .no, .no])
    (.cons (.inr rfl) (.cons (.inr rfl) (.cons (.inr rfl) (.cons (.inl rfl) (.cons (.inl rfl) .nil))))) (fun i hi => ⟨_, _, gd_tup (gds_cons gd_name (gds_cons gd_name gds_nil)) rfl, ?_⟩) (bs_retV rfl (by simp [lying]))
  have hm : i < s'.movers.length := by simpa using hi
  rw [nth_map (gM_at hm)]
  have mok := ok.mv _ (gM_mem hm)
  have el : natsD ((List.range (i + 1)).filter fun i => lies s'.book (gM s'.movers i) row) = natsD ((List.range i).filter fun i => lies s'.book (gM s'.movers i) row) ++ (if lies s'.book (gM s'.movers i) row = true then [.int (i : Int)] else []) := by
    rw [filt_succ]
    unfold natsD
    rw [List.map_append]
    split <;> rfl
  have hlen : (natsD ((List.range i).filter fun i => lies s'.book (gM s'.movers i) row)).length < 100000 := by
    have h1 := List.length_filter_le (fun i => lies s'.book (gM s'.movers i) row) (List.range i)
    rw [List.length_range] at h1
    have h2 := ok.m1
    unfold natsD
    rw [List.length_map]
    omega
  refine bs_ifZ (b := lies s'.book (gM s'.movers i) row) ?_ (fun e => ?_) (fun e => bs_next ?_)
  · generalize gM s'.movers i = m at mok ⊢
    obtain ⟨shp, x, y, rank, turn⟩ := m
    cases shp with
    | none => exact Et.is (et_and (b := false) (by walk_at "ev") fun z => absurd z (by simp [isNoneD, shapeD])) (by rfl)
    | some n =>
      have hb : atI (s'.book.map rowsD) (n : Int) = some (rowsD (gB s'.book n)) := atI_book (mok.s n rfl)
      refine Et.is (by walk_at "ev") ?_
      simp [lies, isNoneD, shapeD]
  · rw [if_pos e] at el
    refine bs_app rfl (fun j es z => ?_) hlen (by walk_at "ev") (.cons (.inr rfl) (.cons (.inr rfl) (.cons (.inr (congrArg Sl.l el)) (.cons (.inl rfl) (.cons (.inl rfl) .nil)))))
    rcases j with _ | _ | _ | _ | _ | j <;> first | rfl | cases z
  · rw [if_neg (by rw [e]; decide), List.append_nil] at el
    exact .cons (.inr rfl) (.cons (.inr rfl) (.cons (.inr (congrArg Sl.l el)) (.cons (.inl rfl) (.cons (.inl rfl) .nil))))
theorem sc_kept_on : FnScope ["frame", "stand", "row"] ["frame", "stand", "row"] (defScope s_kept_on) := ⟨rfl, rfl, rfl, by decide +kernel, rfl, by decide +kernel, by decide +kernel⟩
theorem c_kept_on (T : Txt K mg w C D) : Cal P w K mg base 2 "kept_on" (spL 3 F_kept_on) := by
  have nd := sc_kept_on.nd
  have c_lying_on := c_lying_on (P := P) (w := w) (base := base) T
  refine mkL T.f_kept_on (fun _ _ _ _ _ _ us hl => match us, hl with | [_, _, _], _ => rfl) sc_kept_on rfl (fun f cdv A outer s H E hr => ⟨_, (pss_one (ps_ret (pe_slice (sl_listK (K := K) rfl) (pe_c c_lying_on hr (by decide) (by rfl) (pa_cons (pv 1) (pa_cons (pv 2) pa_nil))) po_none (po_some (pe_ix (ix_tupK (K := K) rfl) (pv 0) pe_int (fun _ _ => rfl)))))), fun ds r hn hF => ?_⟩)
  obtain ⟨f', s', row, ok, ok2, rfl, rfl⟩ := hF
  refine bs_retL (el_slL (e_lying_on ok2 (by walk_at "ev")).q eo_none (eo_some (by walk_at "ev")) fun es e => ?_)
  rw [e, cut_take _ ok.m1]
  unfold kept natsD
  rw [List.map_take]
theorem sc_lost_on : FnScope ["frame", "stand", "row"] ["frame", "stand", "row"] (defScope s_lost_on) := ⟨rfl, rfl, rfl, by decide +kernel, rfl, by decide +kernel, by decide +kernel⟩
theorem c_lost_on (T : Txt K mg w C D) : Cal P w K mg base 2 "lost_on" (spL 3 F_lost_on) := by
  have nd := sc_lost_on.nd
  have c_lying_on := c_lying_on (P := P) (w := w) (base := base) T
  refine mkL T.f_lost_on (fun _ _ _ _ _ _ us hl => match us, hl with | [_, _, _], _ => rfl) sc_lost_on rfl (fun f cdv A outer s H E hr => ⟨_, (pss_one (ps_ret (pe_slice (sl_listK (K := K) rfl) (pe_c c_lying_on hr (by decide) (by rfl) (pa_cons (pv 1) (pa_cons (pv 2) pa_nil))) (po_some (pe_ix (ix_tupK (K := K) rfl) (pv 0) pe_int (fun _ _ => rfl))) po_none))), fun ds r hn hF => ?_⟩)
  obtain ⟨f', s', row, ok, ok2, rfl, rfl⟩ := hF
  refine bs_retL (el_slL (e_lying_on ok2 (by walk_at "ev")).q (eo_some (by walk_at "ev")) eo_none fun es e => ?_)
  rw [e, cut_drop _ ok.m1]
  unfold natsD
  rw [List.map_drop]
theorem sc_floor_strip : FnScope ["frame", "stand", "row", "floor", "shift", "inks", "x"] ["frame", "stand", "row"] (defScope s_floor_strip) := ⟨rfl, rfl, rfl, by decide +kernel, rfl, by decide +kernel, by decide +kernel⟩
theorem c_floor_strip (T : Txt K mg w C D) : Cal P w K mg base 1 "floor_strip" (spF 3 F_floor_strip) := by
  have nd := sc_floor_strip.nd
  refine mkF T.f_floor_strip (fun _ _ _ _ _ _ us hl => match us, hl with | [_, _, _], _ => rfl) sc_floor_strip rfl (fun f cdv A outer s H E hr => ⟨_, (pss_cons (ps_asg (pe_slice (sl_tupK (K := K) rfl) (pv 1) po_none (po_some pe_int)) (pg_tupK (K := K) rfl (by rfl) (pgs_cons (pg_name (i := 3) nd rfl (by first | exact Or.inl rfl | exact Or.inr rfl)) (pgs_cons (pg_name (i := 4) nd rfl (by first | exact Or.inl rfl | exact Or.inr rfl)) pgs_nil)))) (pss_cons (ps_set (i := 5) nd rfl (by first | exact Or.inl rfl | exact Or.inr rfl) (pe_ix (ix_tupK (K := K) rfl) (pv 3) (pe_op op_mod (pe_op op_add (pv 2) (pe_ix (ix_tupK (K := K) rfl) (pv 4) pe_int (fun _ _ => rfl))) (pe_callB (call_lenK (K := K) rfl) (by rfl) T.b_len (by decide +kernel) (pa_cons (pv 3) pa_nil))) (fun _ _ => rfl))) (pss_one (ps_ret (pe_tupleK (K := K) rfl (by rfl) T.b_tuple (pe_lc (own := [("x", 6)]) (by rfl) nd (pi_range1 (by rfl) T.b_range (pa_cons (pe_ix (ix_tupK (K := K) rfl) (pv 0) pe_int (fun _ _ => rfl)) pa_nil)) (blkOk_by (N := ["frame", "stand", "row", "floor", "shift", "inks", "x"]) (sc := defScope s_floor_strip) (by decide +kernel)) (fun _ _ _ _ _ => (pg_name (i := 6) nd rfl (by first | exact Or.inl rfl | exact Or.inr rfl))) (fun _ _ _ _ _ => pts_nil) (fun _ _ _ _ _ => (pe_ix (ix_tupK (K := K) rfl) (pv 5) (pe_op op_mod (pe_op op_add (pv 6) (pe_ix (ix_tupK (K := K) rfl) (pv 4) pe_int (fun _ _ => rfl))) (pe_callB (call_lenK (K := K) rfl) (by rfl) T.b_len (by decide +kernel) (pa_cons (pv 5) pa_nil))) (fun _ _ => rfl))))))))), fun ds r hn hF => ?_⟩)
  obtain ⟨f', s', row, ok, ok2, rfl, rfl⟩ := hF
  obtain ⟨n, n1, n2, hn'⟩ := ok2.fl.wd
  have hf1 := ok2.fl.h1
  have hp : 0 < (s'.floor.length : Int) := by omega
  have ha := Int.emod_nonneg (row + s'.sy) (show (s'.floor.length : Int) ≠ 0 by omega)
  have hb := Int.emod_lt_of_pos (row + s'.sy) hp
  have hrow := (hn' _ (gR_mem ha hb)).1
  refine bs_asgG (Ed.is (e := .tuple [rowsD s'.floor, .tuple [.int s'.sx, .int s'.sy]]) (by walk_at "ev") (by rfl)) (gd_tup (gds_cons gd_name (gds_cons gd_name gds_nil)) rfl) ?_
  refine bs_asgE (d := inksD (gR s'.floor ((row + s'.sy) % (s'.floor.length : Int)))) (ee_ixT (ee_var rfl) (ee_IC (by walk_at "ev") (by walk_at "ev") (by rw [List.length_map]; exact hp)) (by rw [List.length_map]; exact atI_row ha hb)) ?_
  have hfs : floorStrip f' s' row = (List.range f'.wide.toNat).map fun (x : Nat) => gI (gR s'.floor ((row + s'.sy) % (s'.floor.length : Int))) (((x : Int) + s'.sx) % ((gR s'.floor ((row + s'.sy) % (s'.floor.length : Int))).length : Int)) := rfl
  generalize gR s'.floor ((row + s'.sy) % (s'.floor.length : Int)) = inks at hrow hfs ⊢
  refine bs_ret (Ed.is (ee_tupleL (El.q (el_lcE (js := [6]) (src_R (by walk_at "ev") (by have := ok.w2; omega) (by have := ok.w1; omega)) (by have := ok.w2; omega) (fun x => .int (gI inks (((x : Int) + s'.sx) % (inks.length : Int)))) (by simp) fun i hi => ⟨_, gd_name, ?_⟩))) ?_)
  · have hq : 0 < (inks.length : Int) := by omega
    refine ee_ixT (ee_var rfl) (ee_IC (by walk_at "ev") (by walk_at "ev") (by rw [List.length_map]; exact hq)) ?_
    rw [List.length_map]
    exact atI_int (Int.emod_nonneg _ (by omega)) (Int.emod_lt_of_pos _ hq)
  · rw [hfs]
    unfold inksD
    rw [List.map_map]
    rfl
theorem sc_taken : FnScope ["frame", "stand", "row", "strips", "number", "shape", "x", "y", "rank", "turn"] ["frame", "stand", "row"] (defScope s_taken) := ⟨rfl, rfl, rfl, by decide +kernel, rfl, by decide +kernel, by decide +kernel⟩
theorem c_taken (T : Txt K mg w C D) : Cal P w K mg base 3 "taken" (spF 3 F_taken) := by
  have nd := sc_taken.nd
  have c_floor_strip := c_floor_strip (P := P) (w := w) (base := base) T
  have c_kept_on := c_kept_on (P := P) (w := w) (base := base) T
  have c_strip_of := c_strip_of (P := P) (w := w) (base := base) T
  refine mkF T.f_taken (fun _ _ _ _ _ _ us hl => match us, hl with | [_, _, _], _ => rfl) sc_taken rfl (fun f cdv A outer s H E hr => ⟨_, (pss_cons (ps_set (i := 3) nd rfl (by first | exact Or.inl rfl | exact Or.inr rfl) (pe_lst pa_nil)) (pss_cons (ps_for PassesOwn.never rfl (pi_listK (K := K) rfl (pe_c c_kept_on hr (by decide) (by rfl) (pa_cons (pv 0) (pa_cons (pv 1) (pa_cons (pv 2) pa_nil))))) (pg_name (i := 4) nd rfl (by first | exact Or.inl rfl | exact Or.inr rfl)) (pss_cons (ps_asg (pe_ix (ix_tupK (K := K) rfl) (pe_ix (ix_tupK (K := K) rfl) (pv 1) pe_int (fun _ _ => rfl)) (pv 4) (fun _ _ => rfl)) (pg_tupK (K := K) rfl (by rfl) (pgs_cons (pg_name (i := 5) nd rfl (by first | exact Or.inl rfl | exact Or.inr rfl)) (pgs_cons (pg_name (i := 6) nd rfl (by first | exact Or.inl rfl | exact Or.inr rfl)) (pgs_cons (pg_name (i := 7) nd rfl (by first | exact Or.inl rfl | exact Or.inr rfl)) (pgs_cons (pg_name (i := 8) nd rfl (by first | exact Or.inl rfl | exact Or.inr rfl)) (pgs_cons (pg_name (i := 9) nd rfl (by first | exact Or.inl rfl | exact Or.inr rfl)) pgs_nil))))))) (pss_one (ps_expr (pe_bm PySem.F.plainAttrs_list PySem.F.slot_list_append PySem.F.type_list_append mt_append (pv 3) (pa_cons (pe_tup (pa_cons (pv 4) (pa_cons (pv 6) (pa_cons (pv 8) (pa_cons (pe_c c_strip_of hr (by decide) (by rfl) (pa_cons (pe_ix (ix_tupK (K := K) rfl) (pe_ix (ix_tupK (K := K) rfl) (pv 1) pe_int (fun _ _ => rfl)) (pv 5) (fun _ _ => rfl)) (pa_cons (pv 9) (pa_cons (pe_op op_sub (pv 2) (pv 7)) pa_nil)))) pa_nil))))) pa_nil)))))) (pss_one (ps_ret (pe_tup (pa_cons (pe_c c_floor_strip hr (by decide) (by rfl) (pa_cons (pv 0) (pa_cons (pv 1) (pa_cons (pv 2) pa_nil)))) (pa_cons (pe_tupleK (K := K) rfl (by rfl) T.b_tuple (pv 3)) pa_nil))))))), fun ds r hn hF => ?_⟩)
  obtain ⟨f', s', row, ok, ok2, rfl, rfl⟩ := hF
  have hm1 := ok2.m1
  have hkl := kept_len f' s' row
  refine bs_asgL el_nil fun ds e => ?_
  subst e
  refine bs_for (srcF_L (e_kept_on ok ok2 (by walk_at "ev"))) (fun i => [.d f'.d, .d s'.d, .d (.int row), .l (((kept f' s' row).take i).map fun k => (stripAt s' row k).d), .no, .no, .no, .no, .no, .no])
    (.cons (.inr rfl) (.cons (.inr rfl) (.cons (.inr rfl) (.cons (.inr rfl) (.cons (.inl rfl) (.cons (.inl rfl) (.cons (.inl rfl) (.cons (.inl rfl) (.cons (.inl rfl) (.cons (.inl rfl) .nil)))))))))) (fun i hi => ⟨_, _, gd_name, ?_⟩) (bs_ret ?_)
  · have hi' : i < (kept f' s' row).length := by unfold natsD at hi; rw [List.length_map] at hi; exact hi
    unfold natsD
    rw [nth_map (getE hi')]
    have hk := kept_lies (List.getElem_mem hi')
    have el := take_succ' (getE hi')
    generalize (kept f' s' row)[i] = k at hk el
    obtain ⟨hk1, hk2⟩ := hk
    obtain ⟨n, hn⟩ := lies_shape hk2
    have mok := ok2.mv _ (gM_mem hk1)
    have hx : atI (s'.movers.map Mover.d) (k : Int) = some (gM s'.movers k).d := atI_mover hk1
    have hb : atI (s'.book.map rowsD) (n : Int) = some (rowsD (gB s'.book n)) := atI_book (mok.s n hn)
    have hsh : shapeD (gM s'.movers k).shape = .int n := by rw [hn]; rfl
    refine bs_asgG (d := (gM s'.movers k).d) (by walk_at "ev") (gd_tup (gds_cons gd_name (gds_cons gd_name (gds_cons gd_name (gds_cons gd_name (gds_cons gd_name gds_nil))))) rfl) ?_
    rw [hsh]
    refine bs_app rfl (fun j es z => ?_) ?_ (d := (stripAt s' row k).d) (Ed.is (ee_tup (ea_cons (by walk_at "ev") (ea_cons (by walk_at "ev") (ea_cons (by walk_at "ev") (ea_cons (e_strip_of (by walk_at "ev")) ea_nil))))) ?_)
      (.cons (.inr rfl) (.cons (.inr rfl) (.cons (.inr rfl) (.cons (.inr (congrArg Sl.l ?_)) (.cons (.inl rfl) (.cons (.inl rfl) (.cons (.inl rfl) (.cons (.inl rfl) (.cons (.inl rfl) (.cons (.inl rfl) .nil))))))))))
    · rcases j with _ | _ | _ | _ | _ | _ | _ | _ | _ | _ | j <;> first | rfl | cases z
    · rw [List.length_map, List.length_take]
      omega
    · have e2 : (gM s'.movers k).shape.getD 0 = n := by rw [hn]; rfl
      show _ = PyData.tuple [.int k, .int (gM s'.movers k).x, .int (gM s'.movers k).rank, inksD (stripOf (gB s'.book ((gM s'.movers k).shape.getD 0)) (gM s'.movers k).turn (row - (gM s'.movers k).y))]
      rw [e2]
    · rw [el, List.map_append]
      rfl
  · refine Ed.is (ee_tup (ea_cons (e_floor_strip ok ok2 (by walk_at "ev")) (ea_cons (ee_tupleL (eq_var rfl rfl)) ea_nil))) ?_
    unfold taken Taken.d natsD
    rw [List.length_map, List.take_length, List.map_map]
    rfl
theorem sc_covering : FnScope ["row_taken", "x", "found", "number", "left", "rank", "inks"] ["row_taken", "x"] (defScope s_covering) := ⟨rfl, rfl, rfl, by decide +kernel, rfl, by decide +kernel, by decide +kernel⟩
theorem c_covering (T : Txt K mg w C D) : Cal P w K mg base 1 "covering" (spL 2 F_covering) := by
  have nd := sc_covering.nd
  refine mkL T.f_covering (fun _ _ _ _ _ _ us hl => match us, hl with | [_, _], _ => rfl) sc_covering rfl (fun f cdv A outer s H E hr => ⟨_, (pss_cons (ps_set (i := 2) nd rfl (by first | exact Or.inl rfl | exact Or.inr rfl) (pe_lst pa_nil)) (pss_cons (ps_for PassesOwn.never rfl (pi_tupK (K := K) rfl (pe_ix (ix_tupK (K := K) rfl) (pv 0) pe_int (fun _ _ => rfl))) (pg_tupK (K := K) rfl (by rfl) (pgs_cons (pg_name (i := 3) nd rfl (by first | exact Or.inl rfl | exact Or.inr rfl)) (pgs_cons (pg_name (i := 4) nd rfl (by first | exact Or.inl rfl | exact Or.inr rfl)) (pgs_cons (pg_name (i := 5) nd rfl (by first | exact Or.inl rfl | exact Or.inr rfl)) (pgs_cons (pg_name (i := 6) nd rfl (by first | exact Or.inl rfl | exact Or.inr rfl)) pgs_nil))))) (pss_one (ps_if (PW.pt (pw_and (pt_cmpR op_le pe_int (pe_op op_sub (pv 1) (pv 4)) (nomark _)) (pw_and (pt_cmpR op_lt (pe_op op_sub (pv 1) (pv 4)) (pe_callB (call_lenK (K := K) rfl) (by rfl) T.b_len (by decide +kernel) (pa_cons (pv 6) pa_nil)) (nomark _)) (pw_and1 (pt_cmpR op_ne (pe_ix (ix_tupK (K := K) rfl) (pv 6) (pe_op op_sub (pv 1) (pv 4)) (fun _ _ => rfl)) pe_int (nomark _)))))) (pss_one (ps_expr (pe_bm PySem.F.plainAttrs_list PySem.F.slot_list_append PySem.F.type_list_append mt_append (pv 2) (pa_cons (pe_tup (pa_cons (pv 3) (pa_cons (pv 5) (pa_cons (pe_ix (ix_tupK (K := K) rfl) (pv 6) (pe_op op_sub (pv 1) (pv 4)) (fun _ _ => rfl)) pa_nil)))) pa_nil)))) pss_nil))) (pss_one (ps_ret (pv 2))))), fun ds r hn hF => ?_⟩)
  obtain ⟨t', x, h2, rfl, rfl⟩ := hF
  refine bs_asgL el_nil fun ds e => ?_
  subst e
  refine bs_for (srcF_T (by walk_at "ev")) (fun i => [.d t'.d, .d (.int x), .l (((t'.strips.take i).filter fun s => covers s x).map (covD x)), .no, .no, .no, .no])
    (.cons (.inr rfl) (.cons (.inr rfl) (.cons (.inr rfl) (.cons (.inl rfl) (.cons (.inl rfl) (.cons (.inl rfl) (.cons (.inl rfl) .nil))))))) (fun i hi => ?_) (bs_retV rfl (by simp [covering]))
  have hm : i < t'.strips.length := by simpa using hi
  rw [nth_map (getE hm)]
  have el := filt_take (fun s => covers s x) (getE hm)
  have hlen := List.length_filter_le (fun s => covers s x) (t'.strips.take i)
  rw [List.length_take] at hlen
  generalize t'.strips[i] = s' at el ⊢
  refine ⟨_, _, gd_tup (gds_cons gd_name (gds_cons gd_name (gds_cons gd_name (gds_cons gd_name gds_nil)))) rfl, ?_⟩
  refine bs_ifZ (b := covers s' x) ?_ (fun e => ?_) (fun e => bs_next ?_)
  · by_cases c0 : 0 ≤ x - s'.left
    · by_cases c1 : x - s'.left < (s'.inks.length : Int)
      · have hx : atI (s'.inks.map PyData.int) (x - s'.left) = some (.int (gI s'.inks (x - s'.left))) := atI_int c0 c1
        refine Et.is (by walk_at "ev") ?_
        simp [covers, eqD]
      · refine Et.is (et_and (by walk_at "ev") fun _ => et_and (b := false) (by walk_at "ev") fun z => absurd (of_decide_eq_true z) (by rw [List.length_map]; exact c1)) ?_
        simp [covers]
        omega
    · refine Et.is (et_and (b := false) (by walk_at "ev") fun z => absurd (of_decide_eq_true z) c0) ?_
      simp [covers]
      omega
  · have hx : atI (s'.inks.map PyData.int) (x - s'.left) = some (.int (gI s'.inks (x - s'.left))) := by
      simp [covers] at e
      exact atI_int (by omega) (by omega)
    rw [if_pos e] at el
    refine bs_app rfl (fun j es z => ?_) ?_ (d := covD x s') (by walk_at "ev") (.cons (.inr rfl) (.cons (.inr rfl) (.cons (.inr (congrArg Sl.l ?_)) (.cons (.inl rfl) (.cons (.inl rfl) (.cons (.inl rfl) (.cons (.inl rfl) .nil)))))))
    · rcases j with _ | _ | _ | _ | _ | _ | _ | j <;> first | rfl | cases z
    · rw [List.length_map]
      omega
    · rw [el, List.map_append]
      rfl
  · rw [if_neg (by rw [e]; decide), List.append_nil] at el
    exact .cons (.inr rfl) (.cons (.inr rfl) (.cons (.inr (by rw [el])) (.cons (.inl rfl) (.cons (.inl rfl) (.cons (.inl rfl) (.cons (.inl rfl) .nil))))))
theorem sc_ink_at : FnScope ["row_taken", "x", "best", "number", "rank", "ink", "floor"] ["row_taken", "x"] (defScope s_ink_at) := ⟨rfl, rfl, rfl, by decide +kernel, rfl, by decide +kernel, by decide +kernel⟩
theorem c_ink_at (T : Txt K mg w C D) : Cal P w K mg base 2 "ink_at" (spF 2 F_ink_at) := by
  have nd := sc_ink_at.nd
  have c_covering := c_covering (P := P) (w := w) (base := base) T
  refine mkF T.f_ink_at (fun _ _ _ _ _ _ us hl => match us, hl with | [_, _], _ => rfl) sc_ink_at rfl (fun f cdv A outer s H E hr => ⟨_, (pss_cons (ps_set (i := 2) nd rfl (by first | exact Or.inl rfl | exact Or.inr rfl) pe_non) (pss_cons (ps_for PassesOwn.never rfl (pi_listK (K := K) rfl (pe_c c_covering hr (by decide) (by rfl) (pa_cons (pv 0) (pa_cons (pv 1) pa_nil)))) (pg_tupK (K := K) rfl (by rfl) (pgs_cons (pg_name (i := 3) nd rfl (by first | exact Or.inl rfl | exact Or.inr rfl)) (pgs_cons (pg_name (i := 4) nd rfl (by first | exact Or.inl rfl | exact Or.inr rfl)) (pgs_cons (pg_name (i := 5) nd rfl (by first | exact Or.inl rfl | exact Or.inr rfl)) pgs_nil)))) (pss_one (ps_if (PW.pt (pw_or (pt_cmpR op_isN (pv 2) pe_non (nomark _)) (pw_or1 (pt_cmpR op_gt (pv 4) (pe_ix (ix_tupK (K := K) rfl) (pv 2) pe_int (fun _ _ => rfl)) (nomark _))))) (pss_one (ps_set (i := 2) nd rfl (by first | exact Or.inl rfl | exact Or.inr rfl) (pe_tup (pa_cons (pv 4) (pa_cons (pv 5) pa_nil))))) pss_nil))) (pss_cons (ps_set (i := 6) nd rfl (by first | exact Or.inl rfl | exact Or.inr rfl) (pe_ix (ix_tupK (K := K) rfl) (pe_ix (ix_tupK (K := K) rfl) (pv 0) pe_int (fun _ _ => rfl)) (pv 1) (fun _ _ => rfl))) (pss_cons (ps_if (PW.pt (pw_or (pt_cmpR op_isN (pv 2) pe_non (nomark _)) (pw_or1 (PW.pt (pw_and (pt_cmpR op_eq (pe_ix (ix_tupK (K := K) rfl) (pv 2) pe_int (fun _ _ => rfl)) pe_int (nomark _)) (pw_and1 (pt_cmpR op_ne (pv 6) pe_int (nomark _)))))))) (pss_one (ps_ret (pv 6))) pss_nil) (pss_one (ps_ret (pe_ix (ix_tupK (K := K) rfl) (pv 2) pe_int (fun _ _ => rfl)))))))), fun ds r hn hF => ?_⟩)
  obtain ⟨t', x, h0, h1, h2, rfl, rfl⟩ := hF
  have hcl := List.length_filter_le (fun s => covers s x) t'.strips
  have hx : atI (t'.inks.map PyData.int) x = some (.int (gI t'.inks x)) := atI_int h0 (by omega)
  refine bs_asgE (by walk_at "ev") ?_
  refine bs_for (srcF_L (e_covering h2 (by walk_at "ev"))) (fun i => [.d t'.d, .d (.int x), .d (bestD (bestOf x ((covering t' x).take i))), .no, .no, .no, .no])
    (.cons (.inr rfl) (.cons (.inr rfl) (.cons (.inr rfl) (.cons (.inl rfl) (.cons (.inl rfl) (.cons (.inl rfl) (.cons (.inl rfl) .nil))))))) (fun i hi => ?_) ?_
  · have hm : i < (covering t' x).length := by simpa using hi
    rw [nth_map (getE hm)]
    have el := bestOf_succ (x := x) (getE hm)
    generalize (covering t' x)[i] = s' at el ⊢
    rw [el]
    generalize bestOf x ((covering t' x).take i) = b0
    refine ⟨_, _, gd_tup (gds_cons gd_name (gds_cons gd_name (gds_cons gd_name gds_nil))) rfl, ?_⟩
    rcases b0 with _ | c
    · refine bs_ifZ (b := true) (Et.is (et_or (b := false) (by walk_at "ev") fun z => by cases z) (by rfl)) (fun e => ?_) (fun e => by cases e)
      exact bs_asgZ (d := .tuple [.int s'.rank, .int (gI s'.inks (x - s'.left))]) (by walk_at "ev") (.cons (.inr rfl) (.cons (.inr rfl) (.cons (.inr rfl) (.cons (.inl rfl) (.cons (.inl rfl) (.cons (.inl rfl) (.cons (.inl rfl) .nil)))))))
    · refine bs_ifZ (b := decide (c.1 < s'.rank)) (Et.is (by walk_at "ev") ?_) (fun e => ?_) (fun e => bs_next ?_)
      · simp [isNoneD, bestD]
      · refine bs_asgZ (d := .tuple [.int s'.rank, .int (gI s'.inks (x - s'.left))]) (by walk_at "ev") (.cons (.inr rfl) (.cons (.inr rfl) (.cons (.inr (congrArg Sl.d ?_)) (.cons (.inl rfl) (.cons (.inl rfl) (.cons (.inl rfl) (.cons (.inl rfl) .nil)))))))
        show bestD (if c.1 < s'.rank then some (s'.rank, gI s'.inks (x - s'.left)) else some c) = _
        rw [if_pos (of_decide_eq_true e)]
        rfl
      · have e : bestStep x (some c) s' = some c := by
          show (if c.1 < s'.rank then _ else some c) = some c
          rw [if_neg (of_decide_eq_false e)]
        rw [e]
        exact .cons (.inr rfl) (.cons (.inr rfl) (.cons (.inr rfl) (.cons (.inl rfl) (.cons (.inl rfl) (.cons (.inl rfl) (.cons (.inl rfl) .nil))))))
  · unfold inkAt
    rw [List.length_map, List.take_length]
    generalize bestOf x (covering t' x) = b0
    refine bs_asgE (d := .int (gI t'.inks x)) (by walk_at "ev") ?_
    rcases b0 with _ | c
    · exact bs_ifT (Et.is (et_or (b := false) (by walk_at "ev") fun z => by cases z) (by rfl)) (bs_retS (bs_ret (by walk_at "ev")))
    · refine bs_ifC (b := decide (c.1 = 0) && !decide (gI t'.inks x = 0)) (Et.is (by walk_at "ev") ?_) (fun e => ?_) (fun e => bs_skip ?_)
      · simp [isNoneD, bestD, eqD]
      · simp at e
        refine bs_retS (bs_ret (Ed.is (by walk_at "ev") ?_))
        show _ = PyData.int (if _ then _ else _)
        rw [if_pos e]
      · simp at e
        refine bs_ret (Ed.is (by walk_at "ev") ?_)
        show _ = PyData.int (if _ then _ else _)
        rw [if_neg (by intro z; exact z.2 (e z.1))]
end
end Gw
set_option Elab.async false
set_option linter.all false
set_option maxRecDepth 100000
set_option maxHeartbeats 4000000
namespace Gw
open PySem PySem.Spec PyProof.Rows L2
/- one step of the evaluation; walk_at "ev": to its end -/
local macro_rules | `(tactic| walk_at "ev1") => `(tactic| first
  | exact ee_int | exact ee_bl | exact ee_str | exact ee_non | exact ee_var rfl | exact eo_none | exact ea_nil
  | refine' ea_cons ?_ ?_ | refine' ee_II ?_ ?_ | refine' ee_IB ?_ ?_ | refine' ee_UI ?_ | refine' ee_IC ?_ ?_ ?_
  | refine' et_test ?_ | refine' et_B ?_ | refine' et_not ?_ | refine' et_and ?_ (fun _ => ?_) | refine' et_or ?_ (fun _ => ?_)
  | refine' ee_andV ?_ (fun _ => ?_) | refine' ee_orV ?_ (fun _ => ?_) | refine' ee_notV ?_
  | refine' ee_isN ?_ | refine' ee_notN ?_ | refine' ee_eqD ?_ ?_ ?_ | refine' ee_neD ?_ ?_ ?_
  | refine' ee_ixT ?_ ?_ ?_ | refine' ee_lenT ?_ | refine' ee_isi ?_ ?_ | refine' ee_tup ?_ ?_ | refine' eo_some ?_ | refine' ee_slT ?_ ?_ ?_
  | exact ki_ii | exact ki_ib | exact ki_tt | exact ki_ss | (show atI _ _ = some _; first | rfl | assumption) | (show scalD _ _ = true; rfl) | exact Nat.le_of_ble_eq_true rfl)
local macro_rules | `(tactic| walk_at "ev") => `(tactic| repeat' walk_at "ev1")
local macro_rules | `(tactic| walk_at "ev1") => `(tactic| first | refine' el_take ?_ ?_ ?_ | refine' el_drop ?_ ?_ ?_ | refine' ee_revT ?_)
abbrev F_is_deed (ds : List PyData) (r : PyData) : Prop := ∃ (s : Stand) (d : Deed), s.Ok ∧ d.Ok s ∧ ds = [s.d, d.d] ∧ r = .bool true
abbrev F_put_in (ds : List PyData) (r : PyData) : Prop := ∃ (l : List PyData) (i : Nat) (x : PyData), i < l.length ∧ l.length ≤ 1000 ∧ ds = [.tuple l, .int i, x] ∧ r = .tuple (l.set i x)
def Deed.ofM : Deed → Prop
  | .shift _ _ => False
  | .pot _ _ => False
  | _ => True
abbrev F_mover_behind (ds : List PyData) (r : PyData) : Prop := ∃ (m : Mover) (d : Deed), d.ofM ∧ ds = [m.d, d.d] ∧ r = (d.move1 m).d
abbrev F_stand_behind (ds : List PyData) (r : PyData) : Prop := ∃ (s : Stand) (d : Deed), s.Ok ∧ d.Ok s ∧ ds = [s.d, d.d] ∧ r = (behind s d).d
theorem inksD_set {l : List Int} {i : Nat} {h : Int} : PyData.tuple ((l.map PyData.int).set i (.int h)) = inksD (l.set i h) := by
  unfold inksD
  rw [List.map_set]
theorem moversD_set {l : List Mover} {i : Nat} {m : Mover} : PyData.tuple ((l.map Mover.d).set i m.d) = moversD (l.set i m) := by
  unfold moversD
  rw [List.map_set]
section
variable {W : Wd} {ta : TA} {ρ : List Sl} {E : XK}
theorem e_is_deed {s : Stand} {d : Deed} (ok : s.Ok) (h1 : d.Ok s) (h : EA W ta ρ [s.d, d.d]) : Ee W (tCall (spF 2 F_is_deed) [] E ta) ρ (.bool true) := ee_call h ⟨_, _, ok, h1, rfl, rfl⟩ rfl
theorem e_put_in {l : List PyData} {i : Nat} {x : PyData} (h1 : i < l.length) (h2 : l.length ≤ 1000) (h : EA W ta ρ [.tuple l, .int i, x]) : Ee W (tCall (spF 3 F_put_in) [] E ta) ρ (.tuple (l.set i x)) := ee_call h ⟨_, _, _, h1, h2, rfl, rfl⟩ rfl
theorem e_mover_behind {m : Mover} {d : Deed} (h1 : d.ofM) (h : EA W ta ρ [m.d, d.d]) : Ee W (tCall (spF 2 F_mover_behind) [] E ta) ρ (d.move1 m).d := ee_call h ⟨_, _, h1, rfl, rfl⟩ rfl
theorem e_stand_behind {s : Stand} {d : Deed} (ok : s.Ok) (h1 : d.Ok s) (h : EA W ta ρ [s.d, d.d]) : Ee W (tCall (spF 2 F_stand_behind) [] E ta) ρ (behind s d).d := ee_call h ⟨_, _, ok, h1, rfl, rfl⟩ rfl
end
section
variable {P : Program} {w : World} {K : PySem.W.Frag} {mg : Str → Option Value} {base : Heap} {C D : Addr}
theorem sc_is_deed : FnScope ["stand", "thing", "word"] ["stand", "thing"] (defScope s_is_deed) := ⟨rfl, rfl, rfl, by decide +kernel, rfl, by decide +kernel, by decide +kernel⟩
theorem c_is_deed (T : Txt K mg w C D) : Cal P w K mg base 3 "is_deed" (spF 2 F_is_deed) := by
  have nd := sc_is_deed.nd
  have c_is_number_in := c_is_number_in (P := P) (w := w) (base := base) T
  have c_is_place := c_is_place (P := P) (w := w) (base := base) T
  have c_is_whole := c_is_whole (P := P) (w := w) (base := base) T
  obtain ⟨es, nn, kd⟩ := T.kd
  refine mkF T.f_is_deed (fun _ _ _ _ _ _ us hl => match us, hl with | [_, _], _ => rfl) sc_is_deed rfl (fun f cdv A outer s H E hr => ⟨_, (pss_cons (ps_if (PW.pt (pw_or (pt_not (pt_val (pe_callB (call_isiW (K := K) rfl) (by rfl) T.b_isinstance (by decide +kernel) (pa_cons (pv 1) (pa_cons (pe_bltn (v := .ty "tuple") (by rfl) T.b_tuple (by decide +kernel) rfl) pa_nil))))) (pw_or (pt_cmpR op_lt (pe_callB (call_lenK (K := K) rfl) (by rfl) T.b_len (by decide +kernel) (pa_cons (pv 1) pa_nil)) pe_int (nomark _)) (pw_or1 (pt_not (pt_val (pe_callB (call_isiW (K := K) rfl) (by rfl) T.b_isinstance (by decide +kernel) (pa_cons (pe_ix (ix_tupK (K := K) rfl) (pv 1) pe_int (fun _ _ => rfl)) (pa_cons (pe_bltn (v := .ty "str") (by rfl) T.b_str (by decide +kernel) rfl) pa_nil))))))))) (pss_one (ps_ret pe_bl)) pss_nil) (pss_cons (ps_set (i := 2) nd rfl (by first | exact Or.inl rfl | exact Or.inr rfl) (pe_ix (ix_tupK (K := K) rfl) (pv 1) pe_int (fun _ _ => rfl))) (pss_cons (ps_if (PW.pt (pw_or (pt_cmpR (op_nikd (K := K) rfl (w := w) rfl kd) (pv 2) (pe_glob (v := .ref D) (by rfl) T.gD rfl) (by rfl)) (pw_or1 (pt_cmpR op_ne (pe_callB (call_lenK (K := K) rfl) (by rfl) T.b_len (by decide +kernel) (pa_cons (pv 1) pa_nil)) (pe_ix (ix_kdt (K := K) rfl (w := w) rfl) (pe_glob (v := .ref D) (by rfl) T.gD rfl) (pv 2) (fun _ _ => rfl)) (nomark _))))) (pss_one (ps_ret pe_bl)) pss_nil) (pss_cons (ps_if (pt_cmpR op_eq (pv 2) pe_str (nomark _)) (pss_one (ps_ret (pe_c c_is_place hr (by decide) (by rfl) (pa_cons (pe_ix (ix_tupK (K := K) rfl) (pv 1) pe_int (fun _ _ => rfl)) (pa_cons (pe_ix (ix_tupK (K := K) rfl) (pv 1) pe_int (fun _ _ => rfl)) pa_nil))))) pss_nil) (pss_cons (ps_if (pt_cmpR op_eq (pv 2) pe_str (nomark _)) (pss_one (ps_ret (pe_and (pe_c c_is_whole hr (by decide) (by rfl) (pa_cons (pe_ix (ix_tupK (K := K) rfl) (pv 1) pe_int (fun _ _ => rfl)) (pa_cons pe_int (pa_cons (pe_op op_sub (pe_gc (by rfl) T.n_INKS) pe_int) pa_nil)))) (pe_one (pe_c c_is_whole hr (by decide) (by rfl) (pa_cons (pe_ix (ix_tupK (K := K) rfl) (pv 1) pe_int (fun _ _ => rfl)) (pa_cons pe_int (pa_cons (pe_op op_sub (pe_gc (by rfl) T.n_HUES) pe_int) pa_nil)))))))) pss_nil) (pss_cons (ps_if (pt_not (pt_val (pe_c c_is_whole hr (by decide) (by rfl) (pa_cons (pe_ix (ix_tupK (K := K) rfl) (pv 1) pe_int (fun _ _ => rfl)) (pa_cons pe_int (pa_cons (pe_op op_sub (pe_callB (call_lenK (K := K) rfl) (by rfl) T.b_len (by decide +kernel) (pa_cons (pe_ix (ix_tupK (K := K) rfl) (pv 0) pe_int (fun _ _ => rfl)) pa_nil)) pe_int) pa_nil)))))) (pss_one (ps_ret pe_bl)) pss_nil) (pss_cons (ps_if (pt_cmpR op_eq (pv 2) pe_str (nomark _)) (pss_one (ps_ret (pe_c c_is_place hr (by decide) (by rfl) (pa_cons (pe_ix (ix_tupK (K := K) rfl) (pv 1) pe_int (fun _ _ => rfl)) (pa_cons (pe_ix (ix_tupK (K := K) rfl) (pv 1) pe_int (fun _ _ => rfl)) pa_nil))))) pss_nil) (pss_cons (ps_if (pt_cmpR op_eq (pv 2) pe_str (nomark _)) (pss_one (ps_ret (pe_c c_is_number_in hr (by decide) (by rfl) (pa_cons (pe_ix (ix_tupK (K := K) rfl) (pv 1) pe_int (fun _ _ => rfl)) (pa_cons (pe_ix (ix_tupK (K := K) rfl) (pv 0) pe_int (fun _ _ => rfl)) pa_nil))))) pss_nil) (pss_one (ps_ret (pe_c c_is_whole hr (by decide) (by rfl) (pa_cons (pe_ix (ix_tupK (K := K) rfl) (pv 1) pe_int (fun _ _ => rfl)) (pa_cons pe_int (pa_cons pe_int pa_nil)))))))))))))), fun ds r hn hF => ?_⟩)
  obtain ⟨s', d, ok, h, rfl, rfl⟩ := hF
  have hm := ok.m1
  cases d with
  | shift x y =>
    refine bs_ifF (Et.is (by walk_at "ev") (by rfl)) (bs_skip ?_)
    refine bs_asgE (by walk_at "ev") ?_
    refine bs_ifF (Et.is (et_or (et_test (ee_nin (ee_var rfl) T.p_shift)) fun _ => et_test (ee_neD (by walk_at "ev") (ee_kdt (ee_var rfl) (kdct_of kd T.p_shift)) rfl)) (by rfl)) (bs_skip ?_)
    exact bs_ifT (Et.is (by walk_at "ev") (by rfl)) (bs_retS (bs_ret (e_is_place h.1 h.2 (by walk_at "ev"))))
  | pot i x =>
    refine bs_ifF (Et.is (by walk_at "ev") (by rfl)) (bs_skip ?_)
    refine bs_asgE (by walk_at "ev") ?_
    refine bs_ifF (Et.is (et_or (et_test (ee_nin (ee_var rfl) T.p_pot)) fun _ => et_test (ee_neD (by walk_at "ev") (ee_kdt (ee_var rfl) (kdct_of kd T.p_pot)) rfl)) (by rfl)) (bs_skip ?_)
    refine bs_ifF (Et.is (by walk_at "ev") (by rfl)) (bs_skip ?_)
    obtain ⟨h1, h2, h3⟩ := h
    refine bs_ifT (Et.is (by walk_at "ev") (by rfl)) (bs_retS (bs_ret (Ed.is (ee_andV (e_is_whole (by walk_at "ev")) fun _ => e_is_whole (by walk_at "ev")) ?_)))
    simp; omega
  | move n x y =>
    refine bs_ifF (Et.is (by walk_at "ev") (by rfl)) (bs_skip ?_)
    refine bs_asgE (by walk_at "ev") ?_
    refine bs_ifF (Et.is (et_or (et_test (ee_nin (ee_var rfl) T.p_move)) fun _ => et_test (ee_neD (by walk_at "ev") (ee_kdt (ee_var rfl) (kdct_of kd T.p_move)) rfl)) (by rfl)) (bs_skip ?_)
    refine bs_ifF (Et.is (by walk_at "ev") (by rfl)) (bs_skip ?_)
    refine bs_ifF (Et.is (by walk_at "ev") (by rfl)) (bs_skip ?_)
    obtain ⟨h1, h2, h3⟩ := h
    refine bs_ifF (Et.is (et_not (et_B (e_is_whole (by walk_at "ev")))) ?_) (bs_skip ?_)
    · simp; omega
    exact bs_ifT (Et.is (by walk_at "ev") (by rfl)) (bs_retS (bs_ret (e_is_place h2 h3 (by walk_at "ev"))))
  | shape n x =>
    refine bs_ifF (Et.is (by walk_at "ev") (by rfl)) (bs_skip ?_)
    refine bs_asgE (by walk_at "ev") ?_
    refine bs_ifF (Et.is (et_or (et_test (ee_nin (ee_var rfl) T.p_shape)) fun _ => et_test (ee_neD (by walk_at "ev") (ee_kdt (ee_var rfl) (kdct_of kd T.p_shape)) rfl)) (by rfl)) (bs_skip ?_)
    refine bs_ifF (Et.is (by walk_at "ev") (by rfl)) (bs_skip ?_)
    refine bs_ifF (Et.is (by walk_at "ev") (by rfl)) (bs_skip ?_)
    obtain ⟨h1, h2⟩ := h
    refine bs_ifF (Et.is (et_not (et_B (e_is_whole (by walk_at "ev")))) ?_) (bs_skip ?_)
    · simp; omega
    refine bs_ifF (Et.is (by walk_at "ev") (by rfl)) (bs_skip ?_)
    exact bs_ifT (Et.is (by walk_at "ev") (by rfl)) (bs_retS (bs_ret (e_is_number_in h2 (by walk_at "ev"))))
  | rank n x =>
    refine bs_ifF (Et.is (by walk_at "ev") (by rfl)) (bs_skip ?_)
    refine bs_asgE (by walk_at "ev") ?_
    refine bs_ifF (Et.is (et_or (et_test (ee_nin (ee_var rfl) T.p_rank)) fun _ => et_test (ee_neD (by walk_at "ev") (ee_kdt (ee_var rfl) (kdct_of kd T.p_rank)) rfl)) (by rfl)) (bs_skip ?_)
    refine bs_ifF (Et.is (by walk_at "ev") (by rfl)) (bs_skip ?_)
    refine bs_ifF (Et.is (by walk_at "ev") (by rfl)) (bs_skip ?_)
    obtain ⟨h1, h2, h3⟩ := h
    refine bs_ifF (Et.is (et_not (et_B (e_is_whole (by walk_at "ev")))) ?_) (bs_skip ?_)
    · simp; omega
    refine bs_ifF (Et.is (by walk_at "ev") (by rfl)) (bs_skip ?_)
    refine bs_ifF (Et.is (by walk_at "ev") (by rfl)) (bs_skip ?_)
    refine bs_ret (Ed.is (e_is_whole (by walk_at "ev")) ?_)
    simp; omega
  | turn n x =>
    refine bs_ifF (Et.is (by walk_at "ev") (by rfl)) (bs_skip ?_)
    refine bs_asgE (by walk_at "ev") ?_
    refine bs_ifF (Et.is (et_or (et_test (ee_nin (ee_var rfl) T.p_turn)) fun _ => et_test (ee_neD (by walk_at "ev") (ee_kdt (ee_var rfl) (kdct_of kd T.p_turn)) rfl)) (by rfl)) (bs_skip ?_)
    refine bs_ifF (Et.is (by walk_at "ev") (by rfl)) (bs_skip ?_)
    refine bs_ifF (Et.is (by walk_at "ev") (by rfl)) (bs_skip ?_)
    obtain ⟨h1, h2, h3⟩ := h
    refine bs_ifF (Et.is (et_not (et_B (e_is_whole (by walk_at "ev")))) ?_) (bs_skip ?_)
    · simp; omega
    refine bs_ifF (Et.is (by walk_at "ev") (by rfl)) (bs_skip ?_)
    refine bs_ifF (Et.is (by walk_at "ev") (by rfl)) (bs_skip ?_)
    refine bs_ret (Ed.is (e_is_whole (by walk_at "ev")) ?_)
    simp; omega
theorem sc_put_in : FnScope ["row", "at", "thing"] ["row", "at", "thing"] (defScope s_put_in) := ⟨rfl, rfl, rfl, by decide +kernel, rfl, by decide +kernel, by decide +kernel⟩
theorem c_put_in (T : Txt K mg w C D) : Cal P w K mg base 1 "put_in" (spF 3 F_put_in) := by
  have nd := sc_put_in.nd
  refine mkF T.f_put_in (fun _ _ _ _ _ _ us hl => match us, hl with | [_, _, _], _ => rfl) sc_put_in rfl (fun f cdv A outer s H E hr => ⟨_, (pss_one (ps_ret (pe_op (op_catK (K := K) rfl) (pe_op (op_catK (K := K) rfl) (pe_slice (sl_tupK (K := K) rfl) (pv 0) po_none (po_some (pv 1))) (pe_tup (pa_cons (pv 2) pa_nil))) (pe_slice (sl_tupK (K := K) rfl) (pv 0) (po_some (pe_op op_add (pv 1) pe_int)) po_none)))), fun ds r hn hF => ?_⟩)
  obtain ⟨l, i, x, h1, h2, rfl, rfl⟩ := hF
  exact bs_ret (ee_putT (by walk_at "ev") (by walk_at "ev") (by walk_at "ev") (by walk_at "ev") (by walk_at "ev") h1 h2)
theorem sc_mover_behind : FnScope ["mover", "deed", "shape", "x", "y", "rank", "turn", "word"] ["mover", "deed"] (defScope s_mover_behind) := ⟨rfl, rfl, rfl, by decide +kernel, rfl, by decide +kernel, by decide +kernel⟩
theorem c_mover_behind (T : Txt K mg w C D) : Cal P w K mg base 1 "mover_behind" (spF 2 F_mover_behind) := by
  have nd := sc_mover_behind.nd
  refine mkF T.f_mover_behind (fun _ _ _ _ _ _ us hl => match us, hl with | [_, _], _ => rfl) sc_mover_behind rfl (fun f cdv A outer s H E hr => ⟨_, (pss_cons (ps_asg (pv 0) (pg_tupK (K := K) rfl (by rfl) (pgs_cons (pg_name (i := 2) nd rfl (by first | exact Or.inl rfl | exact Or.inr rfl)) (pgs_cons (pg_name (i := 3) nd rfl (by first | exact Or.inl rfl | exact Or.inr rfl)) (pgs_cons (pg_name (i := 4) nd rfl (by first | exact Or.inl rfl | exact Or.inr rfl)) (pgs_cons (pg_name (i := 5) nd rfl (by first | exact Or.inl rfl | exact Or.inr rfl)) (pgs_cons (pg_name (i := 6) nd rfl (by first | exact Or.inl rfl | exact Or.inr rfl)) pgs_nil))))))) (pss_cons (ps_set (i := 7) nd rfl (by first | exact Or.inl rfl | exact Or.inr rfl) (pe_ix (ix_tupK (K := K) rfl) (pv 1) pe_int (fun _ _ => rfl))) (pss_cons (ps_if (pt_cmpR op_eq (pv 7) pe_str (nomark _)) (pss_one (ps_ret (pe_tup (pa_cons (pv 2) (pa_cons (pe_ix (ix_tupK (K := K) rfl) (pv 1) pe_int (fun _ _ => rfl)) (pa_cons (pe_ix (ix_tupK (K := K) rfl) (pv 1) pe_int (fun _ _ => rfl)) (pa_cons (pv 5) (pa_cons (pv 6) pa_nil)))))))) pss_nil) (pss_cons (ps_if (pt_cmpR op_eq (pv 7) pe_str (nomark _)) (pss_one (ps_ret (pe_tup (pa_cons (pe_ix (ix_tupK (K := K) rfl) (pv 1) pe_int (fun _ _ => rfl)) (pa_cons (pv 3) (pa_cons (pv 4) (pa_cons (pv 5) (pa_cons (pv 6) pa_nil)))))))) pss_nil) (pss_cons (ps_if (pt_cmpR op_eq (pv 7) pe_str (nomark _)) (pss_one (ps_ret (pe_tup (pa_cons (pv 2) (pa_cons (pv 3) (pa_cons (pv 4) (pa_cons (pe_ix (ix_tupK (K := K) rfl) (pv 1) pe_int (fun _ _ => rfl)) (pa_cons (pv 6) pa_nil)))))))) pss_nil) (pss_one (ps_ret (pe_tup (pa_cons (pv 2) (pa_cons (pv 3) (pa_cons (pv 4) (pa_cons (pv 5) (pa_cons (pe_ix (ix_tupK (K := K) rfl) (pv 1) pe_int (fun _ _ => rfl)) pa_nil))))))))))))), fun ds r hn hF => ?_⟩)
  obtain ⟨m, d, h, rfl, rfl⟩ := hF
  refine bs_asgG (ee_var rfl) (gd_tup (gds_cons gd_name (gds_cons gd_name (gds_cons gd_name (gds_cons gd_name (gds_cons gd_name gds_nil))))) rfl) ?_
  cases d with
  | shift x y => exact h.elim
  | pot i x => exact h.elim
  | move n x y =>
    refine bs_asgE (by walk_at "ev") ?_
    refine bs_ifT (Et.is (by walk_at "ev") (by rfl)) (bs_retS (bs_ret (Ed.is (by walk_at "ev") ?_)))
    rfl
  | shape n x =>
    refine bs_asgE (by walk_at "ev") ?_
    refine bs_ifF (Et.is (by walk_at "ev") (by rfl)) (bs_skip ?_)
    refine bs_ifT (Et.is (by walk_at "ev") (by rfl)) (bs_retS (bs_ret (Ed.is (by walk_at "ev") ?_)))
    rfl
  | rank n x =>
    refine bs_asgE (by walk_at "ev") ?_
    refine bs_ifF (Et.is (by walk_at "ev") (by rfl)) (bs_skip ?_)
    refine bs_ifF (Et.is (by walk_at "ev") (by rfl)) (bs_skip ?_)
    refine bs_ifT (Et.is (by walk_at "ev") (by rfl)) (bs_retS (bs_ret (Ed.is (by walk_at "ev") ?_)))
    rfl
  | turn n x =>
    refine bs_asgE (by walk_at "ev") ?_
    refine bs_ifF (Et.is (by walk_at "ev") (by rfl)) (bs_skip ?_)
    refine bs_ifF (Et.is (by walk_at "ev") (by rfl)) (bs_skip ?_)
    refine bs_ifF (Et.is (by walk_at "ev") (by rfl)) (bs_skip ?_)
    refine bs_ret (Ed.is (by walk_at "ev") ?_)
    rfl
theorem sc_stand_behind : FnScope ["stand", "deed", "floor", "shift", "book", "movers", "pots", "mover"] ["stand", "deed"] (defScope s_stand_behind) := ⟨rfl, rfl, rfl, by decide +kernel, rfl, by decide +kernel, by decide +kernel⟩
theorem c_stand_behind (T : Txt K mg w C D) : Cal P w K mg base 4 "stand_behind" (spF 2 F_stand_behind) := by
  have nd := sc_stand_behind.nd
  have c_is_deed := c_is_deed (P := P) (w := w) (base := base) T
  have c_mover_behind := c_mover_behind (P := P) (w := w) (base := base) T
  have c_put_in := c_put_in (P := P) (w := w) (base := base) T
  refine mkF T.f_stand_behind (fun _ _ _ _ _ _ us hl => match us, hl with | [_, _], _ => rfl) sc_stand_behind rfl (fun f cdv A outer s H E hr => ⟨_, (pss_cons (ps_if (pt_not (pt_val (pe_c c_is_deed hr (by decide) (by rfl) (pa_cons (pv 0) (pa_cons (pv 1) pa_nil))))) (pss_one ps_never) pss_nil) (pss_cons (ps_asg (pv 0) (pg_tupK (K := K) rfl (by rfl) (pgs_cons (pg_name (i := 2) nd rfl (by first | exact Or.inl rfl | exact Or.inr rfl)) (pgs_cons (pg_name (i := 3) nd rfl (by first | exact Or.inl rfl | exact Or.inr rfl)) (pgs_cons (pg_name (i := 4) nd rfl (by first | exact Or.inl rfl | exact Or.inr rfl)) (pgs_cons (pg_name (i := 5) nd rfl (by first | exact Or.inl rfl | exact Or.inr rfl)) (pgs_cons (pg_name (i := 6) nd rfl (by first | exact Or.inl rfl | exact Or.inr rfl)) pgs_nil))))))) (pss_cons (ps_if (pt_cmpR op_eq (pe_ix (ix_tupK (K := K) rfl) (pv 1) pe_int (fun _ _ => rfl)) pe_str (nomark _)) (pss_one (ps_ret (pe_tup (pa_cons (pv 2) (pa_cons (pe_tup (pa_cons (pe_ix (ix_tupK (K := K) rfl) (pv 1) pe_int (fun _ _ => rfl)) (pa_cons (pe_ix (ix_tupK (K := K) rfl) (pv 1) pe_int (fun _ _ => rfl)) pa_nil))) (pa_cons (pv 4) (pa_cons (pv 5) (pa_cons (pv 6) pa_nil)))))))) pss_nil) (pss_cons (ps_if (pt_cmpR op_eq (pe_ix (ix_tupK (K := K) rfl) (pv 1) pe_int (fun _ _ => rfl)) pe_str (nomark _)) (pss_one (ps_ret (pe_tup (pa_cons (pv 2) (pa_cons (pv 3) (pa_cons (pv 4) (pa_cons (pv 5) (pa_cons (pe_c c_put_in hr (by decide) (by rfl) (pa_cons (pv 6) (pa_cons (pe_ix (ix_tupK (K := K) rfl) (pv 1) pe_int (fun _ _ => rfl)) (pa_cons (pe_ix (ix_tupK (K := K) rfl) (pv 1) pe_int (fun _ _ => rfl)) pa_nil)))) pa_nil)))))))) pss_nil) (pss_cons (ps_set (i := 7) nd rfl (by first | exact Or.inl rfl | exact Or.inr rfl) (pe_c c_mover_behind hr (by decide) (by rfl) (pa_cons (pe_ix (ix_tupK (K := K) rfl) (pv 5) (pe_ix (ix_tupK (K := K) rfl) (pv 1) pe_int (fun _ _ => rfl)) (fun _ _ => rfl)) (pa_cons (pv 1) pa_nil)))) (pss_one (ps_ret (pe_tup (pa_cons (pv 2) (pa_cons (pv 3) (pa_cons (pv 4) (pa_cons (pe_c c_put_in hr (by decide) (by rfl) (pa_cons (pv 5) (pa_cons (pe_ix (ix_tupK (K := K) rfl) (pv 1) pe_int (fun _ _ => rfl)) (pa_cons (pv 7) pa_nil)))) (pa_cons (pv 6) pa_nil))))))))))))), fun ds r hn hF => ?_⟩)
  obtain ⟨s', d, ok, h, rfl, rfl⟩ := hF
  have hm := ok.m1
  have hp := ok.p1
  refine bs_ifF (Et.is (et_not (et_B (e_is_deed ok h (by walk_at "ev")))) (by rfl)) (bs_skip ?_)
  refine bs_asgG (ee_var rfl) (gd_tup (gds_cons gd_name (gds_cons gd_name (gds_cons gd_name (gds_cons gd_name (gds_cons gd_name gds_nil))))) rfl) ?_
  cases d with
  | shift x y =>
    refine bs_ifT (Et.is (by walk_at "ev") (by rfl)) (bs_retS (bs_ret (Ed.is (by walk_at "ev") ?_)))
    rfl
  | pot i x =>
    refine bs_ifF (Et.is (by walk_at "ev") (by rfl)) (bs_skip ?_)
    refine bs_ifT (Et.is (by walk_at "ev") (by rfl)) (bs_retS (bs_ret (Ed.is (ee_tup (ea_cons (by walk_at "ev") (ea_cons (by walk_at "ev") (ea_cons (by walk_at "ev") (ea_cons (by walk_at "ev") (ea_cons (e_put_in (l := s'.pots.map PyData.int) (i := i) (by rw [List.length_map, hp]; exact h.1) (by rw [List.length_map]; omega) (by walk_at "ev")) ea_nil)))))) ?_)))
    rw [inksD_set]
    rfl
  | move n x y =>
    have hx : atI (s'.movers.map Mover.d) (n : Int) = some (gM s'.movers n).d := atI_mover h.1
    refine bs_ifF (Et.is (by walk_at "ev") (by rfl)) (bs_skip ?_)
    refine bs_ifF (Et.is (by walk_at "ev") (by rfl)) (bs_skip ?_)
    refine bs_asgE (e_mover_behind (m := gM s'.movers n) (d := .move n x y) trivial (by walk_at "ev")) ?_
    refine bs_ret (Ed.is (ee_tup (ea_cons (by walk_at "ev") (ea_cons (by walk_at "ev") (ea_cons (by walk_at "ev") (ea_cons (e_put_in (l := s'.movers.map Mover.d) (i := n) (by rw [List.length_map]; exact h.1) (by rw [List.length_map]; omega) (by walk_at "ev")) (ea_cons (by walk_at "ev") ea_nil)))))) ?_)
    rw [moversD_set]
    rfl
  | shape n x =>
    have hx : atI (s'.movers.map Mover.d) (n : Int) = some (gM s'.movers n).d := atI_mover h.1
    refine bs_ifF (Et.is (by walk_at "ev") (by rfl)) (bs_skip ?_)
    refine bs_ifF (Et.is (by walk_at "ev") (by rfl)) (bs_skip ?_)
    refine bs_asgE (e_mover_behind (m := gM s'.movers n) (d := .shape n x) trivial (by walk_at "ev")) ?_
    refine bs_ret (Ed.is (ee_tup (ea_cons (by walk_at "ev") (ea_cons (by walk_at "ev") (ea_cons (by walk_at "ev") (ea_cons (e_put_in (l := s'.movers.map Mover.d) (i := n) (by rw [List.length_map]; exact h.1) (by rw [List.length_map]; omega) (by walk_at "ev")) (ea_cons (by walk_at "ev") ea_nil)))))) ?_)
    rw [moversD_set]
    rfl
  | rank n x =>
    have hx : atI (s'.movers.map Mover.d) (n : Int) = some (gM s'.movers n).d := atI_mover h.1
    refine bs_ifF (Et.is (by walk_at "ev") (by rfl)) (bs_skip ?_)
    refine bs_ifF (Et.is (by walk_at "ev") (by rfl)) (bs_skip ?_)
    refine bs_asgE (e_mover_behind (m := gM s'.movers n) (d := .rank n x) trivial (by walk_at "ev")) ?_
    refine bs_ret (Ed.is (ee_tup (ea_cons (by walk_at "ev") (ea_cons (by walk_at "ev") (ea_cons (by walk_at "ev") (ea_cons (e_put_in (l := s'.movers.map Mover.d) (i := n) (by rw [List.length_map]; exact h.1) (by rw [List.length_map]; omega) (by walk_at "ev")) (ea_cons (by walk_at "ev") ea_nil)))))) ?_)
    rw [moversD_set]
    rfl
  | turn n x =>
    have hx : atI (s'.movers.map Mover.d) (n : Int) = some (gM s'.movers n).d := atI_mover h.1
    refine bs_ifF (Et.is (by walk_at "ev") (by rfl)) (bs_skip ?_)
    refine bs_ifF (Et.is (by walk_at "ev") (by rfl)) (bs_skip ?_)
    refine bs_asgE (e_mover_behind (m := gM s'.movers n) (d := .turn n x) trivial (by walk_at "ev")) ?_
    refine bs_ret (Ed.is (ee_tup (ea_cons (by walk_at "ev") (ea_cons (by walk_at "ev") (ea_cons (by walk_at "ev") (ea_cons (e_put_in (l := s'.movers.map Mover.d) (i := n) (by rw [List.length_map]; exact h.1) (by rw [List.length_map]; omega) (by walk_at "ev")) (ea_cons (by walk_at "ev") ea_nil)))))) ?_)
    rw [moversD_set]
    rfl
end
end Gw
set_option Elab.async false
set_option linter.all false
set_option maxRecDepth 100000
set_option maxHeartbeats 4000000
namespace Gw
open PySem PySem.Spec PyProof.Rows L2
/- one step of the evaluation; walk_at "ev": to its end -/
local macro_rules | `(tactic| walk_at "ev1") => `(tactic| first
  | exact ee_int | exact ee_bl | exact ee_str | exact ee_non | exact ee_var rfl | exact eo_none | exact ea_nil
  | refine' ea_cons ?_ ?_ | refine' ee_II ?_ ?_ | refine' ee_IB ?_ ?_ | refine' ee_UI ?_ | refine' ee_IC ?_ ?_ ?_
  | refine' et_test ?_ | refine' et_B ?_ | refine' et_not ?_ | refine' et_and ?_ (fun _ => ?_) | refine' et_or ?_ (fun _ => ?_)
  | refine' ee_andV ?_ (fun _ => ?_) | refine' ee_orV ?_ (fun _ => ?_) | refine' ee_notV ?_
  | refine' ee_isN ?_ | refine' ee_notN ?_ | refine' ee_eqD ?_ ?_ ?_ | refine' ee_neD ?_ ?_ ?_
  | refine' ee_ixT ?_ ?_ ?_ | refine' ee_lenT ?_ | refine' ee_isi ?_ ?_ | refine' ee_tup ?_ ?_ | refine' eo_some ?_ | refine' ee_slT ?_ ?_ ?_
  | exact ki_ii | exact ki_ib | exact ki_tt | exact ki_ss | (show atI _ _ = some _; first | rfl | assumption) | (show scalD _ _ = true; rfl) | exact Nat.le_of_ble_eq_true rfl)
local macro_rules | `(tactic| walk_at "ev") => `(tactic| repeat' walk_at "ev1")
local macro_rules | `(tactic| walk_at "ev1") => `(tactic| first | refine' el_take ?_ ?_ ?_ | refine' el_drop ?_ ?_ ?_ | refine' ee_revT ?_ | (show (0 : Int) < 2; decide) | (show CDiv _ _; assumption))
abbrev F_law_behind (ds : List PyData) (r : PyData) : Prop := ∃ (s : Stand) (d : Deed), s.Ok ∧ d.Ok s ∧ ds = [s.d, d.d] ∧ r = (behind s d).d
abbrev F_law_strip (ds : List PyData) (r : PyData) : Prop := ∃ (sh : List (List Int)) (turn row : Int), 0 ≤ row ∧ row < sh.length ∧ 0 ≤ turn ∧ turn ≤ 3 ∧ (∀ r ∈ sh, r.length ≤ 1000) ∧ ds = [rowsD sh, .int turn, .int row] ∧ r = inksD (stripOf sh turn row)
abbrev F_law_lying (ds rs : List PyData) : Prop := ∃ (s : Stand) (row : Int), s.Ok ∧ ds = [s.d, .int row] ∧ rs = natsD (lying s row)
abbrev F_law_taken (ds : List PyData) (r : PyData) : Prop := ∃ (f : Frame) (s : Stand) (row : Int), f.Ok ∧ s.Ok ∧ ds = [f.d, s.d, .int row] ∧ r = (taken f s row).d
abbrev F_law_cover (ds rs : List PyData) : Prop := ∃ (t : Taken) (x : Int), t.strips.length ≤ 1000 ∧ ds = [t.d, .int x] ∧ rs = (covering t x).map (lawD x)
abbrev F_law_ink (ds : List PyData) (r : PyData) : Prop := ∃ (t : Taken) (x : Int), 0 ≤ x ∧ x < t.inks.length ∧ t.Ok ∧ ds = [t.d, .int x] ∧ r = .int (inkAt t x)
section
variable {W : Wd} {ta : TA} {ρ : List Sl} {E : XK}
theorem e_law_behind {s : Stand} {d : Deed} (ok : s.Ok) (h1 : d.Ok s) (h : EA W ta ρ [s.d, d.d]) : Ee W (tCall (spF 2 F_law_behind) [] E ta) ρ (behind s d).d := ee_call h ⟨_, _, ok, h1, rfl, rfl⟩ rfl
theorem e_law_strip {sh : List (List Int)} {turn row : Int} (h1 : 0 ≤ row) (h2 : row < sh.length) (h3 : 0 ≤ turn) (h4 : turn ≤ 3) (h5 : ∀ r ∈ sh, r.length ≤ 1000) (h : EA W ta ρ [rowsD sh, .int turn, .int row]) : Ee W (tCall (spF 3 F_law_strip) [] E ta) ρ (inksD (stripOf sh turn row)) := ee_call h ⟨_, _, _, h1, h2, h3, h4, h5, rfl, rfl⟩ rfl
theorem e_law_lying {s : Stand} {row : Int} (ok : s.Ok) (h : EA W ta ρ [s.d, .int row]) : El W (tCall (spL 2 F_law_lying) [] E ta) ρ (fun x => x = natsD (lying s row)) := el_call h ⟨_, _, ok, rfl, rfl⟩ rfl
theorem e_law_taken {f : Frame} {s : Stand} {row : Int} (ok : f.Ok) (ok2 : s.Ok) (h : EA W ta ρ [f.d, s.d, .int row]) : Ee W (tCall (spF 3 F_law_taken) [] E ta) ρ (taken f s row).d := ee_call h ⟨_, _, _, ok, ok2, rfl, rfl⟩ rfl
theorem e_law_cover {t : Taken} {x : Int} (h2 : t.strips.length ≤ 1000) (h : EA W ta ρ [t.d, .int x]) : El W (tCall (spL 2 F_law_cover) [] E ta) ρ (fun y => y = (covering t x).map (lawD x)) := el_call h ⟨_, _, h2, rfl, rfl⟩ rfl
theorem e_law_ink {t : Taken} {x : Int} (h0 : 0 ≤ x) (h1 : x < t.inks.length) (h2 : t.Ok) (h : EA W ta ρ [t.d, .int x]) : Ee W (tCall (spF 2 F_law_ink) [] E ta) ρ (.int (inkAt t x)) := ee_call h ⟨_, _, h0, h1, h2, rfl, rfl⟩ rfl
end
theorem EA.is {W : Wd} {ta : TA} {ρ : List Sl} {ds es : List PyData} (h : EA W ta ρ ds) (e : ds = es) : EA W ta ρ es := e ▸ h
theorem rev_range (r : List Int) : (List.range r.length).map (fun (k : Nat) => PyData.int (gI r ((r.length : Int) - 1 - (k : Int)))) = r.reverse.map PyData.int := by
  apply List.ext_getElem?
  intro i
  rw [List.getElem?_map, List.getElem?_map]
  by_cases h : i < r.length
  · rw [List.getElem?_range h, List.getElem?_reverse h]
    have e : gI r ((r.length : Int) - 1 - (i : Int)) = r[r.length - 1 - i]'(by omega) := by
      unfold gI
      rw [show ((r.length : Int) - 1 - (i : Int)).toNat = r.length - 1 - i by omega, List.getD_eq_getElem?_getD, List.getElem?_eq_getElem (by omega : r.length - 1 - i < r.length)]
      rfl
    show some (PyData.int (gI r ((r.length : Int) - 1 - (i : Int)))) = _
    rw [e, List.getElem?_eq_getElem (by omega : r.length - 1 - i < r.length)]
    rfl
  · rw [List.getElem?_eq_none (by rw [List.length_range]; omega), List.getElem?_eq_none (by rw [List.length_reverse]; omega)]
    rfl
section
variable {P : Program} {w : World} {K : PySem.W.Frag} {mg : Str → Option Value} {base : Heap} {C D : Addr}
theorem sc_law_behind : FnScope ["stand", "deed", "floor", "shift", "book", "movers", "pots", "mover"] ["stand", "deed"] (defScope s_law_behind) := ⟨rfl, rfl, rfl, by decide +kernel, rfl, by decide +kernel, by decide +kernel⟩
theorem c_law_behind (T : Txt K mg w C D) : Cal P w K mg base 1 "_law_behind" (spF 2 F_law_behind) := by
  have nd := sc_law_behind.nd
  refine mkF T.f__law_behind (fun _ _ _ _ _ _ us hl => match us, hl with | [_, _], _ => rfl) sc_law_behind rfl (fun f cdv A outer s H E hr => ⟨_, (pss_cons (ps_asg (pv 0) (pg_tupK (K := K) rfl (by rfl) (pgs_cons (pg_name (i := 2) nd rfl (by first | exact Or.inl rfl | exact Or.inr rfl)) (pgs_cons (pg_name (i := 3) nd rfl (by first | exact Or.inl rfl | exact Or.inr rfl)) (pgs_cons (pg_name (i := 4) nd rfl (by first | exact Or.inl rfl | exact Or.inr rfl)) (pgs_cons (pg_name (i := 5) nd rfl (by first | exact Or.inl rfl | exact Or.inr rfl)) (pgs_cons (pg_name (i := 6) nd rfl (by first | exact Or.inl rfl | exact Or.inr rfl)) pgs_nil))))))) (pss_cons (ps_if (pt_cmpR op_eq (pe_ix (ix_tupK (K := K) rfl) (pv 1) pe_int (fun _ _ => rfl)) pe_str (nomark _)) (pss_one (ps_ret (pe_tup (pa_cons (pv 2) (pa_cons (pe_slice (sl_tupK (K := K) rfl) (pv 1) (po_some pe_int) po_none) (pa_cons (pv 4) (pa_cons (pv 5) (pa_cons (pv 6) pa_nil)))))))) pss_nil) (pss_cons (ps_if (pt_cmpR op_eq (pe_ix (ix_tupK (K := K) rfl) (pv 1) pe_int (fun _ _ => rfl)) pe_str (nomark _)) (pss_one (ps_ret (pe_tup (pa_cons (pv 2) (pa_cons (pv 3) (pa_cons (pv 4) (pa_cons (pv 5) (pa_cons (pe_op (op_catK (K := K) rfl) (pe_op (op_catK (K := K) rfl) (pe_slice (sl_tupK (K := K) rfl) (pv 6) po_none (po_some (pe_ix (ix_tupK (K := K) rfl) (pv 1) pe_int (fun _ _ => rfl)))) (pe_tup (pa_cons (pe_ix (ix_tupK (K := K) rfl) (pv 1) pe_int (fun _ _ => rfl)) pa_nil))) (pe_slice (sl_tupK (K := K) rfl) (pv 6) (po_some (pe_op op_add (pe_ix (ix_tupK (K := K) rfl) (pv 1) pe_int (fun _ _ => rfl)) pe_int)) po_none)) pa_nil)))))))) pss_nil) (pss_cons (ps_set (i := 7) nd rfl (by first | exact Or.inl rfl | exact Or.inr rfl) (pe_callTy (call_listK (K := K) rfl) (by rfl) T.b_list (by decide +kernel) (pa_cons (pe_ix (ix_tupK (K := K) rfl) (pv 5) (pe_ix (ix_tupK (K := K) rfl) (pv 1) pe_int (fun _ _ => rfl)) (fun _ _ => rfl)) pa_nil))) (pss_cons (ps_if (pt_cmpR op_eq (pe_ix (ix_tupK (K := K) rfl) (pv 1) pe_int (fun _ _ => rfl)) pe_str (nomark _)) (pss_one (ps_asg (pe_lst (pa_cons (pe_ix (ix_tupK (K := K) rfl) (pv 1) pe_int (fun _ _ => rfl)) (pa_cons (pe_ix (ix_tupK (K := K) rfl) (pv 1) pe_int (fun _ _ => rfl)) pa_nil))) (pg_slc (pv 7) (po_some pe_int) (po_some pe_int)))) (pss_one (ps_asg (pe_ix (ix_tupK (K := K) rfl) (pv 1) pe_int (fun _ _ => rfl)) (pg_sub (pv 7) (pe_dget (hu_of hr) (pe_disp (pps_cons pe_str pe_int (pps_cons pe_str pe_int (pps_cons pe_str pe_int pps_nil))) (by rfl) (by rfl) (fun z => by cases z) (by decide)) (pe_ix (ix_tupK (K := K) rfl) (pv 1) pe_int (fun _ _ => rfl)) (fun _ _ => rfl)) set_list)))) (pss_one (ps_ret (pe_tup (pa_cons (pv 2) (pa_cons (pv 3) (pa_cons (pv 4) (pa_cons (pe_op (op_catK (K := K) rfl) (pe_op (op_catK (K := K) rfl) (pe_slice (sl_tupK (K := K) rfl) (pv 5) po_none (po_some (pe_ix (ix_tupK (K := K) rfl) (pv 1) pe_int (fun _ _ => rfl)))) (pe_tup (pa_cons (pe_tupleK (K := K) rfl (by rfl) T.b_tuple (pv 7)) pa_nil))) (pe_slice (sl_tupK (K := K) rfl) (pv 5) (po_some (pe_op op_add (pe_ix (ix_tupK (K := K) rfl) (pv 1) pe_int (fun _ _ => rfl)) pe_int)) po_none)) (pa_cons (pv 6) pa_nil))))))))))))), fun ds r hn hF => ?_⟩)
  obtain ⟨s', d, ok, h, rfl, rfl⟩ := hF
  have hm := ok.m1
  have hp := ok.p1
  refine bs_asgG (ee_var rfl) (gd_tup (gds_cons gd_name (gds_cons gd_name (gds_cons gd_name (gds_cons gd_name (gds_cons gd_name gds_nil))))) rfl) ?_
  cases d with
  | shift x y =>
    refine bs_ifT (Et.is (by walk_at "ev") (by rfl)) (bs_retS (bs_ret (Ed.is (ee_tup (ea_cons (by walk_at "ev") (ea_cons (ee_dropT (ee_var rfl) ee_int (by omega)) (ea_cons (by walk_at "ev") (ea_cons (by walk_at "ev") (ea_cons (by walk_at "ev") ea_nil)))))) ?_)))
    rfl
  | pot i x =>
    refine bs_ifF (Et.is (by walk_at "ev") (by rfl)) (bs_skip ?_)
    refine bs_ifT (Et.is (by walk_at "ev") (by rfl)) (bs_retS (bs_ret (Ed.is (ee_tup (ea_cons (by walk_at "ev") (ea_cons (by walk_at "ev") (ea_cons (by walk_at "ev") (ea_cons (by walk_at "ev") (ea_cons (ee_putT (ds := s'.pots.map PyData.int) (x := .int x) (i := i) (by walk_at "ev") (by walk_at "ev") (by walk_at "ev") (by walk_at "ev") (by walk_at "ev") (by rw [List.length_map, hp]; exact h.1) (by rw [List.length_map]; omega)) ea_nil)))))) ?_)))
    rw [inksD_set]
    rfl
  | move n x y =>
    have hx : atI (s'.movers.map Mover.d) (n : Int) = some (gM s'.movers n).d := atI_mover h.1
    refine bs_ifF (Et.is (by walk_at "ev") (by rfl)) (bs_skip ?_)
    refine bs_ifF (Et.is (by walk_at "ev") (by rfl)) (bs_skip ?_)
    generalize hg : gM s'.movers n = m at hx
    obtain ⟨sp, mx, my, rk, tn⟩ := m
    refine bs_asgL (el_listT (ds := [shapeD sp, .int mx, .int my, .int rk, .int tn]) (by walk_at "ev")) fun ds e => ?_
    subst e
    refine bs_ifT (Et.is (by walk_at "ev") (by rfl)) ?_
    refine bs_setS (es := [.int x, .int y]) (a := 1) (c := 3) rfl (fun j es z => ?_) (el_lst (P1 := fun l => l = [.int x, .int y]) (by walk_at "ev") (fun ds e => by subst e; exact ⟨by simp, rfl⟩)) (eo_some ee_int) (eo_some ee_int) (by omega) (by omega) (by simp) (by simp) ?_
    · rcases j with _ | _ | _ | _ | _ | _ | _ | _ | j <;> first | rfl | cases z
    refine bs_ret (Ed.is (ee_tup (ea_cons (by walk_at "ev") (ea_cons (by walk_at "ev") (ea_cons (by walk_at "ev") (ea_cons (ee_putT (ds := s'.movers.map Mover.d) (x := (Deed.move1 (gM s'.movers n) (.move n x y)).d) (i := n) (by walk_at "ev") (by walk_at "ev") (Ed.is (ee_tupleL (eq_var rfl rfl)) (by rw [hg]; rfl)) (by walk_at "ev") (by walk_at "ev") (by rw [List.length_map]; exact h.1) (by rw [List.length_map]; omega)) (ea_cons (by walk_at "ev") ea_nil)))))) ?_)
    rw [moversD_set]
    rfl
  | shape n x =>
    have hx : atI (s'.movers.map Mover.d) (n : Int) = some (gM s'.movers n).d := atI_mover h.1
    refine bs_ifF (Et.is (by walk_at "ev") (by rfl)) (bs_skip ?_)
    refine bs_ifF (Et.is (by walk_at "ev") (by rfl)) (bs_skip ?_)
    generalize hg : gM s'.movers n = m at hx
    obtain ⟨sp, mx, my, rk, tn⟩ := m
    refine bs_asgL (el_listT (ds := [shapeD sp, .int mx, .int my, .int rk, .int tn]) (by walk_at "ev")) fun ds e => ?_
    subst e
    refine bs_ifF (Et.is (by walk_at "ev") (by rfl)) ?_
    refine bs_setL (d := shapeD x) (k := 0) rfl (fun j es z => ?_) (by walk_at "ev") (ee_lit (x := "shape") [("shape", 0), ("rank", 3), ("turn", 4)] (by decide) (by walk_at "ev") (by decide +kernel)) (by omega) (by simp) ?_
    · rcases j with _ | _ | _ | _ | _ | _ | _ | _ | j <;> first | rfl | cases z
    refine bs_ret (Ed.is (ee_tup (ea_cons (by walk_at "ev") (ea_cons (by walk_at "ev") (ea_cons (by walk_at "ev") (ea_cons (ee_putT (ds := s'.movers.map Mover.d) (x := (Deed.move1 (gM s'.movers n) (.shape n x)).d) (i := n) (by walk_at "ev") (by walk_at "ev") (Ed.is (ee_tupleL (eq_var rfl rfl)) (by rw [hg]; rfl)) (by walk_at "ev") (by walk_at "ev") (by rw [List.length_map]; exact h.1) (by rw [List.length_map]; omega)) (ea_cons (by walk_at "ev") ea_nil)))))) ?_)
    rw [moversD_set]
    rfl
  | rank n x =>
    have hx : atI (s'.movers.map Mover.d) (n : Int) = some (gM s'.movers n).d := atI_mover h.1
    refine bs_ifF (Et.is (by walk_at "ev") (by rfl)) (bs_skip ?_)
    refine bs_ifF (Et.is (by walk_at "ev") (by rfl)) (bs_skip ?_)
    generalize hg : gM s'.movers n = m at hx
    obtain ⟨sp, mx, my, rk, tn⟩ := m
    refine bs_asgL (el_listT (ds := [shapeD sp, .int mx, .int my, .int rk, .int tn]) (by walk_at "ev")) fun ds e => ?_
    subst e
    refine bs_ifF (Et.is (by walk_at "ev") (by rfl)) ?_
    refine bs_setL (d := .int x) (k := 3) rfl (fun j es z => ?_) (by walk_at "ev") (ee_lit (x := "rank") [("shape", 0), ("rank", 3), ("turn", 4)] (by decide) (by walk_at "ev") (by decide +kernel)) (by omega) (by simp) ?_
    · rcases j with _ | _ | _ | _ | _ | _ | _ | _ | j <;> first | rfl | cases z
    refine bs_ret (Ed.is (ee_tup (ea_cons (by walk_at "ev") (ea_cons (by walk_at "ev") (ea_cons (by walk_at "ev") (ea_cons (ee_putT (ds := s'.movers.map Mover.d) (x := (Deed.move1 (gM s'.movers n) (.rank n x)).d) (i := n) (by walk_at "ev") (by walk_at "ev") (Ed.is (ee_tupleL (eq_var rfl rfl)) (by rw [hg]; rfl)) (by walk_at "ev") (by walk_at "ev") (by rw [List.length_map]; exact h.1) (by rw [List.length_map]; omega)) (ea_cons (by walk_at "ev") ea_nil)))))) ?_)
    rw [moversD_set]
    rfl
  | turn n x =>
    have hx : atI (s'.movers.map Mover.d) (n : Int) = some (gM s'.movers n).d := atI_mover h.1
    refine bs_ifF (Et.is (by walk_at "ev") (by rfl)) (bs_skip ?_)
    refine bs_ifF (Et.is (by walk_at "ev") (by rfl)) (bs_skip ?_)
    generalize hg : gM s'.movers n = m at hx
    obtain ⟨sp, mx, my, rk, tn⟩ := m
    refine bs_asgL (el_listT (ds := [shapeD sp, .int mx, .int my, .int rk, .int tn]) (by walk_at "ev")) fun ds e => ?_
    subst e
    refine bs_ifF (Et.is (by walk_at "ev") (by rfl)) ?_
    refine bs_setL (d := .int x) (k := 4) rfl (fun j es z => ?_) (by walk_at "ev") (ee_lit (x := "turn") [("shape", 0), ("rank", 3), ("turn", 4)] (by decide) (by walk_at "ev") (by decide +kernel)) (by omega) (by simp) ?_
    · rcases j with _ | _ | _ | _ | _ | _ | _ | _ | j <;> first | rfl | cases z
    refine bs_ret (Ed.is (ee_tup (ea_cons (by walk_at "ev") (ea_cons (by walk_at "ev") (ea_cons (by walk_at "ev") (ea_cons (ee_putT (ds := s'.movers.map Mover.d) (x := (Deed.move1 (gM s'.movers n) (.turn n x)).d) (i := n) (by walk_at "ev") (by walk_at "ev") (Ed.is (ee_tupleL (eq_var rfl rfl)) (by rw [hg]; rfl)) (by walk_at "ev") (by walk_at "ev") (by rw [List.length_map]; exact h.1) (by rw [List.length_map]; omega)) (ea_cons (by walk_at "ev") ea_nil)))))) ?_)
    rw [moversD_set]
    rfl
theorem sc_law_strip : FnScope ["shape", "turn", "row", "k"] ["shape", "turn", "row"] (defScope s_law_strip) := ⟨rfl, rfl, rfl, by decide +kernel, rfl, by decide +kernel, by decide +kernel⟩
theorem c_law_strip (T : Txt K mg w C D) : Cal P w K mg base 1 "_law_strip" (spF 3 F_law_strip) := by
  have nd := sc_law_strip.nd
  refine mkF T.f__law_strip (fun _ _ _ _ _ _ us hl => match us, hl with | [_, _, _], _ => rfl) sc_law_strip rfl (fun f cdv A outer s H E hr => ⟨_, (pss_cons (ps_if (pt_cmpR op_eq (pe_op op_fdiv (pv 1) pe_int) pe_int (nomark _)) (pss_one (ps_set (i := 2) nd rfl (by first | exact Or.inl rfl | exact Or.inr rfl) (pe_op op_sub (pe_op op_sub (pe_callB (call_lenK (K := K) rfl) (by rfl) T.b_len (by decide +kernel) (pa_cons (pv 0) pa_nil)) pe_int) (pv 2)))) pss_nil) (pss_cons (ps_if (pt_cmpR op_eq (pe_op op_mod (pv 1) pe_int) pe_int (nomark _)) (pss_one (ps_ret (pe_ix (ix_tupK (K := K) rfl) (pv 0) (pv 2) (fun _ _ => rfl)))) pss_nil) (pss_one (ps_ret (pe_tupleK (K := K) rfl (by rfl) T.b_tuple (pe_lc (own := [("k", 3)]) (by rfl) nd (pi_range1 (by rfl) T.b_range (pa_cons (pe_callB (call_lenK (K := K) rfl) (by rfl) T.b_len (by decide +kernel) (pa_cons (pe_ix (ix_tupK (K := K) rfl) (pv 0) (pv 2) (fun _ _ => rfl)) pa_nil)) pa_nil)) (blkOk_by (N := ["shape", "turn", "row", "k"]) (sc := defScope s_law_strip) (by decide +kernel)) (fun _ _ _ _ _ => (pg_name (i := 3) nd rfl (by first | exact Or.inl rfl | exact Or.inr rfl))) (fun _ _ _ _ _ => pts_nil) (fun _ _ _ _ _ => (pe_ix (ix_tupK (K := K) rfl) (pe_ix (ix_tupK (K := K) rfl) (pv 0) (pv 2) (fun _ _ => rfl)) (pe_op op_sub (pe_op op_sub (pe_callB (call_lenK (K := K) rfl) (by rfl) T.b_len (by decide +kernel) (pa_cons (pe_ix (ix_tupK (K := K) rfl) (pv 0) (pv 2) (fun _ _ => rfl)) pa_nil)) pe_int) (pv 3)) (fun _ _ => rfl))))))))), fun ds r hn hF => ?_⟩)
  obtain ⟨sh, turn, row, h1, h2, h3, h4, h5, rfl, rfl⟩ := hF
  unfold stripOf
  rw [if_neg (by omega)]
  have ht : (turn / 2 = 1) ↔ 2 ≤ turn := by omega
  have hdv : CDiv turn 2 := ⟨by omega, by omega⟩
  have h2' : turn % 2 = 0 ∨ turn % 2 = 1 := by omega
  refine bs_ifC (b := decide (2 ≤ turn)) (Et.is (by walk_at "ev") ?_) (fun e => ?_) (fun e => bs_skip ?_)
  · show decide _ = decide _
    exact decide_eq_decide.mpr ht
  · have e := of_decide_eq_true e
    rw [if_pos e]
    refine bs_asgE (d := .int ((sh.length : Int) - 1 - row)) (Ed.is (by walk_at "ev") ?_) ?_
    · rw [List.length_map]
    have q1 : 0 ≤ (sh.length : Int) - 1 - row := by omega
    have q2 : (sh.length : Int) - 1 - row < (sh.length : Int) := by omega
    have hx : atI (sh.map inksD) ((sh.length : Int) - 1 - row) = some (inksD (gR sh ((sh.length : Int) - 1 - row))) := atI_row q1 q2
    have hl := h5 _ (gR_mem q1 q2)
    generalize gR sh ((sh.length : Int) - 1 - row) = r at hx hl ⊢
    refine bs_ifC (by walk_at "ev") (fun e => ?_) (fun e => bs_skip ?_)
    · have e := of_decide_eq_true e
      rw [if_neg (by omega)]
      exact bs_retS (bs_ret (by walk_at "ev"))
    · have e := of_decide_eq_false e
      rw [if_pos (by omega)]
      refine bs_ret (Ed.is (ee_tupleL (El.q (el_lcE (js := [3]) (src_R (n := (r.length : Int)) (EA.is (by walk_at "ev") ?_) (by omega)) (by omega) (fun k => .int (gI r ((r.length : Int) - 1 - (k : Int)))) (by simp) fun i hi => ⟨_, gd_name, ?_⟩))) ?_)
      · rw [List.length_map]
      · have hy : atI (r.map PyData.int) (((r.map PyData.int).length : Int) - 1 - (i : Int)) = some (.int (gI r ((r.length : Int) - 1 - (i : Int)))) := by
          rw [List.length_map]
          exact atI_int (by omega) (by omega)
        walk_at "ev"
      · rw [Int.toNat_natCast, rev_range]
        rfl
  · have e := of_decide_eq_false e
    rw [if_neg e]
    have q1 : 0 ≤ row := h1
    have q2 : row < (sh.length : Int) := h2
    have hx : atI (sh.map inksD) (row) = some (inksD (gR sh (row))) := atI_row q1 q2
    have hl := h5 _ (gR_mem q1 q2)
    generalize gR sh (row) = r at hx hl ⊢
    refine bs_ifC (by walk_at "ev") (fun e => ?_) (fun e => bs_skip ?_)
    · have e := of_decide_eq_true e
      rw [if_neg (by omega)]
      exact bs_retS (bs_ret (by walk_at "ev"))
    · have e := of_decide_eq_false e
      rw [if_pos (by omega)]
      refine bs_ret (Ed.is (ee_tupleL (El.q (el_lcE (js := [3]) (src_R (n := (r.length : Int)) (EA.is (by walk_at "ev") ?_) (by omega)) (by omega) (fun k => .int (gI r ((r.length : Int) - 1 - (k : Int)))) (by simp) fun i hi => ⟨_, gd_name, ?_⟩))) ?_)
      · rw [List.length_map]
      · have hy : atI (r.map PyData.int) (((r.map PyData.int).length : Int) - 1 - (i : Int)) = some (.int (gI r ((r.length : Int) - 1 - (i : Int)))) := by
          rw [List.length_map]
          exact atI_int (by omega) (by omega)
        walk_at "ev"
      · rw [Int.toNat_natCast, rev_range]
        rfl
theorem sc_law_lying : FnScope ["stand", "row", "found", "number", "shape", "x", "y", "rank", "turn"] ["stand", "row"] (defScope s_law_lying) := ⟨rfl, rfl, rfl, by decide +kernel, rfl, by decide +kernel, by decide +kernel⟩
theorem c_law_lying (T : Txt K mg w C D) : Cal P w K mg base 1 "_law_lying" (spL 2 F_law_lying) := by
  have nd := sc_law_lying.nd
  refine mkL T.f__law_lying (fun _ _ _ _ _ _ us hl => match us, hl with | [_, _], _ => rfl) sc_law_lying rfl (fun f cdv A outer s H E hr => ⟨_, (pss_cons (ps_set (i := 2) nd rfl (by first | exact Or.inl rfl | exact Or.inr rfl) (pe_lst pa_nil)) (pss_cons (ps_for PassesOwn.never rfl (pi_range1 (by rfl) T.b_range (pa_cons (pe_callB (call_lenK (K := K) rfl) (by rfl) T.b_len (by decide +kernel) (pa_cons (pe_ix (ix_tupK (K := K) rfl) (pv 0) pe_int (fun _ _ => rfl)) pa_nil)) pa_nil)) (pg_name (i := 3) nd rfl (by first | exact Or.inl rfl | exact Or.inr rfl)) (pss_cons (ps_asg (pe_ix (ix_tupK (K := K) rfl) (pe_ix (ix_tupK (K := K) rfl) (pv 0) pe_int (fun _ _ => rfl)) (pv 3) (fun _ _ => rfl)) (pg_tupK (K := K) rfl (by rfl) (pgs_cons (pg_name (i := 4) nd rfl (by first | exact Or.inl rfl | exact Or.inr rfl)) (pgs_cons (pg_name (i := 5) nd rfl (by first | exact Or.inl rfl | exact Or.inr rfl)) (pgs_cons (pg_name (i := 6) nd rfl (by first | exact Or.inl rfl | exact Or.inr rfl)) (pgs_cons (pg_name (i := 7) nd rfl (by first | exact Or.inl rfl | exact Or.inr rfl)) (pgs_cons (pg_name (i := 8) nd rfl (by first | exact Or.inl rfl | exact Or.inr rfl)) pgs_nil))))))) (pss_one (ps_if (PW.pt (pw_and (pt_cmpR op_notN (pv 4) pe_non (nomark _)) (pw_and (pt_cmpR op_le (pv 6) (pv 1) (nomark _)) (pw_and1 (pt_cmpR op_lt (pv 1) (pe_op op_add (pv 6) (pe_callB (call_lenK (K := K) rfl) (by rfl) T.b_len (by decide +kernel) (pa_cons (pe_ix (ix_tupK (K := K) rfl) (pe_ix (ix_tupK (K := K) rfl) (pv 0) pe_int (fun _ _ => rfl)) (pv 4) (fun _ _ => rfl)) pa_nil))) (nomark _)))))) (pss_one (ps_expr (pe_bm PySem.F.plainAttrs_list PySem.F.slot_list_append PySem.F.type_list_append mt_append (pv 2) (pa_cons (pv 3) pa_nil)))) pss_nil)))) (pss_one (ps_ret (pv 2))))), fun ds r hn hF => ?_⟩)
  obtain ⟨s', row, ok, rfl, rfl⟩ := hF
  have hm1 := ok.m1
  refine bs_asgL el_nil fun ds e => ?_
  subst e
  refine bs_for (srcF_R (n := (s'.movers.length : Int)) (EA.is (by walk_at "ev") ?_) (by omega)) (fun i => [.d s'.d, .d (.int row), .l (natsD ((List.range i).filter fun i => lies s'.book (gM s'.movers i) row)), .no, .no, .no, .no, .no, .no])
    (.cons (.inr rfl) (.cons (.inr rfl) (.cons (.inr rfl) (.cons (.inl rfl) (.cons (.inl rfl) (.cons (.inl rfl) (.cons (.inl rfl) (.cons (.inl rfl) (.cons (.inl rfl) .nil))))))))) (fun i hi => ⟨_, _, gd_name, ?_⟩) (bs_retV rfl (by simp [lying]))
  · rw [List.length_map]
  have hm : i < s'.movers.length := by omega
  have mok := ok.mv _ (gM_mem hm)
  have hx : atI (s'.movers.map Mover.d) (i : Int) = some (gM s'.movers i).d := atI_mover hm
  have el : natsD ((List.range (i + 1)).filter fun i => lies s'.book (gM s'.movers i) row) = natsD ((List.range i).filter fun i => lies s'.book (gM s'.movers i) row) ++ (if lies s'.book (gM s'.movers i) row = true then [.int (i : Int)] else []) := by
    rw [filt_succ]
    unfold natsD
    rw [List.map_append]
    split <;> rfl
  have hlen : (natsD ((List.range i).filter fun i => lies s'.book (gM s'.movers i) row)).length < 100000 := by
    have h1 := List.length_filter_le (fun i => lies s'.book (gM s'.movers i) row) (List.range i)
    rw [List.length_range] at h1
    unfold natsD
    rw [List.length_map]
    omega
  refine bs_asgG (d := (gM s'.movers i).d) (by walk_at "ev") (gd_tup (gds_cons gd_name (gds_cons gd_name (gds_cons gd_name (gds_cons gd_name (gds_cons gd_name gds_nil))))) rfl) ?_
  refine bs_ifZ (b := lies s'.book (gM s'.movers i) row) ?_ (fun e => ?_) (fun e => bs_next ?_)
  · generalize gM s'.movers i = m at mok ⊢
    obtain ⟨shp, x, y, rank, turn⟩ := m
    cases shp with
    | none => exact Et.is (et_and (b := false) (by walk_at "ev") fun z => absurd z (by simp [isNoneD, shapeD])) (by rfl)
    | some n =>
      have hb : atI (s'.book.map rowsD) (n : Int) = some (rowsD (gB s'.book n)) := atI_book (mok.s n rfl)
      refine Et.is (by walk_at "ev") ?_
      simp [lies, isNoneD, shapeD]
      rw [Bool.eq_iff_iff]
      simp
      omega
  · rw [if_pos e] at el
    refine bs_app rfl (fun j es z => ?_) hlen (by walk_at "ev") (.cons (.inr rfl) (.cons (.inr rfl) (.cons (.inr (congrArg Sl.l el)) (.cons (.inl rfl) (.cons (.inl rfl) (.cons (.inl rfl) (.cons (.inl rfl) (.cons (.inl rfl) (.cons (.inl rfl) .nil)))))))))
    rcases j with _ | _ | _ | _ | _ | _ | _ | _ | _ | j <;> first | rfl | cases z
  · rw [if_neg (by rw [e]; decide), List.append_nil] at el
    exact .cons (.inr rfl) (.cons (.inr rfl) (.cons (.inr (congrArg Sl.l el)) (.cons (.inl rfl) (.cons (.inl rfl) (.cons (.inl rfl) (.cons (.inl rfl) (.cons (.inl rfl) (.cons (.inl rfl) .nil))))))))
end
end Gw
set_option Elab.async false
set_option linter.all false
set_option maxRecDepth 100000
set_option maxHeartbeats 4000000
namespace Gw
open PySem PySem.Spec PyProof.Rows L2
/- one step of the evaluation; walk_at "ev": to its end -/
local macro_rules | `(tactic| walk_at "ev1") => `(tactic| first
  | exact ee_int | exact ee_bl | exact ee_str | exact ee_non | exact ee_var rfl | exact eo_none | exact ea_nil
  | refine' ea_cons ?_ ?_ | refine' ee_II ?_ ?_ | refine' ee_IB ?_ ?_ | refine' ee_UI ?_ | refine' ee_IC ?_ ?_ ?_
  | refine' et_test ?_ | refine' et_B ?_ | refine' et_not ?_ | refine' et_and ?_ (fun _ => ?_) | refine' et_or ?_ (fun _ => ?_)
  | refine' ee_andV ?_ (fun _ => ?_) | refine' ee_orV ?_ (fun _ => ?_) | refine' ee_notV ?_
  | refine' ee_isN ?_ | refine' ee_notN ?_ | refine' ee_eqD ?_ ?_ ?_ | refine' ee_neD ?_ ?_ ?_
  | refine' ee_ixT ?_ ?_ ?_ | refine' ee_lenT ?_ | refine' ee_isi ?_ ?_ | refine' ee_tup ?_ ?_ | refine' eo_some ?_ | refine' ee_slT ?_ ?_ ?_
  | exact ki_ii | exact ki_ib | exact ki_tt | exact ki_ss | (show atI _ _ = some _; first | rfl | assumption) | (show scalD _ _ = true; rfl) | exact Nat.le_of_ble_eq_true rfl)
local macro_rules | `(tactic| walk_at "ev") => `(tactic| repeat' walk_at "ev1")
local macro_rules | `(tactic| walk_at "ev1") => `(tactic| first | refine' el_take ?_ ?_ ?_ | refine' el_drop ?_ ?_ ?_ | refine' ee_revT ?_ | (show (0 : Int) < 2; decide))
section
variable {P : Program} {w : World} {K : PySem.W.Frag} {mg : Str → Option Value} {base : Heap} {C D : Addr}
theorem sc_law_taken : FnScope ["frame", "stand", "row", "floor", "shift", "inks", "strips", "number", "shape", "x", "y", "rank", "turn"] ["frame", "stand", "row"] (defScope s_law_taken) := ⟨rfl, rfl, rfl, by decide +kernel, rfl, by decide +kernel, by decide +kernel⟩
theorem c_law_taken (T : Txt K mg w C D) : Cal P w K mg base 2 "_law_taken" (spF 3 F_law_taken) := by
  have nd := sc_law_taken.nd
  have c_law_lying := c_law_lying (P := P) (w := w) (base := base) T
  have c_law_strip := c_law_strip (P := P) (w := w) (base := base) T
  refine mkF T.f__law_taken (fun _ _ _ _ _ _ us hl => match us, hl with | [_, _, _], _ => rfl) sc_law_taken rfl (fun f cdv A outer s H E hr => ⟨_, (pss_cons (ps_asg (pe_slice (sl_tupK (K := K) rfl) (pv 1) po_none (po_some pe_int)) (pg_tupK (K := K) rfl (by rfl) (pgs_cons (pg_name (i := 3) nd rfl (by first | exact Or.inl rfl | exact Or.inr rfl)) (pgs_cons (pg_name (i := 4) nd rfl (by first | exact Or.inl rfl | exact Or.inr rfl)) pgs_nil)))) (pss_cons (ps_set (i := 5) nd rfl (by first | exact Or.inl rfl | exact Or.inr rfl) (pe_ix (ix_tupK (K := K) rfl) (pv 3) (pe_op op_mod (pe_op op_add (pv 2) (pe_ix (ix_tupK (K := K) rfl) (pv 4) pe_int (fun _ _ => rfl))) (pe_callB (call_lenK (K := K) rfl) (by rfl) T.b_len (by decide +kernel) (pa_cons (pv 3) pa_nil))) (fun _ _ => rfl))) (pss_cons (ps_set (i := 6) nd rfl (by first | exact Or.inl rfl | exact Or.inr rfl) (pe_lst pa_nil)) (pss_cons (ps_for PassesOwn.never rfl (pi_listK (K := K) rfl (pe_slice (sl_listK (K := K) rfl) (pe_c c_law_lying hr (by decide) (by rfl) (pa_cons (pv 1) (pa_cons (pv 2) pa_nil))) po_none (po_some (pe_ix (ix_tupK (K := K) rfl) (pv 0) pe_int (fun _ _ => rfl))))) (pg_name (i := 7) nd rfl (by first | exact Or.inl rfl | exact Or.inr rfl)) (pss_cons (ps_asg (pe_ix (ix_tupK (K := K) rfl) (pe_ix (ix_tupK (K := K) rfl) (pv 1) pe_int (fun _ _ => rfl)) (pv 7) (fun _ _ => rfl)) (pg_tupK (K := K) rfl (by rfl) (pgs_cons (pg_name (i := 8) nd rfl (by first | exact Or.inl rfl | exact Or.inr rfl)) (pgs_cons (pg_name (i := 9) nd rfl (by first | exact Or.inl rfl | exact Or.inr rfl)) (pgs_cons (pg_name (i := 10) nd rfl (by first | exact Or.inl rfl | exact Or.inr rfl)) (pgs_cons (pg_name (i := 11) nd rfl (by first | exact Or.inl rfl | exact Or.inr rfl)) (pgs_cons (pg_name (i := 12) nd rfl (by first | exact Or.inl rfl | exact Or.inr rfl)) pgs_nil))))))) (pss_one (ps_expr (pe_bm PySem.F.plainAttrs_list PySem.F.slot_list_append PySem.F.type_list_append mt_append (pv 6) (pa_cons (pe_tup (pa_cons (pv 7) (pa_cons (pv 9) (pa_cons (pv 11) (pa_cons (pe_c c_law_strip hr (by decide) (by rfl) (pa_cons (pe_ix (ix_tupK (K := K) rfl) (pe_ix (ix_tupK (K := K) rfl) (pv 1) pe_int (fun _ _ => rfl)) (pv 8) (fun _ _ => rfl)) (pa_cons (pv 12) (pa_cons (pe_op op_sub (pv 2) (pv 10)) pa_nil)))) pa_nil))))) pa_nil)))))) (pss_one (ps_ret (pe_tup (pa_cons (pe_tupleK (K := K) rfl (by rfl) T.b_tuple (pe_lc (own := [("x", 9)]) (by rfl) nd (pi_range1 (by rfl) T.b_range (pa_cons (pe_ix (ix_tupK (K := K) rfl) (pv 0) pe_int (fun _ _ => rfl)) pa_nil)) (blkOk_by (N := ["frame", "stand", "row", "floor", "shift", "inks", "strips", "number", "shape", "x", "y", "rank", "turn"]) (sc := defScope s_law_taken) (by decide +kernel)) (fun _ _ _ _ _ => (pg_name (i := 9) nd rfl (by first | exact Or.inl rfl | exact Or.inr rfl))) (fun _ _ _ _ _ => pts_nil) (fun _ _ _ _ _ => (pe_ix (ix_tupK (K := K) rfl) (pv 5) (pe_op op_mod (pe_op op_add (pv 9) (pe_ix (ix_tupK (K := K) rfl) (pv 4) pe_int (fun _ _ => rfl))) (pe_callB (call_lenK (K := K) rfl) (by rfl) T.b_len (by decide +kernel) (pa_cons (pv 5) pa_nil))) (fun _ _ => rfl))))) (pa_cons (pe_tupleK (K := K) rfl (by rfl) T.b_tuple (pv 6)) pa_nil))))))))), fun ds r hn hF => ?_⟩)
  obtain ⟨f', s', row, ok, ok2, rfl, rfl⟩ := hF
  obtain ⟨n, n1, n2, hn'⟩ := ok2.fl.wd
  have hf1 := ok2.fl.h1
  have hp : 0 < (s'.floor.length : Int) := by omega
  have ha := Int.emod_nonneg (row + s'.sy) (show (s'.floor.length : Int) ≠ 0 by omega)
  have hb := Int.emod_lt_of_pos (row + s'.sy) hp
  have hrow := (hn' _ (gR_mem ha hb)).1
  have hm1 := ok2.m1
  have hkl := kept_len f' s' row
  refine bs_asgG (Ed.is (e := .tuple [rowsD s'.floor, .tuple [.int s'.sx, .int s'.sy]]) (by walk_at "ev") (by rfl)) (gd_tup (gds_cons gd_name (gds_cons gd_name gds_nil)) rfl) ?_
  refine bs_asgE (d := inksD (gR s'.floor ((row + s'.sy) % (s'.floor.length : Int)))) (ee_ixT (ee_var rfl) (ee_IC (by walk_at "ev") (by walk_at "ev") (by rw [List.length_map]; exact hp)) (by rw [List.length_map]; exact atI_row ha hb)) ?_
  have hfs : floorStrip f' s' row = (List.range f'.wide.toNat).map fun (x : Nat) => gI (gR s'.floor ((row + s'.sy) % (s'.floor.length : Int))) (((x : Int) + s'.sx) % ((gR s'.floor ((row + s'.sy) % (s'.floor.length : Int))).length : Int)) := rfl
  generalize gR s'.floor ((row + s'.sy) % (s'.floor.length : Int)) = inks at hrow hfs ⊢
  refine bs_asgL el_nil fun ds e => ?_
  subst e
  refine bs_for (srcF_L (ds := natsD (kept f' s' row)) ?_) (fun i => [.d f'.d, .d s'.d, .d (.int row), .d (rowsD s'.floor), .d (.tuple [.int s'.sx, .int s'.sy]), .d (inksD inks), .l (((kept f' s' row).take i).map fun k => (stripAt s' row k).d), .no, .no, .no, .no, .no, .no])
    (.cons (.inr rfl) (.cons (.inr rfl) (.cons (.inr rfl) (.cons (.inr rfl) (.cons (.inr rfl) (.cons (.inr rfl) (.cons (.inr rfl) (.cons (.inl rfl) (.cons (.inl rfl) (.cons (.inl rfl) (.cons (.inl rfl) (.cons (.inl rfl) (.cons (.inl rfl) .nil))))))))))))) (fun i hi => ⟨_, _, gd_name, ?_⟩) (bs_ret ?_)
  · refine el_slL (e_law_lying ok2 (by walk_at "ev")).q eo_none (eo_some (by walk_at "ev")) fun es e => ?_
    rw [e, cut_take _ ok.m1]
    unfold kept natsD
    rw [List.map_take]
  · have hi' : i < (kept f' s' row).length := by unfold natsD at hi; rw [List.length_map] at hi; exact hi
    unfold natsD
    rw [nth_map (getE hi')]
    have hk := kept_lies (List.getElem_mem hi')
    have el := take_succ' (getE hi')
    generalize (kept f' s' row)[i] = k at hk el
    obtain ⟨hk1, hk2⟩ := hk
    obtain ⟨n, hn⟩ := lies_shape hk2
    have mok := ok2.mv _ (gM_mem hk1)
    have hbk := ok2.bk _ (gB_mem (mok.s n hn))
    have hx : atI (s'.movers.map Mover.d) (k : Int) = some (gM s'.movers k).d := atI_mover hk1
    have hb : atI (s'.book.map rowsD) (n : Int) = some (rowsD (gB s'.book n)) := atI_book (mok.s n hn)
    have hsh : shapeD (gM s'.movers k).shape = .int n := by rw [hn]; rfl
    have hin : 0 ≤ row - (gM s'.movers k).y ∧ row - (gM s'.movers k).y < ((gB s'.book n).length : Int) := by
      unfold lies at hk2
      rw [hn] at hk2
      simpa using hk2
    refine bs_asgG (d := (gM s'.movers k).d) (by walk_at "ev") (gd_tup (gds_cons gd_name (gds_cons gd_name (gds_cons gd_name (gds_cons gd_name (gds_cons gd_name gds_nil))))) rfl) ?_
    rw [hsh]
    refine bs_app rfl (fun j es z => ?_) ?_ (d := (stripAt s' row k).d) (Ed.is (ee_tup (ea_cons (by walk_at "ev") (ea_cons (by walk_at "ev") (ea_cons (by walk_at "ev") (ea_cons (e_law_strip hin.1 hin.2 mok.t1 mok.t2 (fun r hr => ?_) (by walk_at "ev")) ea_nil))))) ?_)
      (.cons (.inr rfl) (.cons (.inr rfl) (.cons (.inr rfl) (.cons (.inr rfl) (.cons (.inr rfl) (.cons (.inr rfl) (.cons (.inr (congrArg Sl.l ?_)) (.cons (.inl rfl) (.cons (.inl rfl) (.cons (.inl rfl) (.cons (.inl rfl) (.cons (.inl rfl) (.cons (.inl rfl) .nil)))))))))))))
    · rcases j with _ | _ | _ | _ | _ | _ | _ | _ | _ | _ | _ | _ | _ | j <;> first | rfl | cases z
    · rw [List.length_map, List.length_take]
      omega
    · obtain ⟨m, m1, m2, hm⟩ := hbk.wd
      have := (hm r hr).1
      omega
    · have e2 : (gM s'.movers k).shape.getD 0 = n := by rw [hn]; rfl
      show _ = PyData.tuple [.int k, .int (gM s'.movers k).x, .int (gM s'.movers k).rank, inksD (stripOf (gB s'.book ((gM s'.movers k).shape.getD 0)) (gM s'.movers k).turn (row - (gM s'.movers k).y))]
      rw [e2]
    · rw [el, List.map_append]
      rfl
  · refine Ed.is (ee_tup (ea_cons (ee_tupleL (El.q (el_lcE (js := [9]) (src_R (by walk_at "ev") (by have := ok.w2; omega) (by have := ok.w1; omega)) (by have := ok.w2; omega) (fun x => .int (gI inks (((x : Int) + s'.sx) % (inks.length : Int)))) (by simp) fun i hi => ⟨_, gd_name, ?_⟩))) (ea_cons (ee_tupleL (eq_var rfl rfl)) ea_nil))) ?_
    · have hq : 0 < (inks.length : Int) := by omega
      refine ee_ixT (ee_var rfl) (ee_IC (by walk_at "ev") (by walk_at "ev") (by rw [List.length_map]; exact hq)) ?_
      rw [List.length_map]
      exact atI_int (Int.emod_nonneg _ (by omega)) (Int.emod_lt_of_pos _ hq)
    · unfold taken Taken.d natsD
      rw [hfs]
      unfold inksD
      rw [List.length_map, List.take_length, List.map_map, List.map_map]
      rfl
theorem sc_law_cover : FnScope ["row_here", "x", "found", "number", "left", "rank", "inks"] ["row_here", "x"] (defScope s_law_cover) := ⟨rfl, rfl, rfl, by decide +kernel, rfl, by decide +kernel, by decide +kernel⟩
theorem c_law_cover (T : Txt K mg w C D) : Cal P w K mg base 1 "_law_cover" (spL 2 F_law_cover) := by
  have nd := sc_law_cover.nd
  refine mkL T.f__law_cover (fun _ _ _ _ _ _ us hl => match us, hl with | [_, _], _ => rfl) sc_law_cover rfl (fun f cdv A outer s H E hr => ⟨_, (pss_cons (ps_set (i := 2) nd rfl (by first | exact Or.inl rfl | exact Or.inr rfl) (pe_lst pa_nil)) (pss_cons (ps_for PassesOwn.never rfl (pi_tupK (K := K) rfl (pe_ix (ix_tupK (K := K) rfl) (pv 0) pe_int (fun _ _ => rfl))) (pg_tupK (K := K) rfl (by rfl) (pgs_cons (pg_name (i := 3) nd rfl (by first | exact Or.inl rfl | exact Or.inr rfl)) (pgs_cons (pg_name (i := 4) nd rfl (by first | exact Or.inl rfl | exact Or.inr rfl)) (pgs_cons (pg_name (i := 5) nd rfl (by first | exact Or.inl rfl | exact Or.inr rfl)) (pgs_cons (pg_name (i := 6) nd rfl (by first | exact Or.inl rfl | exact Or.inr rfl)) pgs_nil))))) (pss_one (ps_if (PW.pt (pw_and (pt_cmpR op_le (pv 4) (pv 1) (nomark _)) (pw_and (pt_cmpR op_lt (pv 1) (pe_op op_add (pv 4) (pe_callB (call_lenK (K := K) rfl) (by rfl) T.b_len (by decide +kernel) (pa_cons (pv 6) pa_nil))) (nomark _)) (pw_and1 (pt_cmpR op_ne (pe_ix (ix_tupK (K := K) rfl) (pv 6) (pe_op op_sub (pv 1) (pv 4)) (fun _ _ => rfl)) pe_int (nomark _)))))) (pss_one (ps_expr (pe_bm PySem.F.plainAttrs_list PySem.F.slot_list_append PySem.F.type_list_append mt_append (pv 2) (pa_cons (pe_tup (pa_cons (pv 5) (pa_cons (pe_op op_sub pe_int (pv 3)) (pa_cons (pe_ix (ix_tupK (K := K) rfl) (pv 6) (pe_op op_sub (pv 1) (pv 4)) (fun _ _ => rfl)) pa_nil)))) pa_nil)))) pss_nil))) (pss_one (ps_ret (pv 2))))), fun ds r hn hF => ?_⟩)
  obtain ⟨t', x, h2, rfl, rfl⟩ := hF
  refine bs_asgL el_nil fun ds e => ?_
  subst e
  refine bs_for (srcF_T (by walk_at "ev")) (fun i => [.d t'.d, .d (.int x), .l (((t'.strips.take i).filter fun s => covers s x).map (lawD x)), .no, .no, .no, .no])
    (.cons (.inr rfl) (.cons (.inr rfl) (.cons (.inr rfl) (.cons (.inl rfl) (.cons (.inl rfl) (.cons (.inl rfl) (.cons (.inl rfl) .nil))))))) (fun i hi => ?_) (bs_retV rfl (by simp [covering]))
  have hm : i < t'.strips.length := by simpa using hi
  rw [nth_map (getE hm)]
  have el := filt_take (fun s => covers s x) (getE hm)
  have hlen := List.length_filter_le (fun s => covers s x) (t'.strips.take i)
  rw [List.length_take] at hlen
  generalize t'.strips[i] = s' at el ⊢
  refine ⟨_, _, gd_tup (gds_cons gd_name (gds_cons gd_name (gds_cons gd_name (gds_cons gd_name gds_nil)))) rfl, ?_⟩
  refine bs_ifZ (b := covers s' x) ?_ (fun e => ?_) (fun e => bs_next ?_)
  · by_cases c0 : 0 ≤ x - s'.left
    · by_cases c1 : x - s'.left < (s'.inks.length : Int)
      · have hx : atI (s'.inks.map PyData.int) (x - s'.left) = some (.int (gI s'.inks (x - s'.left))) := atI_int c0 c1
        refine Et.is (by walk_at "ev") ?_
        simp [covers, eqD]
        rw [Bool.eq_iff_iff]
        simp
        omega
      · refine Et.is (et_and (by walk_at "ev") fun _ => et_and (b := false) (by walk_at "ev") fun z => absurd (of_decide_eq_true z) (by rw [List.length_map]; omega)) ?_
        simp [covers]
        omega
    · refine Et.is (et_and (b := false) (by walk_at "ev") fun z => absurd (of_decide_eq_true z) (by omega)) ?_
      simp [covers]
      omega
  · have hx : atI (s'.inks.map PyData.int) (x - s'.left) = some (.int (gI s'.inks (x - s'.left))) := by
      simp [covers] at e
      exact atI_int (by omega) (by omega)
    rw [if_pos e] at el
    refine bs_app rfl (fun j es z => ?_) ?_ (d := lawD x s') (by walk_at "ev") (.cons (.inr rfl) (.cons (.inr rfl) (.cons (.inr (congrArg Sl.l ?_)) (.cons (.inl rfl) (.cons (.inl rfl) (.cons (.inl rfl) (.cons (.inl rfl) .nil)))))))
    · rcases j with _ | _ | _ | _ | _ | _ | _ | j <;> first | rfl | cases z
    · rw [List.length_map]
      omega
    · rw [el, List.map_append]
      rfl
  · rw [if_neg (by rw [e]; decide), List.append_nil] at el
    exact .cons (.inr rfl) (.cons (.inr rfl) (.cons (.inr (by rw [el])) (.cons (.inl rfl) (.cons (.inl rfl) (.cons (.inl rfl) (.cons (.inl rfl) .nil))))))
theorem sc_law_ink : FnScope ["row_here", "x", "found", "above", "one"] ["row_here", "x"] (defScope s_law_ink) := ⟨rfl, rfl, rfl, by decide +kernel, rfl, by decide +kernel, by decide +kernel⟩
theorem c_law_ink (T : Txt K mg w C D) : Cal P w K mg base 2 "_law_ink" (spF 2 F_law_ink) := by
  have nd := sc_law_ink.nd
  have c_law_cover := c_law_cover (P := P) (w := w) (base := base) T
  refine mkF T.f__law_ink (fun _ _ _ _ _ _ us hl => match us, hl with | [_, _], _ => rfl) sc_law_ink rfl (fun f cdv A outer s H E hr => ⟨_, (pss_cons (ps_set (i := 2) nd rfl (by first | exact Or.inl rfl | exact Or.inr rfl) (pe_c c_law_cover hr (by decide) (by rfl) (pa_cons (pv 0) (pa_cons (pv 1) pa_nil)))) (pss_cons (ps_setLc (i := 3) (own := [("one", 4)]) (by rfl) nd rfl rfl (sw_true rfl rfl rfl (by decide +kernel)) (pi_listK (K := K) rfl (pv 2)) (blkOk_by (N := ["row_here", "x", "found", "above", "one"]) (sc := defScope s_law_ink) (by decide +kernel)) (fun _ _ _ _ _ => (pg_name (i := 4) nd rfl (by first | exact Or.inl rfl | exact Or.inr rfl))) (fun _ _ _ _ _ => (pts_one (pt_cmpR op_gt (pe_ix (ix_tupK (K := K) rfl) (pv 4) pe_int (fun _ _ => rfl)) pe_int (nomark _)))) (fun _ _ _ _ _ => (pv 4))) (pss_cons (ps_if (pt_cmpR (op_neK (K := K) rfl (by exact hr.units)) (pv 3) (pe_lst pa_nil) (nomark _)) (pss_one (ps_ret (pe_ix (ix_tupK (K := K) rfl) (pe_callB (cr_maxT (K := K) rfl (by rfl) (by exact hr.units)) (by rfl) T.b_max (by decide +kernel) (pa_cons (pv 3) pa_nil)) pe_int (fun _ _ => rfl)))) pss_nil) (pss_cons (ps_if (PW.pt (pw_or (pt_cmpR op_ne (pe_ix (ix_tupK (K := K) rfl) (pe_ix (ix_tupK (K := K) rfl) (pv 0) pe_int (fun _ _ => rfl)) (pv 1) (fun _ _ => rfl)) pe_int (nomark _)) (pw_or1 (pt_cmpR (op_eqK (K := K) rfl (by exact hr.units)) (pv 2) (pe_lst pa_nil) (nomark _))))) (pss_one (ps_ret (pe_ix (ix_tupK (K := K) rfl) (pe_ix (ix_tupK (K := K) rfl) (pv 0) pe_int (fun _ _ => rfl)) (pv 1) (fun _ _ => rfl)))) pss_nil) (pss_one (ps_ret (pe_ix (ix_tupK (K := K) rfl) (pe_callB (cr_maxT (K := K) rfl (by rfl) (by exact hr.units)) (by rfl) T.b_max (by decide +kernel) (pa_cons (pv 2) pa_nil)) pe_int (fun _ _ => rfl)))))))), fun ds r hn hF => ?_⟩)
  obtain ⟨t', x, h0, h1, ok, rfl, rfl⟩ := hF
  have hcl := List.length_filter_le (fun s => covers s x) t'.strips
  have hcz := ok.len
  have hcl' : (covering t' x).length ≤ 1000 := Nat.le_trans hcl hcz
  have hx : atI (t'.inks.map PyData.int) x = some (.int (gI t'.inks x)) := atI_int h0 (by omega)
  have asc : (covering t' x).Pairwise (fun s t => s.number < t.number) := ok.asc.filter _
  refine bs_asgL (e_law_cover ok.len (by walk_at "ev")) fun ds e => ?_
  subst e
  let bb : PyData → Bool := fun d => match d with
    | .tuple (.int r :: _) => decide (0 < r)
    | _ => false
  have hab : ((covering t' x).map (lawD x)).filter bb = ((covering t' x).filter fun s => decide (0 < s.rank)).map (lawD x) := by
    rw [List.filter_map]
    rfl
  refine bs_asgL (L1 := fun l => l = ((covering t' x).filter fun s => decide (0 < s.rank)).map (lawD x)) (el_lc (js := [4]) (src_L (eq_var rfl rfl)) (by rw [List.length_map]; omega) bb (fun x y => y = x) (by simp) (fun i hi => ⟨_, gd_name, ?_, fun _ => ee_var rfl⟩) (fun rs h => ?_)) fun ds e => ?_
  · rw [List.length_map] at hi
    rw [nth_map (getE hi)]
    exact Et.is (by walk_at "ev") rfl
  · have e := paired_map (h := id) h
    rw [List.map_id, seqOf_nth, hab] at e
    exact e
  subst e
  have ascA : ((covering t' x).filter fun s => decide (0 < s.rank)).Pairwise (fun s t => s.number < t.number) := asc.filter _
  refine bs_ifC (b := !((covering t' x).filter fun s => decide (0 < s.rank)).isEmpty) (et_test (Ed.is (ee_neLL (eq_var rfl rfl) el_nil.q (shapedL (lay_lawD x _)) shaped_nil) ?_)) (fun e => ?_) (fun e => bs_skip ?_)
  · rw [eqv_nil]
    cases (covering t' x).filter fun s => decide (0 < s.rank) <;> rfl
  · cases hA : (covering t' x).filter fun s => decide (0 < s.rank) with
    | nil =>
      rw [hA] at e
      cases e
    | cons a l =>
      rw [hA] at ascA
      obtain ⟨b, hb1, hb2⟩ := max_lawD (x := x) ascA
      have hz : PyData.depthAll ((a :: l).map (lawD x)) ≤ 8 := (lay_depth (lay_lawD x _)).2
      refine bs_retS (bs_ret (Ed.is (ee_ixT (ds := [.int b.rank, .int (0 - (b.number : Int)), .int (gI b.inks (x - b.left))]) (Ed.is (ee_maxL (eq_var rfl rfl) (alike_lawD x (a :: l)) hz) hb1) ee_int rfl) ?_))
      rw [← hA] at hb2
      rw [ink_above hb2]
  · have hA : (covering t' x).filter (fun s => decide (0 < s.rank)) = [] := by
      cases hA : (covering t' x).filter fun s => decide (0 < s.rank) with
      | nil => rfl
      | cons a l =>
        rw [hA] at e
        cases e
    have hi := ink_below (x := x) ok (by rw [hA]; rfl)
    rw [hi]
    refine bs_ifC (b := !decide (gI t'.inks x = 0) || (covering t' x).isEmpty) (Et.is (et_or (by walk_at "ev") fun _ => et_test (ee_eqLL (eq_var rfl rfl) el_nil.q (shapedL (lay_lawD x _)) shaped_nil)) ?_) (fun e => ?_) (fun e => bs_skip ?_)
    · rw [eqv_nil]
      cases covering t' x <;> rfl
    · refine bs_retS (bs_ret (Ed.is (by walk_at "ev") ?_))
      rw [if_pos (by simpa using e)]
    · cases hC : covering t' x with
      | nil =>
        rw [hC] at e
        simp at e
      | cons a l =>
        rw [hC] at asc e
        obtain ⟨b, hb1, hb2⟩ := max_lawD (x := x) asc
        have hz : PyData.depthAll ((a :: l).map (lawD x)) ≤ 8 := (lay_depth (lay_lawD x _)).2
        refine bs_ret (Ed.is (ee_ixT (ds := [.int b.rank, .int (0 - (b.number : Int)), .int (gI b.inks (x - b.left))]) (Ed.is (ee_maxL (eq_var rfl rfl) (alike_lawD x (a :: l)) hz) hb1) ee_int rfl) ?_)
        rw [if_neg (by intro z; simp at e; rcases z with z | z; exact z e; cases z), hb2]
        rfl
end
end Gw
set_option Elab.async false
set_option linter.all false
set_option maxRecDepth 100000
set_option maxHeartbeats 4000000
/-! Plain Lean: what stays in bounds; the picture, tick by tick. -/
namespace Gw
open PySem PySem.Spec PyProof.Rows L2
theorem filt_pair {α : Type} {R : α → α → Prop} {p : α → Bool} {l : List α} (h : l.Pairwise R) : (l.filter p).Pairwise R := h.filter p
theorem range_asc (n : Nat) : (List.range n).Pairwise (· < ·) := by
  rw [List.pairwise_iff_getElem]
  intro i j hi hj hij
  rw [List.getElem_range, List.getElem_range]
  exact hij
structure TkOk (f : Frame) (t : Taken) : Prop where
  len : t.strips.length ≤ 12
  asc : t.strips.Pairwise (fun s t => s.number < t.number)
  rank : ∀ s ∈ t.strips, 0 ≤ s.rank
  wide : (t.inks.length : Int) = f.wide
  ink : ∀ i ∈ t.inks, InkOk i
  sink : ∀ s ∈ t.strips, ∀ i ∈ s.inks, InkOk i
theorem TkOk.ok {f : Frame} {t : Taken} (h : TkOk f t) : t.Ok := ⟨by have := h.len; omega, h.asc, h.rank⟩
theorem strip_mem {sh : List (List Int)} {turn row : Int} {P : Int → Prop} (h : ∀ r ∈ sh, ∀ i ∈ r, P i) : ∀ i ∈ stripOf sh turn row, P i := by
  intro i hi
  unfold stripOf at hi
  by_cases c : row < 0 ∨ (sh.length : Int) ≤ row
  · rw [if_pos c] at hi
    cases hi
  · rw [if_neg c] at hi
    have hr : ∀ k : Int, 0 ≤ k → k < sh.length → ∀ i ∈ gR sh k, P i := fun k h0 h1 => h _ (gR_mem h0 h1)
    have hk : ∃ k : Int, 0 ≤ k ∧ k < sh.length ∧ (if 2 ≤ turn then (sh.length : Int) - 1 - row else row) = k := by
      split
      · exact ⟨_, by omega, by omega, rfl⟩
      · exact ⟨_, by omega, by omega, rfl⟩
    obtain ⟨k, k0, k1, e⟩ := hk
    simp only [e] at hi
    split at hi
    · exact hr k k0 k1 i (List.mem_reverse.mp hi)
    · exact hr k k0 k1 i hi
theorem lies_shp {b : List (List (List Int))} {m : Mover} {row : Int} (h : lies b m row = true) : ∃ n, m.shape = some n := by
  unfold lies at h
  cases e : m.shape with
  | none =>
    rw [e] at h
    cases h
  | some n => exact ⟨n, rfl⟩
theorem keptP {f : Frame} {s : Stand} {row : Int} {k : Nat} (h : k ∈ kept f s row) : k < s.movers.length ∧ lies s.book (gM s.movers k) row = true := by
  have h1 := List.mem_of_mem_take h
  unfold lying at h1
  rw [List.mem_filter, List.mem_range] at h1
  exact h1
theorem tk_ok {f : Frame} {s : Stand} (hf : f.Ok) (hs : s.Ok) (row : Int) : TkOk f (taken f s row) := by
  obtain ⟨n, n1, n2, hn⟩ := hs.fl.wd
  have hf1 := hs.fl.h1
  have hw := hf.w1
  refine ⟨?_, ?_, ?_, ?_, ?_, ?_⟩
  · show ((kept f s row).map _).length ≤ 12
    rw [List.length_map]
    have h1 := List.length_filter_le (fun i => lies s.book (gM s.movers i) row) (List.range s.movers.length)
    rw [List.length_range] at h1
    have h2 : (kept f s row).length ≤ (lying s row).length := by
      unfold kept
      rw [List.length_take]
      omega
    have h3 : (lying s row).length ≤ s.movers.length := h1
    have := hs.m1
    omega
  · show ((kept f s row).map (stripAt s row)).Pairwise _
    rw [List.pairwise_map]
    have h1 : (lying s row).Pairwise (· < ·) := (range_asc _).filter _
    exact h1.sublist (List.take_sublist _ _)
  · intro t ht
    obtain ⟨k, hk, rfl⟩ := List.mem_map.mp ht
    exact (hs.mv _ (gM_mem (keptP hk).1)).r1
  · show (((List.range f.wide.toNat).map _).length : Int) = f.wide
    rw [List.length_map, List.length_range]
    omega
  · intro i hi
    obtain ⟨x, hx, rfl⟩ := List.mem_map.mp hi
    have hr := hn _ (gR_mem (i := (row + s.sy) % (s.floor.length : Int)) (Int.emod_nonneg _ (by omega)) (Int.emod_lt_of_pos _ (by omega)))
    exact hr.2 _ (gI_mem (Int.emod_nonneg _ (by omega)) (Int.emod_lt_of_pos _ (by omega)))
  · intro t ht
    obtain ⟨k, hk, rfl⟩ := List.mem_map.mp ht
    obtain ⟨h1, h2⟩ := keptP hk
    obtain ⟨m, hm⟩ := lies_shp h2
    have mok := hs.mv _ (gM_mem h1)
    have e : (gM s.movers k).shape.getD 0 = m := by rw [hm]; rfl
    show ∀ i ∈ stripOf (gB s.book ((gM s.movers k).shape.getD 0)) _ _, InkOk i
    rw [e]
    obtain ⟨q, q1, q2, hq⟩ := (hs.bk _ (gB_mem (mok.s m hm))).wd
    exact strip_mem fun r hr => (hq r hr).2
theorem covers_in {t : Strip} {x : Int} (h : covers t x = true) : 0 ≤ x - t.left ∧ x - t.left < t.inks.length := by
  unfold covers at h
  simp only [Bool.and_eq_true, decide_eq_true_eq] at h
  exact ⟨h.1, h.2.1⟩
theorem best_in {x : Int} {P : Int → Prop} : ∀ {l : List Strip} {a : Option (Int × Int)}, (∀ s ∈ l, P (gI s.inks (x - s.left))) → (∀ c, a = some c → P c.2) → ∀ c, l.foldl (bestStep x) a = some c → P c.2
  | [], a, _, h, c, hc => h c hc
  | t :: l, a, hl, h, c, hc => by
    refine best_in (l := l) (a := bestStep x a t) (fun s hs => hl s (List.mem_cons_of_mem _ hs)) (fun d hd => ?_) c hc
    have ht := hl t List.mem_cons_self
    cases a with
    | none =>
      have hd := Option.some.inj (show some (t.rank, gI t.inks (x - t.left)) = some d from hd)
      subst hd
      exact ht
    | some e =>
      have hd : (if e.1 < t.rank then some (t.rank, gI t.inks (x - t.left)) else some e) = some d := hd
      split at hd
      · have hd := Option.some.inj hd
        subst hd
        exact ht
      · have hd := Option.some.inj hd
        subst hd
        exact h e rfl
theorem ink_ok {f : Frame} {t : Taken} (h : TkOk f t) {x : Int} (h0 : 0 ≤ x) (h1 : x < f.wide) : InkOk (inkAt t x) := by
  have hg : InkOk (gI t.inks x) := h.ink _ (gI_mem h0 (by rw [h.wide]; exact h1))
  have hb := best_in (x := x) (P := InkOk) (l := covering t x) (a := none) (fun s hs => by
    obtain ⟨hs1, hs2⟩ := List.mem_filter.mp hs
    obtain ⟨h3, h4⟩ := covers_in hs2
    exact h.sink s hs1 _ (gI_mem h3 h4)) (fun c z => by cases z)
  unfold inkAt
  cases e : bestOf x (covering t x) with
  | none => exact hg
  | some b =>
    show InkOk (if _ then _ else _)
    split
    · exact hg
    · exact hb b e
/-! ### the stand behind a deed -/
theorem behind_len (s : Stand) (d : Deed) : (behind s d).movers.length = s.movers.length ∧ (behind s d).book = s.book := by
  cases d <;> refine ⟨?_, rfl⟩ <;> first | rfl | exact List.length_set
theorem deed_len {s t : Stand} (h1 : t.movers.length = s.movers.length) (h2 : t.book = s.book) {d : Deed} (h : d.Ok s) : d.Ok t := by
  cases d with
  | shift x y => exact h
  | pot i x => exact h
  | move n x y => exact ⟨by rw [h1]; exact h.1, h.2⟩
  | shape n x => exact ⟨by rw [h1]; exact h.1, by rw [h2]; exact h.2⟩
  | rank n x => exact ⟨by rw [h1]; exact h.1, h.2⟩
  | turn n x => exact ⟨by rw [h1]; exact h.1, h.2⟩
theorem mem_set {α : Type} {l : List α} {i : Nat} {a x : α} (h : x ∈ l.set i a) : x ∈ l ∨ x = a := List.mem_or_eq_of_mem_set h
theorem set_ok {s : Stand} (hs : s.Ok) {n : Nat} {m : Mover} (hm : MoverOk s.book.length m) : ({ s with movers := s.movers.set n m } : Stand).Ok := by
  obtain ⟨k1, k2, k3, k4, k5, k6, k7, k8, k9⟩ := hs
  refine ⟨k1, k2, k3, k4, k5, ?_, fun q hq => ?_, k8, k9⟩
  · show (s.movers.set n m).length ≤ 12
    rw [List.length_set]
    exact k6
  · rcases mem_set hq with h | h
    · exact k7 q h
    · rw [h]
      exact hm
theorem behind_ok {s : Stand} {d : Deed} (hs : s.Ok) (hd : d.Ok s) : (behind s d).Ok := by
  cases d with
  | shift x y =>
    obtain ⟨k1, k2, k3, k4, k5, k6, k7, k8, k9⟩ := hs
    exact ⟨k1, hd.1, hd.2, k4, k5, k6, k7, k8, k9⟩
  | pot i x =>
    obtain ⟨k1, k2, k3, k4, k5, k6, k7, k8, k9⟩ := hs
    refine ⟨k1, k2, k3, k4, k5, k6, k7, ?_, fun q hq => ?_⟩
    · show (s.pots.set i x).length = 16
      rw [List.length_set]
      exact k8
    · rcases mem_set hq with h | h
      · exact k9 q h
      · rw [h]
        exact hd.2
  | move n x y =>
    obtain ⟨a1, a2, a3, a4, a5, a6, a7⟩ := hs.mv _ (gM_mem hd.1)
    exact set_ok hs ⟨a1, hd.2.1, hd.2.2, a4, a5, a6, a7⟩
  | shape n x =>
    obtain ⟨a1, a2, a3, a4, a5, a6, a7⟩ := hs.mv _ (gM_mem hd.1)
    exact set_ok hs ⟨hd.2, a2, a3, a4, a5, a6, a7⟩
  | rank n x =>
    obtain ⟨a1, a2, a3, a4, a5, a6, a7⟩ := hs.mv _ (gM_mem hd.1)
    exact set_ok hs ⟨a1, a2, a3, hd.2.1, hd.2.2, a6, a7⟩
  | turn n x =>
    obtain ⟨a1, a2, a3, a4, a5, a6, a7⟩ := hs.mv _ (gM_mem hd.1)
    exact set_ok hs ⟨a1, a2, a3, a4, a5, hd.2.1, hd.2.2⟩
/-! ### timed deeds -/
abbrev Timed := List (Int × Deed)
def timedD (l : Timed) : List PyData := l.map fun x => .tuple [.int x.1, x.2.d]
structure TOk (f : Frame) (s : Stand) (l : Timed) : Prop where
  asc : l.Pairwise (fun x y => x.1 ≤ y.1)
  lo : ∀ x ∈ l, 0 ≤ x.1
  hi : ∀ x ∈ l, x.1 < f.ticks
  ok : ∀ x ∈ l, x.2.Ok s
  len : l.length ≤ 100
def after (s : Stand) (l : Timed) : Stand := l.foldl (fun s x => behind s x.2) s
theorem after_ok {s : Stand} : ∀ {l : Timed}, s.Ok → (∀ x ∈ l, x.2.Ok s) → (after s l).Ok ∧ (after s l).movers.length = s.movers.length ∧ (after s l).book = s.book
  | [], hs, _ => ⟨hs, rfl, rfl⟩
  | x :: l, hs, h => by
    obtain ⟨b1, b2⟩ := behind_len s x.2
    obtain ⟨h1, h2, h3⟩ := after_ok (s := behind s x.2) (l := l) (behind_ok hs (h x List.mem_cons_self)) fun y hy => deed_len b1 b2 (h y (List.mem_cons_of_mem _ hy))
    exact ⟨h1, h2.trans b1, h3.trans b2⟩
theorem after_snoc (s : Stand) (l : Timed) (x : Int × Deed) : after s (l ++ [x]) = behind (after s l) x.2 := by
  unfold after
  rw [List.foldl_append]
  rfl
/-- the stand that a tick is laid with -/
def standBy (s : Stand) (l : Timed) (t : Nat) : Stand := after s (l.filter fun x => decide (x.1 ≤ (t : Int)))
/-- how many deeds have been done at a tick -/
structure Cut (l : Timed) (k t : Nat) : Prop where
  le : k ≤ l.length
  lo : ∀ x ∈ l.take k, x.1 ≤ (t : Int)
  hi : ∀ x ∈ l.drop k, (t : Int) < x.1
theorem standBy_cut {s : Stand} {l : Timed} {k t : Nat} (c : Cut l k t) : standBy s l t = after s (l.take k) := by
  unfold standBy
  have e : l.filter (fun x => decide (x.1 ≤ (t : Int))) = l.take k := by
    rw [← List.take_append_drop k l, List.filter_append, List.take_append_drop]
    rw [List.filter_eq_self.mpr fun x hx => decide_eq_true (c.lo x hx), List.filter_eq_nil_iff.mpr fun x hx => by
      have := c.hi x hx
      simp only [decide_eq_true_eq]
      omega]
    rw [List.append_nil]
  rw [e]
/-! ### the picture -/
structure Pic where
  tk : Option Taken
  rows : List (List Int)
def pushLast (rows : List (List Int)) (v : Int) : List (List Int) := rows.dropLast ++ [rows.getLastD [] ++ [v]]
def pic1 (f : Frame) (s : Stand) (p : Pic) (t : Nat) : Pic := if (t : Int) % (f.wide + f.gap) = 0 then ⟨some (taken f s ((t : Int) / (f.wide + f.gap))), p.rows ++ [[]]⟩ else p
def tkOf (p : Pic) : Taken := p.tk.getD ⟨[], []⟩
def pic2 (f : Frame) (s : Stand) (p : Pic) (t : Nat) : Pic := if (t : Int) % (f.wide + f.gap) < f.wide then ⟨p.tk, pushLast p.rows (gI s.pots (inkAt (tkOf p) ((t : Int) % (f.wide + f.gap))))⟩ else p
def stepPic (f : Frame) (s : Stand) (p : Pic) (t : Nat) : Pic := pic2 f s (pic1 f s p t) t
def picTo (f : Frame) (s : Stand) (l : Timed) (n : Nat) : Pic := (List.range n).foldl (fun p t => stepPic f (standBy s l t) p t) ⟨none, []⟩
theorem picTo_succ (f : Frame) (s : Stand) (l : Timed) (n : Nat) : picTo f s l (n + 1) = stepPic f (standBy s l n) (picTo f s l n) n := by
  unfold picTo
  rw [List.range_succ, List.foldl_append]
  rfl
def picOf (f : Frame) (s : Stand) (l : Timed) : List (List Int) := (picTo f s l f.ticks.toNat).rows
structure PicOk (f : Frame) (p : Pic) (t : Nat) : Prop where
  tk : 0 < t → ∃ T, p.tk = some T ∧ TkOk f T ∧ p.rows ≠ []
  len : p.rows.length ≤ t
  wid : ∀ r ∈ p.rows, r.length ≤ t
theorem push_ne (rows : List (List Int)) (v : Int) : pushLast rows v ≠ [] := by
  unfold pushLast
  simp
theorem push_last {rows : List (List Int)} {r : List Int} {v : Int} : pushLast (rows ++ [r]) v = rows ++ [r ++ [v]] := by
  unfold pushLast
  simp
theorem ne_snoc {α : Type} {l : List α} (h : l ≠ []) : ∃ l' x, l = l' ++ [x] := ⟨l.dropLast, l.getLast h, (List.dropLast_concat_getLast h).symm⟩
theorem pic1_ok {f : Frame} {s : Stand} {p : Pic} {t : Nat} (hf : f.Ok) (hs : s.Ok) (h : PicOk f p t) :
    (∃ T, (pic1 f s p t).tk = some T ∧ TkOk f T ∧ (pic1 f s p t).rows ≠ []) ∧ (pic1 f s p t).rows.length ≤ t + 1 ∧ ∀ r ∈ (pic1 f s p t).rows, r.length ≤ t := by
  unfold pic1
  by_cases c : (t : Int) % (f.wide + f.gap) = 0
  · rw [if_pos c]
    refine ⟨⟨_, rfl, tk_ok hf hs _, by simp⟩, ?_, ?_⟩
    · show (p.rows ++ [[]]).length ≤ t + 1
      rw [List.length_append]
      have := h.len
      simp
      omega
    · intro r hr
      rcases List.mem_append.mp hr with q | q
      · exact h.wid r q
      · rw [List.mem_singleton.mp q]
        exact Nat.zero_le _
  · rw [if_neg c]
    have ht : 0 < t := by
      rcases Nat.eq_zero_or_pos t with e | e
      · subst e
        exact absurd (by simp) c
      · exact e
    have := h.len
    exact ⟨h.tk ht, by omega, h.wid⟩
theorem step_ok {f : Frame} {s : Stand} {p : Pic} {t : Nat} (hf : f.Ok) (hs : s.Ok) (h : PicOk f p t) : PicOk f (stepPic f s p t) (t + 1) := by
  obtain ⟨⟨T, h1, h2, h3⟩, h4, h5⟩ := pic1_ok hf hs h
  unfold stepPic pic2
  by_cases c : (t : Int) % (f.wide + f.gap) < f.wide
  · rw [if_pos c]
    obtain ⟨l, r, e⟩ := ne_snoc h3
    rw [e]
    rw [push_last]
    rw [e] at h4 h5
    refine ⟨fun _ => ⟨T, h1, h2, by simp⟩, ?_, ?_⟩
    · show (l ++ [r ++ [_]]).length ≤ t + 1
      rw [List.length_append] at h4 ⊢
      exact h4
    · intro q hq
      rcases List.mem_append.mp hq with z | z
      · have := h5 q (List.mem_append_left _ z)
        omega
      · rw [List.mem_singleton.mp z, List.length_append]
        have := h5 r (List.mem_append_right _ List.mem_cons_self)
        simp
        omega
  · rw [if_neg c]
    exact ⟨fun _ => ⟨T, h1, h2, h3⟩, h4, fun r hr => by have := h5 r hr; omega⟩
theorem pic0_ok (f : Frame) : PicOk f ⟨none, []⟩ 0 := ⟨fun h => by omega, by simp, fun r hr => by cases hr⟩
theorem standBy_ok {s : Stand} {l : Timed} (hs : s.Ok) (h : ∀ x ∈ l, x.2.Ok s) (t : Nat) : (standBy s l t).Ok := (after_ok hs fun x hx => h x (List.mem_filter.mp hx).1).1
theorem picTo_ok {f : Frame} {s : Stand} {l : Timed} (hf : f.Ok) (hs : s.Ok) (h : ∀ x ∈ l, x.2.Ok s) : ∀ n, PicOk f (picTo f s l n) n
  | 0 => pic0_ok f
  | n + 1 => by
    rw [picTo_succ]
    exact step_ok hf (standBy_ok hs h n) (picTo_ok hf hs h n)
end Gw
set_option Elab.async false
set_option linter.all false
set_option maxRecDepth 100000
set_option maxHeartbeats 4000000
/-! Raw steps: what stands in a heap, things of one's own that change, methods. -/
namespace Gw
open PySem PySem.Spec PyProof.Rows L2
theorem same_trans {H H1 H2 : Hp} (a : Same H H1) (b : Same H1 H2) : Same H H2 := fun c o h => b c o (a c o h)
/-- what stands in C0 stays -/
def WC (C0 : Hp) : Wd where
  inv H := Same C0 H
  mt _ := False
  mono a b := same_trans a b
  ne _ h := h.elim
  own := fun {B H p o} iB hB iH b x e => by
    have hb := iB b x e
    rw [upd_ne (ne_of_none hb hB)]
    exact iH b x e
theorem WC.same {C0 H H' : Hp} (r : (WC C0).rel H H') : Same H H' := fun b o h => r.2 b o h fun x => x.elim
def noL (ρ : List Sl) : Bool := ρ.all fun s => match s with
  | .l _ => false
  | _ => true
theorem pr_map {α β : Type} {F G : α → β → Prop} : ∀ {l : List α} {m : List β}, Paired F l m → (∀ a b, b ∈ m → F a b → G a b) → Paired G l m
  | _, _, .nil, _ => .nil
  | _, _, .cons a r, h => .cons (h _ _ List.mem_cons_self a) (pr_map r fun x y hy => h x y (List.mem_cons_of_mem _ hy))
theorem noL_mem {ρ : List Sl} (h : noL ρ = true) {s : Sl} (hs : s ∈ ρ) : ∀ es, s ≠ .l es := by
  unfold noL at h
  have := List.all_eq_true.mp h s hs
  intro es e
  subst e
  cases this
section
variable {W : Wd} {B H H' C0 : Hp} {σ : L2.St} {ρ : List Sl}
/-- the heap of now as what stands -/
theorem At.here (A : At W B H σ ρ) (hn : noL ρ = true) : At (WC H) H H σ ρ := ⟨fun _ _ h => h, Wd.refl _ _, pr_map A.e fun a b hb f => by
  cases b with
  | no => trivial
  | d x => exact f
  | v x => exact f
  | l es => exact absurd rfl (noL_mem hn hb es)⟩
theorem At.after (A : At W0 B H σ ρ) (hn : noL ρ = true) (s : Same B H') (tk : ∀ a xs, H a = some (.tup xs) → H' a = some (.tup xs)) : At W0 B H' σ ρ := ⟨trivial, Wd.same s, pr_map A.e fun a b hb f => by
  cases b with
  | no => trivial
  | d x =>
    obtain ⟨v, e, t⟩ := f
    exact ⟨v, e, t.mono tk⟩
  | v x => exact f
  | l es => exact absurd rfl (noL_mem hn hb es)⟩
theorem At.sm (A : At W0 B H σ ρ) (s : Same H H') : At W0 B H' σ ρ := A.mono (Wd.same s)
theorem At.sB (A : At W0 B H σ ρ) : Same B H := Wd.to_same A.r
theorem At.vv (A : At W B H σ ρ) {i : Nat} {x : V} (h : ρ[i]? = some (.v x)) : σ[i]? = some (some x) := by
  obtain ⟨o, e, f⟩ := A.get h
  rw [e]
  exact congrArg some f
theorem At.setV (A : At W B H σ ρ) (x : V) (i : Nat) : At W B H (σ.set i (some x)) (ρ.set i (.v x)) := A.set (s := .v x) rfl i
theorem At.setN (A : At W B H σ ρ) (o : Option V) (i : Nat) : At W B H (σ.set i o) (ρ.set i .no) := A.set (s := .no) trivial i
theorem upd_same_of {a : Addr} {o : HO} (h : B a = none) (s : Same B H) : Same B (upd H a o) := fun b x e => by
  rw [upd_ne (ne_of_none e h)]
  exact s b x e
theorem tup_upd' {a : Addr} {o o0 : HO} (e : H a = some o0) (h : ∀ xs, o0 ≠ .tup xs) : ∀ b xs, H b = some (.tup xs) → upd H a o b = some (.tup xs) := fun b xs q => by
  rw [upd_ne (ne_of q e fun z => h xs z.symm)]
  exact q
/-- something of one's own changes -/
theorem At.upd (A : At W0 B H σ ρ) (hn : noL ρ = true) {a : Addr} {o o0 : HO} (hb : B a = none) (e : H a = some o0) (h : ∀ xs, o0 ≠ .tup xs) : At W0 B (L2.upd H a o) σ ρ := A.after hn (upd_same_of hb A.sB) (tup_upd' e h)
/-- an attribute, known -/
theorem ee_fld {K : PySem.W.Frag} {C b dx : Addr} {fs : List (Str × V)} {f : Str} {v : V} {d : PyData} {i : Nat} (h : ρ[i]? = some (.v (.ref b))) (e : C0 b = some (.ins C dx fs)) (c : Cls K C) (n : NoAttr K C f) (l : fs.lookup f = some v) (t : Tp C0 v d) :
    Ee (WC C0) (tFld K (tVar i) f) ρ d := fun B σ H Q A k => by
  have s : Same C0 H := A.i
  exact ⟨_, A.vv h, b, C, dx, fs, v, rfl, s _ _ e, c, n, l, k v H d (Wd.refl _ _) (t.mono fun a xs q => s _ _ q) rfl⟩
theorem eq_fld {K : PySem.W.Frag} {C b dx l : Addr} {fs : List (Str × V)} {f : Str} {vs : List V} {ds : List PyData} {i : Nat} (h : ρ[i]? = some (.v (.ref b))) (e : C0 b = some (.ins C dx fs)) (c : Cls K C) (n : NoAttr K C f) (lk : fs.lookup f = some (.ref l))
    (el : C0 l = some (.lst vs)) (t : TpA C0 vs ds) : Eq_ (WC C0) (tFld K (tVar i) f) ρ (fun x => x = ds) := fun B σ H Q A k => by
  have s : Same C0 H := A.i
  exact ⟨_, A.vv h, b, C, dx, fs, .ref l, rfl, s _ _ e, c, n, lk, k l vs ds H (Wd.refl _ _) (fun z => z) (s _ _ el) (t.mono fun a xs q => s _ _ q) rfl⟩
/-- a list that stands -/
theorem eq_raw {l : Addr} {vs : List V} {ds : List PyData} {i : Nat} (h : ρ[i]? = some (.v (.ref l))) (el : C0 l = some (.lst vs)) (t : TpA C0 vs ds) : Eq_ (WC C0) (tVar i) ρ (fun x => x = ds) := fun B σ H Q A k => by
  have s : Same C0 H := A.i
  exact ⟨_, A.vv h, k l vs ds H (Wd.refl _ _) (fun z => z) (s _ _ el) (t.mono fun a xs q => s _ _ q) rfl⟩
end
/-! ### promises told raw -/
section
variable {P : Program} {w : World} {K : PySem.W.Frag} {mg : Str → Option Value} {base : Heap} {x m qual : Str} {st : Stmt} {N ps : List Str} {k n : Nat} {sp : Sp} {C : Addr}
abbrev BindOkM (m qual : Str) (st : Stmt) (ps : List Str) : Prop := ∀ (kV doc pm : Value) (an : Option Addr) (cdv ct : Value) (us : List Value), us.length = ps.length → bindArgs (PySem.W.fnOf m qual (defArgs st) (defBody st) (defScope st) .none kV doc pm an cdv ct) ⟨us, []⟩ = pure (ps.zip us)
theorem mkR (d : Df K mg x st) (b : BindOk x st ps) (S : FnScope N ps (defScope st)) (hl : ∀ vs H Q E, sp vs H Q E → vs.length = ps.length)
    (h : ∀ (f : Addr) (cdv : Value) (A : Around) (outer : List Env) (s : Shared) (H : Hp) (E : XK), Room k (A.deeper (envOfC x (defScope st) s.heap.objs.size f cdv)) →
      ∃ t, PSs (cxOf CX0 P w K mg base N x (defScope st) f cdv A outer s H E).nox (defBody st) t ∧ ∀ vs Q, sp vs H Q E → t { nx := fun _ H' => Q .non H', rt := Q } (L2.start N vs) H) : Cal P w K mg base (k + 1) x sp := by
  obtain ⟨f, fd, Fd, hm⟩ := d.ex
  refine ⟨f, fd, ps, Fd.ok S hl (fun cdv A outer s H vs Q E hr q => ?_), hm, Fd.kp, Fd.bindsN b⟩
  obtain ⟨t, ht, hs⟩ := h f cdv A outer s H E hr
  exact ⟨t, ht.nox, hs vs Q q⟩
/-- a method that may be called -/
structure Met (P : Program) (w : World) (K : PySem.W.Frag) (mg : Str → Option Value) (base : Heap) (C : Addr) (k : Nat) (m : Str) (sp : Sp) : Prop where
  ex : ∃ (f : Addr) (fd : FuncData) (ps : List Str), FnOk P w K mg base CX0 k f fd ps sp ∧ Meth K C m f ∧ Binds K fd ps []
  cl : Cls K C
theorem mkMet (d : Dm K C m qual st) (c : Cls K C) (b : BindOkM m qual st ps) (S : FnScope N ps (defScope st)) (hl : ∀ vs H Q E, sp vs H Q E → vs.length = ps.length)
    (h : ∀ (f : Addr) (cdv : Value) (A : Around) (outer : List Env) (s : Shared) (H : Hp) (E : XK), Room k (A.deeper (envOfC qual (defScope st) s.heap.objs.size f cdv)) →
      ∃ t, PSs (cxOf CX0 P w K mg base N qual (defScope st) f cdv A outer s H E).nox (defBody st) t ∧ ∀ vs Q, sp vs H Q E → t { nx := fun _ H' => Q .non H', rt := Q } (L2.start N vs) H) : Met P w K mg base C (k + 1) m sp := by
  obtain ⟨f, fd, Fd, hm⟩ := d.ex
  refine ⟨⟨f, fd, ps, Fd.ok S hl (fun cdv A outer s H vs Q E hr q => ?_), hm, Fd.bindsN b⟩, c⟩
  obtain ⟨t, ht, hs⟩ := h f cdv A outer s H E hr
  exact ⟨t, ht.nox, hs vs Q q⟩
theorem pe_mB {X : Cx} {j : Nat} {apos pos : Pos} {o e : Expr} {es : List Expr} {ta : TE} {t : TA} {pl : Sem Bool} (c : Met X.prog X.w X.K X.mg X.base C k m sp) (hr : Room j X.A) (hk : k ≤ j) (ho : PE X o ta) (ha : PA X (e :: es) t)
    (hst : starEach (e :: es) X.env = (false, eval e X.env) :: starEach es X.env := by rfl) (hpl : (backTo pos (starEach es X.env)).any (·.1) = false := by rfl)
    (ht : eval (.Call (.Attribute o m apos) (e :: es) [] pos) X.env = (do
      let ov ← eval o X.env
      standAt apos.atName
      let (f, first) ← holding [ov] (getMethod ov m pl)
      callWith pos f first (backTo pos (starEach (e :: es) X.env)) (backToKw pos (keywordEach [] X.env))) := by rfl) :
    PE X (.Call (.Attribute o m apos) (e :: es) [] pos) (tMeth C m sp [] E0 ta t) := by
  obtain ⟨⟨f, fd, ps, F, hm, b⟩, cl⟩ := c
  exact pe_meth ho cl hm F (hr.mono hk) b .nil pass0 ha hst hpl ht
theorem pe_mB0 {X : Cx} {j : Nat} {apos pos : Pos} {o : Expr} {ta : TE} {pl : Sem Bool} (c : Met X.prog X.w X.K X.mg X.base C k m sp) (hr : Room j X.A) (hk : k ≤ j) (ho : PE X o ta)
    (ht : eval (.Call (.Attribute o m apos) [] [] pos) X.env = (do
      let ov ← eval o X.env
      standAt apos.atName
      let (f, first) ← holding [ov] (getMethod ov m pl)
      callWith pos f first (backTo pos (starEach [] X.env)) (backToKw pos (keywordEach [] X.env))) := by rfl) :
    PE X (.Call (.Attribute o m apos) [] [] pos) (tMeth C m sp [] E0 ta tNil) := by
  obtain ⟨⟨f, fd, ps, F, hm, b⟩, cl⟩ := c
  exact pe_meth0 ho cl hm F (hr.mono hk) b .nil pass0 ht
/-- a class that may be called -/
structure Mak (P : Program) (w : World) (K : PySem.W.Frag) (mg : Str → Option Value) (base : Heap) (C : Addr) (k : Nat) (x : Str) (sp : Sp) : Prop where
  ex : ∃ (f : Addr) (fd : FuncData) (ps : List Str), FnOk P w K mg base CX0 k f fd ps sp ∧ Mk K C f ∧ Binds K fd ps []
  gl : mg x = some (.ref C)
theorem pe_mkB {X : Cx} {j : Nat} {p pos : Pos} {e : Expr} {es : List Expr} {t : TA} (c : Mak X.prog X.w X.K X.mg X.base C k x sp) (hr : Room j X.A) (hk : k + 1 ≤ j) (hg : L2.Gl X x) (ha : PA X (e :: es) t) (hdb : (x == ("__debug__" : Str)) = false := by decide)
    (he : starEach (e :: es) X.env = (false, eval e X.env) :: starEach es X.env := by rfl) (hpl : (backTo pos (starEach es X.env)).any (·.1) = false := by rfl) : PE X (.Call (.Name x p) (e :: es) [] pos) (tMake C sp [] E0 t) := by
  obtain ⟨⟨f, fd, ps, F, M, b⟩, gl⟩ := c
  exact pe_make M F (hr.mono hk) hg gl b .nil pass0 ha hdb he hpl
theorem mkMak {f : Addr} {fd : FuncData} (Fd : FnP K m qual st f fd) (M : Mk K C f) (gl : mg x = some (.ref C)) (b : BindOkM m qual st ps) (S : FnScope N ps (defScope st)) (hl : ∀ vs H Q E, sp vs H Q E → vs.length = ps.length)
    (h : ∀ (f : Addr) (cdv : Value) (A : Around) (outer : List Env) (s : Shared) (H : Hp) (E : XK), Room k (A.deeper (envOfC qual (defScope st) s.heap.objs.size f cdv)) →
      ∃ t, PSs (cxOf CX0 P w K mg base N qual (defScope st) f cdv A outer s H E).nox (defBody st) t ∧ ∀ vs Q, sp vs H Q E → t { nx := fun _ H' => Q .non H', rt := Q } (L2.start N vs) H) : Mak P w K mg base C (k + 1) x sp := by
  refine ⟨⟨f, fd, ps, Fd.ok S hl (fun cdv A outer s H vs Q E hr q => ?_), M, Fd.bindsN b⟩, gl⟩
  obtain ⟨t, ht, hs⟩ := h f cdv A outer s H E hr
  exact ⟨t, ht.nox, hs vs Q q⟩
end
/-! ### the rows that are laid, two dicts, a list -/
structure Objs (B H : Hp) (X : List Addr) (R D1 D2 L : Addr) (rws : List Addr) (rows : List (List Int)) (n : Nat) : Prop where
  r : H R = some (.lst (rws.map V.ref))
  rs : Paired (fun (a : Addr) (row : List Int) => H a = some (.lst (row.map V.int))) rws rows
  d1 : ∃ kvs, H D1 = some (.dT kvs) ∧ kvs.length ≤ n
  d2 : ∃ kvs, H D2 = some (.dK kvs) ∧ kvs.length ≤ n
  l : ∃ xs, H L = some (.lst xs) ∧ xs.length ≤ n
  nd : (X ++ R :: L :: rws).Nodup
  bR : B R = none
  b1 : B D1 = none
  b2 : B D2 = none
  bL : B L = none
  brs : ∀ a ∈ rws, B a = none
section
variable {B H H' : Hp} {X : List Addr} {R D1 D2 L : Addr} {rws : List Addr} {rows : List (List Int)} {n k : Nat}
theorem pr_mono {α β : Type} {F G : α → β → Prop} : ∀ {l : List α} {m : List β}, Paired F l m → (∀ a ∈ l, ∀ b, F a b → G a b) → Paired G l m
  | _, _, .nil, _ => .nil
  | _, _, .cons a r, h => .cons (h _ List.mem_cons_self _ a) (pr_mono r fun x hx => h x (List.mem_cons_of_mem _ hx))
theorem pr_len {α β : Type} {F : α → β → Prop} : ∀ {l : List α} {m : List β}, Paired F l m → l.length = m.length
  | _, _, .nil => rfl
  | _, _, .cons _ r => congrArg Nat.succ (pr_len r)
theorem pr_getL {α β : Type} {F : α → β → Prop} : ∀ {l : List α} {m : List β} {i : Nat} {a : α}, Paired F l m → l[i]? = some a → ∃ b, m[i]? = some b ∧ F a b
  | _, _, _, _, .nil, h => by simp at h
  | _, _, 0, _, .cons a r, h => by
    simp at h
    subst h
    exact ⟨_, rfl, a⟩
  | _, _, i + 1, d, .cons a r, h => by
    obtain ⟨v, e, t⟩ := pr_getL (i := i) (a := d) r (by simpa using h)
    exact ⟨v, by simpa using e, t⟩
theorem Objs.mono (o : Objs B H X R D1 D2 L rws rows n) (s : Same H H') : Objs B H' X R D1 D2 L rws rows n := by
  obtain ⟨r, rs, ⟨k1, e1, l1⟩, ⟨k2, e2, l2⟩, ⟨xs, e3, l3⟩, nd, bR, b1, b2, bL, brs⟩ := o
  exact ⟨s _ _ r, pr_mono rs fun a _ b h => s _ _ h, ⟨k1, s _ _ e1, l1⟩, ⟨k2, s _ _ e2, l2⟩, ⟨xs, s _ _ e3, l3⟩, nd, bR, b1, b2, bL, brs⟩
theorem Objs.more (o : Objs B H X R D1 D2 L rws rows n) (h : n ≤ k) : Objs B H X R D1 D2 L rws rows k := by
  obtain ⟨r, rs, ⟨k1, e1, l1⟩, ⟨k2, e2, l2⟩, ⟨xs, e3, l3⟩, nd, bR, b1, b2, bL, brs⟩ := o
  exact ⟨r, rs, ⟨k1, e1, by omega⟩, ⟨k2, e2, by omega⟩, ⟨xs, e3, by omega⟩, nd, bR, b1, b2, bL, brs⟩
theorem Objs.base {B' : Hp} (o : Objs B H X R D1 D2 L rws rows n) (h : ∀ a, B a = none → (∀ xs, H a ≠ some (.tup xs)) → B' a = none) : Objs B' H X R D1 D2 L rws rows n := by
  obtain ⟨r, rs, ⟨k1, e1, l1⟩, ⟨k2, e2, l2⟩, ⟨xs, e3, l3⟩, nd, bR, b1, b2, bL, brs⟩ := o
  refine ⟨r, rs, ⟨k1, e1, l1⟩, ⟨k2, e2, l2⟩, ⟨xs, e3, l3⟩, nd, h _ bR fun xs => by rw [r]; simp, h _ b1 fun xs => by rw [e1]; simp, h _ b2 fun xs => by rw [e2]; simp, h _ bL fun xs => by rw [e3]; simp, fun a ha => h a (brs a ha) fun xs => ?_⟩
  obtain ⟨i, hi, rfl⟩ := List.getElem_of_mem ha
  obtain ⟨row, e, q⟩ := pr_getL (i := i) rs (List.getElem?_eq_getElem hi)
  rw [q]
  simp
/-- anything else may change -/
theorem Objs.keep (o : Objs B H X R D1 D2 L rws rows n) {a : Addr} {u : HO} (h1 : a ≠ R) (h2 : a ≠ D1) (h3 : a ≠ D2) (h4 : a ≠ L) (h5 : a ∉ rws) : Objs B (upd H a u) X R D1 D2 L rws rows n := by
  obtain ⟨r, rs, ⟨k1, e1, l1⟩, ⟨k2, e2, l2⟩, ⟨xs, e3, l3⟩, nd, bR, b1, b2, bL, brs⟩ := o
  refine ⟨by rw [upd_ne (Ne.symm h1)]; exact r, pr_mono rs fun b hb row e => ?_, ⟨k1, by rw [upd_ne (Ne.symm h2)]; exact e1, l1⟩, ⟨k2, by rw [upd_ne (Ne.symm h3)]; exact e2, l2⟩, ⟨xs, by rw [upd_ne (Ne.symm h4)]; exact e3, l3⟩, nd, bR, b1, b2, bL, brs⟩
  rw [upd_ne fun z => h5 (by rw [← z]; exact hb)]
  exact e
theorem Objs.rowAt (o : Objs B H X R D1 D2 L rws rows n) {a : Addr} (h : a ∈ rws) : ∃ row : List Int, H a = some (.lst (row.map V.int)) := by
  obtain ⟨i, hi, rfl⟩ := List.getElem_of_mem h
  obtain ⟨row, e, q⟩ := pr_getL (i := i) o.rs (List.getElem?_eq_getElem hi)
  exact ⟨row, q⟩
/-- what is no list -/
theorem Objs.ins (o : Objs B H X R D1 D2 L rws rows n) {a C dx : Addr} {fs : List (Str × V)} {u : HO} (h : H a = some (.ins C dx fs)) : Objs B (upd H a u) X R D1 D2 L rws rows n := by
  obtain ⟨k1, e1, l1⟩ := o.d1
  obtain ⟨k2, e2, l2⟩ := o.d2
  obtain ⟨xs, e3, l3⟩ := o.l
  refine o.keep (ne_of h o.r (by simp)) (ne_of h e1 (by simp)) (ne_of h e2 (by simp)) (ne_of h e3 (by simp)) fun z => ?_
  obtain ⟨row, e⟩ := o.rowAt z
  rw [h] at e
  cases e
theorem Objs.setD1 (o : Objs B H X R D1 D2 L rws rows n) {kvs : List (List Key × V)} (h : kvs.length ≤ n) : Objs B (upd H D1 (.dT kvs)) X R D1 D2 L rws rows n := by
  obtain ⟨k1, e1, l1⟩ := o.d1
  obtain ⟨k2, e2, l2⟩ := o.d2
  obtain ⟨xs, e3, l3⟩ := o.l
  obtain ⟨r, rs, _, _, _, nd, bR, b1, b2, bL, brs⟩ := o
  refine ⟨by rw [upd_ne (ne_of r e1 (by simp))]; exact r, pr_mono rs fun b hb row e => ?_, ⟨kvs, upd_same, h⟩, ⟨k2, by rw [upd_ne (ne_of e2 e1 (by simp))]; exact e2, l2⟩, ⟨xs, by rw [upd_ne (ne_of e3 e1 (by simp))]; exact e3, l3⟩, nd, bR, b1, b2, bL, brs⟩
  rw [upd_ne (ne_of e e1 (by simp))]
  exact e
theorem Objs.setD2 (o : Objs B H X R D1 D2 L rws rows n) {kvs : List (Key × V)} (h : kvs.length ≤ n) : Objs B (upd H D2 (.dK kvs)) X R D1 D2 L rws rows n := by
  obtain ⟨k1, e1, l1⟩ := o.d1
  obtain ⟨k2, e2, l2⟩ := o.d2
  obtain ⟨xs, e3, l3⟩ := o.l
  obtain ⟨r, rs, _, _, _, nd, bR, b1, b2, bL, brs⟩ := o
  refine ⟨by rw [upd_ne (ne_of r e2 (by simp))]; exact r, pr_mono rs fun b hb row e => ?_, ⟨k1, by rw [upd_ne (ne_of e1 e2 (by simp))]; exact e1, l1⟩, ⟨kvs, upd_same, h⟩, ⟨xs, by rw [upd_ne (ne_of e3 e2 (by simp))]; exact e3, l3⟩, nd, bR, b1, b2, bL, brs⟩
  rw [upd_ne (ne_of e e2 (by simp))]
  exact e
theorem Objs.ndR (o : Objs B H X R D1 D2 L rws rows n) : R ≠ L ∧ R ∉ rws ∧ L ∉ rws ∧ rws.Nodup ∧ ∀ a ∈ X, a ≠ R ∧ a ≠ L ∧ a ∉ rws := by
  have h := o.nd
  rw [List.nodup_append] at h
  obtain ⟨h1, h2, h3⟩ := h
  rw [List.nodup_cons, List.nodup_cons] at h2
  obtain ⟨h4, h5, h6⟩ := h2
  refine ⟨fun z => h4 (by rw [z]; exact List.mem_cons_self), fun z => h4 (List.mem_cons_of_mem _ z), h5, h6, fun a ha => ⟨h3 a ha R List.mem_cons_self, h3 a ha L (List.mem_cons_of_mem _ List.mem_cons_self), fun z => h3 a ha a (List.mem_cons_of_mem _ (List.mem_cons_of_mem _ z)) rfl⟩⟩
theorem Objs.setL (o : Objs B H X R D1 D2 L rws rows n) {zs : List V} (h : zs.length ≤ n) : Objs B (upd H L (.lst zs)) X R D1 D2 L rws rows n := by
  obtain ⟨h1, h2, h3, h4, h5⟩ := o.ndR
  obtain ⟨k1, e1, l1⟩ := o.d1
  obtain ⟨k2, e2, l2⟩ := o.d2
  obtain ⟨xs, e3, l3⟩ := o.l
  obtain ⟨r, rs, _, _, _, nd, bR, b1, b2, bL, brs⟩ := o
  refine ⟨by rw [upd_ne h1]; exact r, pr_mono rs fun b hb row e => ?_, ⟨k1, by rw [upd_ne (ne_of e1 e3 (by simp))]; exact e1, l1⟩, ⟨k2, by rw [upd_ne (ne_of e2 e3 (by simp))]; exact e2, l2⟩, ⟨zs, upd_same, h⟩, nd, bR, b1, b2, bL, brs⟩
  rw [upd_ne fun z => h3 (by rw [← z]; exact hb)]
  exact e
/-- another list takes the place of the last -/
theorem Objs.newL (o : Objs B H X R D1 D2 L rws rows n) {L' : Addr} {zs : List V} (e : H L' = some (.lst zs)) (h : zs.length ≤ n) (hb : B L' = none) (hn : L' ≠ R ∧ L' ∉ rws ∧ L' ∉ X) : Objs B H X R D1 D2 L' rws rows n := by
  obtain ⟨h1, h2, h3, h4, h5⟩ := o.ndR
  have hX := o.nd
  rw [List.nodup_append] at hX
  refine ⟨o.r, o.rs, o.d1, o.d2, ⟨zs, e, h⟩, ?_, o.bR, o.b1, o.b2, hb, o.brs⟩
  rw [List.nodup_append]
  refine ⟨hX.1, ?_, fun a ha b hb' => ?_⟩
  · rw [List.nodup_cons, List.nodup_cons]
    refine ⟨fun z => ?_, hn.2.1, h4⟩
    rcases List.mem_cons.mp z with q | q
    · exact hn.1 q.symm
    · exact h2 q
  · rcases List.mem_cons.mp hb' with q | q
    · rw [q]
      exact (h5 a ha).1
    · rcases List.mem_cons.mp q with q | q
      · rw [q]
        intro z
        rw [z] at ha
        exact hn.2.2 ha
      · intro z
        rw [← z] at q
        exact (h5 a ha).2.2 q
/-- a new row, empty -/
theorem Objs.newRow (o : Objs B H X R D1 D2 L rws rows n) {a : Addr} (ha : H a = some (.lst [])) (hb : B a = none) (hn : a ≠ R ∧ a ≠ L ∧ a ∉ rws ∧ a ∉ X) : Objs B (upd H R (.lst (rws.map V.ref ++ [.ref a]))) X R D1 D2 L (rws ++ [a]) (rows ++ [[]]) n := by
  obtain ⟨h1, h2, h3, h4, h5⟩ := o.ndR
  have hX := o.nd
  obtain ⟨k1, e1, l1⟩ := o.d1
  obtain ⟨k2, e2, l2⟩ := o.d2
  obtain ⟨xs, e3, l3⟩ := o.l
  obtain ⟨r, rs, _, _, _, nd, bR, b1, b2, bL, brs⟩ := o
  refine ⟨by rw [upd_same, List.map_append]; rfl, ?_, ⟨k1, by rw [upd_ne (ne_of e1 r (by simp))]; exact e1, l1⟩, ⟨k2, by rw [upd_ne (ne_of e2 r (by simp))]; exact e2, l2⟩, ⟨xs, by rw [upd_ne (Ne.symm h1)]; exact e3, l3⟩, ?_, bR, b1, b2, bL, fun c hc => ?_⟩
  · refine Paired.snoc (pr_mono rs fun b hb row e => ?_) ?_
    · rw [upd_ne fun z => h2 (by rw [← z]; exact hb)]
      exact e
    · rw [upd_ne hn.1]
      exact ha
  · rw [show X ++ R :: L :: (rws ++ [a]) = (X ++ R :: L :: rws) ++ [a] by simp, List.nodup_append]
    refine ⟨hX, List.nodup_cons.mpr ⟨by simp, List.nodup_nil⟩, fun c hc d hd => ?_⟩
    rw [List.mem_singleton.mp hd]
    intro z
    subst z
    rcases List.mem_append.mp hc with q | q
    · exact hn.2.2.2 q
    · rcases List.mem_cons.mp q with q | q
      · exact hn.1 q
      · rcases List.mem_cons.mp q with q | q
        · exact hn.2.1 q
        · exact hn.2.2.1 q
  · rcases List.mem_append.mp hc with q | q
    · exact brs c q
    · rw [List.mem_singleton.mp q]
      exact hb
theorem pr_snoc {α β : Type} {F : α → β → Prop} : ∀ {l : List α} {m : List β} {b : β}, Paired F l (m ++ [b]) → ∃ l' a, l = l' ++ [a] ∧ Paired F l' m ∧ F a b
  | _, [], b, .cons h .nil => ⟨[], _, rfl, .nil, h⟩
  | _, c :: m, b, .cons h r => by
    obtain ⟨l', a, e, p, q⟩ := pr_snoc (m := m) r
    exact ⟨_ :: l', a, by rw [e]; rfl, .cons h p, q⟩
/-- one more ink in the last row -/
theorem Objs.push {rows' : List (List Int)} {row : List Int} {v : Int} (o : Objs B H X R D1 D2 L rws (rows' ++ [row]) n) : ∃ rws' a, rws = rws' ++ [a] ∧ H a = some (.lst (row.map V.int)) ∧ B a = none ∧ Objs B (upd H a (.lst (row.map V.int ++ [.int v]))) X R D1 D2 L rws (rows' ++ [row ++ [v]]) n := by
  obtain ⟨h1, h2, h3, h4, h5⟩ := o.ndR
  obtain ⟨k1, e1, l1⟩ := o.d1
  obtain ⟨k2, e2, l2⟩ := o.d2
  obtain ⟨xs, e3, l3⟩ := o.l
  obtain ⟨rws', a, rfl, p, q⟩ := pr_snoc o.rs
  obtain ⟨r, rs, _, _, _, nd, bR, b1, b2, bL, brs⟩ := o
  have ma : a ∈ rws' ++ [a] := List.mem_append_right _ List.mem_cons_self
  refine ⟨rws', a, rfl, q, brs a ma, by rw [upd_ne fun z => h2 (by rw [z]; exact ma)]; exact r, ?_, ⟨k1, by rw [upd_ne (ne_of e1 q (by simp))]; exact e1, l1⟩, ⟨k2, by rw [upd_ne (ne_of e2 q (by simp))]; exact e2, l2⟩, ⟨xs, by rw [upd_ne fun z => h3 (by rw [z]; exact ma)]; exact e3, l3⟩, nd, bR, b1, b2, bL, brs⟩
  refine Paired.snoc (pr_mono p fun b hb row e => ?_) ?_
  · rw [List.nodup_append] at h4
    rw [upd_ne fun z => h4.2.2 b hb a List.mem_cons_self z]
    exact e
  · rw [upd_same, List.map_append]
    rfl
end
end Gw
set_option Elab.async false
set_option linter.all false
set_option maxRecDepth 100000
set_option maxHeartbeats 4000000
namespace Gw
open PySem PySem.Spec PyProof.Rows L2
/- one step of the evaluation; walk_at "ev": to its end -/
local macro_rules | `(tactic| walk_at "ev1") => `(tactic| first
  | exact ee_int | exact ee_bl | exact ee_str | exact ee_non | exact ee_var rfl | exact eo_none | exact ea_nil
  | refine' ea_cons ?_ ?_ | refine' ee_II ?_ ?_ | refine' ee_IB ?_ ?_ | refine' ee_UI ?_ | refine' ee_IC ?_ ?_ ?_
  | refine' et_test ?_ | refine' et_B ?_ | refine' et_not ?_ | refine' et_and ?_ (fun _ => ?_) | refine' et_or ?_ (fun _ => ?_)
  | refine' ee_andV ?_ (fun _ => ?_) | refine' ee_orV ?_ (fun _ => ?_) | refine' ee_notV ?_
  | refine' ee_isN ?_ | refine' ee_notN ?_ | refine' ee_eqD ?_ ?_ ?_ | refine' ee_neD ?_ ?_ ?_
  | refine' ee_ixT ?_ ?_ ?_ | refine' ee_lenT ?_ | refine' ee_isi ?_ ?_ | refine' ee_tup ?_ ?_ | refine' eo_some ?_ | refine' ee_slT ?_ ?_ ?_
  | exact ki_ii | exact ki_ib | exact ki_tt | exact ki_ss | (show atI _ _ = some _; first | rfl | assumption) | (show scalD _ _ = true; rfl) | exact Nat.le_of_ble_eq_true rfl)
local macro_rules | `(tactic| walk_at "ev") => `(tactic| repeat' walk_at "ev1")
def optD : Option Taken → PyData
  | none => .none
  | some t => t.d
def bmF (vf vs : V) (g : Int) (vt : V) (R D1 D2 L : Addr) : List (Str × V) := [("frame", vf), ("now", vs), ("gone", .int g), ("row_taken", vt), ("laid_rows", .ref R), ("met", .ref D1), ("grounded", .ref D2), ("lost_ones", .ref L)]
section
variable {vf vs vt y : V} {g g' : Int} {R D1 D2 L : Addr}
theorem lk_frame : List.lookup ("frame" : Str) (bmF vf vs g vt R D1 D2 L) = some vf := rfl
theorem lk_now : List.lookup ("now" : Str) (bmF vf vs g vt R D1 D2 L) = some vs := rfl
theorem lk_gone : List.lookup ("gone" : Str) (bmF vf vs g vt R D1 D2 L) = some (.int g) := rfl
theorem lk_taken : List.lookup ("row_taken" : Str) (bmF vf vs g vt R D1 D2 L) = some vt := rfl
theorem lk_rows : List.lookup ("laid_rows" : Str) (bmF vf vs g vt R D1 D2 L) = some (.ref R) := rfl
theorem lk_met : List.lookup ("met" : Str) (bmF vf vs g vt R D1 D2 L) = some (.ref D1) := rfl
theorem lk_grounded : List.lookup ("grounded" : Str) (bmF vf vs g vt R D1 D2 L) = some (.ref D2) := rfl
theorem lk_lost : List.lookup ("lost_ones" : Str) (bmF vf vs g vt R D1 D2 L) = some (.ref L) := rfl
theorem no_tick : List.lookup ("tick" : Str) (bmF vf vs g vt R D1 D2 L) = none := rfl
theorem no_over : List.lookup ("is_over" : Str) (bmF vf vs g vt R D1 D2 L) = none := rfl
theorem no_deed : List.lookup ("deed" : Str) (bmF vf vs g vt R D1 D2 L) = none := rfl
theorem no_go : List.lookup ("go" : Str) (bmF vf vs g vt R D1 D2 L) = none := rfl
theorem no_one : List.lookup ("one_tick" : Str) (bmF vf vs g vt R D1 D2 L) = none := rfl
theorem no_note : List.lookup ("note_touches" : Str) (bmF vf vs g vt R D1 D2 L) = none := rfl
theorem no_pic : List.lookup ("picture" : Str) (bmF vf vs g vt R D1 D2 L) = none := rfl
theorem put_now : putF "now" y (bmF vf vs g vt R D1 D2 L) = bmF vf y g vt R D1 D2 L := rfl
theorem put_taken : putF "row_taken" y (bmF vf vs g vt R D1 D2 L) = bmF vf vs g y R D1 D2 L := rfl
theorem put_gone : putF "gone" (.int g') (bmF vf vs g vt R D1 D2 L) = bmF vf vs g' vt R D1 D2 L := rfl
theorem len_bm : (bmF vf vs g vt R D1 D2 L).length < 1000 := by
  show 8 < 1000
  decide
end
structure BeamX (C : Addr) (B H : Hp) (b dx : Addr) (vf vs : V) (g : Int) (vt : V) (R D1 D2 L : Addr) (rws : List Addr) (rows : List (List Int)) (n : Nat) : Prop where
  i : H b = some (.ins C dx (bmF vf vs g vt R D1 D2 L))
  bb : B b = none
  o : Objs B H [] R D1 D2 L rws rows n
def BeamIn (C : Addr) (B H : Hp) (b : Addr) (f : Frame) (s : Stand) (g : Nat) (p : Pic) (n : Nat) : Prop :=
  ∃ dx vf vs vt R D1 D2 L rws, BeamX C B H b dx vf vs (g : Int) vt R D1 D2 L rws p.rows n ∧ Tp H vf f.d ∧ Tp H vs s.d ∧ Tp H vt (optD p.tk)
section
variable {C : Addr} {B B' H H' : Hp} {b dx : Addr} {vf vs : V} {g : Int} {vt : V} {R D1 D2 L : Addr} {rws : List Addr} {rows : List (List Int)} {n : Nat} {f : Frame} {s : Stand} {k : Nat} {p : Pic}
theorem BeamX.mono (h : BeamX C B H b dx vf vs g vt R D1 D2 L rws rows n) (s : Same H H') : BeamX C B H' b dx vf vs g vt R D1 D2 L rws rows n := ⟨s _ _ h.i, h.bb, h.o.mono s⟩
theorem BeamX.setI (h : BeamX C B H b dx vf vs g vt R D1 D2 L rws rows n) {vf' vs' vt' : V} {g' : Int} : BeamX C B (upd H b (.ins C dx (bmF vf' vs' g' vt' R D1 D2 L))) b dx vf' vs' g' vt' R D1 D2 L rws rows n := ⟨upd_same, h.bb, h.o.ins h.i⟩
theorem same_tup (s : Same H H') : ∀ a xs, H a = some (.tup xs) → H' a = some (.tup xs) := fun a xs e => s _ _ e
theorem BeamIn.mono (h : BeamIn C B H b f s k p n) (sm : Same H H') : BeamIn C B H' b f s k p n := by
  obtain ⟨dx, vf, vs, vt, R, D1, D2, L, rws, x, t1, t2, t3⟩ := h
  exact ⟨dx, vf, vs, vt, R, D1, D2, L, rws, x.mono sm, t1.mono (same_tup sm), t2.mono (same_tup sm), t3.mono (same_tup sm)⟩
theorem Objs.down {X : List Addr} (o : Objs B H X R D1 D2 L rws rows n) (h : Same B' B) : Objs B' H X R D1 D2 L rws rows n := o.base fun a e _ => by
  cases q : B' a with
  | none => rfl
  | some z =>
    rw [h _ _ q] at e
    cases e
theorem BeamIn.down (h : BeamIn C B H b f s k p n) (sm : Same B' B) : BeamIn C B' H b f s k p n := by
  obtain ⟨dx, vf, vs, vt, R, D1, D2, L, rws, x, t1, t2, t3⟩ := h
  refine ⟨dx, vf, vs, vt, R, D1, D2, L, rws, ⟨x.i, ?_, x.o.down sm⟩, t1, t2, t3⟩
  cases q : B' b with
  | none => rfl
  | some z =>
    have := x.bb
    rw [sm _ _ q] at this
    cases this
/-- as much as may stand, stands -/
theorem BeamIn.rebase (h : BeamIn C B H b f s k p n) (sB : Same B H) : ∃ B', Same B' H ∧ Same B B' ∧ (∀ a xs, H a = some (.tup xs) → B' a = some (.tup xs)) ∧ BeamIn C B' H b f s k p n := by
  classical
  obtain ⟨dx, vf, vs, vt, R, D1, D2, L, rws, x, t1, t2, t3⟩ := h
  refine ⟨fun a => if B a = none ∧ ∀ xs, H a ≠ some (.tup xs) then none else H a, fun a o e => ?_, fun a o e => ?_, fun a xs e => ?_, dx, vf, vs, vt, R, D1, D2, L, rws, ⟨x.i, ?_, x.o.base fun a e1 e2 => ?_⟩, t1, t2, t3⟩
  · have e : (if B a = none ∧ ∀ xs, H a ≠ some (.tup xs) then none else H a) = some o := e
    split at e
    · cases e
    · exact e
  · show (if B a = none ∧ ∀ xs, H a ≠ some (.tup xs) then none else H a) = some o
    rw [if_neg fun z => by rw [z.1] at e; cases e]
    exact sB _ _ e
  · show (if B a = none ∧ ∀ xs, H a ≠ some (.tup xs) then none else H a) = _
    rw [if_neg fun z => z.2 xs e]
    exact e
  · show (if B b = none ∧ ∀ xs, H b ≠ some (.tup xs) then none else H b) = none
    rw [if_pos ⟨x.bb, fun xs => by rw [x.i]; simp⟩]
  · show (if B a = none ∧ ∀ xs, H a ≠ some (.tup xs) then none else H a) = none
    rw [if_pos ⟨e1, e2⟩]
end
/-! ### promises -/
section
variable (C : Addr)
def sp_tick : Sp := fun vs H Q _ => vs.length = 1 ∧ ∃ (B : Hp) (b : Addr) (f : Frame) (s : Stand) (g : Nat) (p : Pic) (n : Nat), vs = [.ref b] ∧ BeamIn C B H b f s g p n ∧ Q (.int (g : Int)) H
def sp_over : Sp := fun vs H Q _ => vs.length = 1 ∧ ∃ (B : Hp) (b : Addr) (f : Frame) (s : Stand) (g : Nat) (p : Pic) (n : Nat), vs = [.ref b] ∧ f.Ok ∧ Same B H ∧ BeamIn C B H b f s g p n ∧ ∀ H', Same H H' → Q (.bl (decide ((g : Int) = f.ticks))) H'
def sp_deed : Sp := fun vs H Q _ => vs.length = 2 ∧ ∃ (B : Hp) (b : Addr) (f : Frame) (s : Stand) (g : Nat) (p : Pic) (n : Nat) (vd : V) (d : Deed), vs = [.ref b, vd] ∧ f.Ok ∧ s.Ok ∧ d.Ok s ∧ Tp H vd d.d ∧ (g : Int) < f.ticks ∧ Same B H ∧ BeamIn C B H b f s g p n ∧ ∀ H', Same B H' → BeamIn C B H' b f (behind s d) g p n → Q .non H'
def sp_note : Sp := fun vs H Q _ => vs.length = 3 ∧ ∃ (B : Hp) (b : Addr) (f : Frame) (s : Stand) (g : Nat) (p : Pic) (n : Nat) (row spot : Int) (T : Taken), vs = [.ref b, .int row, .int spot] ∧ p.tk = some T ∧ TkOk f T ∧ 0 ≤ spot ∧ spot < f.wide ∧ n ≤ 600000 ∧ Same B H ∧ BeamIn C B H b f s g p n ∧ ∀ H', Same B H' → BeamIn C B H' b f s g p (n + 156) → Q .non H'
def sp_one : Sp := fun vs H Q _ => vs.length = 1 ∧ ∃ (B : Hp) (b : Addr) (f : Frame) (s : Stand) (g : Nat) (p : Pic), vs = [.ref b] ∧ f.Ok ∧ s.Ok ∧ PicOk f p g ∧ (g : Int) < f.ticks ∧ Same B H ∧ BeamIn C B H b f s g p (200 * g) ∧ ∀ H', Same B H' → BeamIn C B H' b f s (g + 1) (stepPic f s p g) (200 * (g + 1)) → Q .non H'
end
theorem Ee.go {B H : Hp} {σ : L2.St} {ρ : List Sl} {te : TE} {d : PyData} {Q : VK} (E : Ee (WC H) te ρ d) (A : At W0 B H σ ρ) (hn : noL ρ = true) (k : ∀ v H1, Same H H1 → Tp H1 v d → Q v H1) : te σ H Q := E H σ H Q (A.here hn) fun v H1 d' r t e => by
  subst e
  exact k v H1 (WC.same r) t
section
variable {P : Program} {w : World} {K : PySem.W.Frag} {mg : Str → Option Value} {base : Heap} {C D : Addr}
theorem sc_tick : FnScope ["self"] ["self"] (defScope s_tick) := ⟨rfl, rfl, rfl, by decide +kernel, rfl, by decide +kernel, by decide +kernel⟩
theorem mt_tick (T : Txt K mg w C D) : Met P w K mg base C 1 "tick" (sp_tick C) := by
  have nd := sc_tick.nd
  refine mkMet T.m_tick T.cl (fun _ _ _ _ _ _ us hl => match us, hl with | [_], _ => rfl) sc_tick (fun _ _ _ _ q => q.1) (fun f cdv A outer s H E hr => ⟨_, (pss_one (ps_ret (pe_fldK (K := K) rfl (pv 0) rfl))), fun vs Q q => ?_⟩)
  obtain ⟨_, B, b, f', s', g, p, n, rfl, ⟨dx, vf, vs, vt, R, D1, D2, L, rws, x, t1, t2, t3⟩, q⟩ := q
  exact ⟨_, rfl, b, C, dx, _, _, rfl, x.i, T.cl, T.a_gone, lk_gone, q⟩
theorem sc_is_over : FnScope ["self"] ["self"] (defScope s_is_over) := ⟨rfl, rfl, rfl, by decide +kernel, rfl, by decide +kernel, by decide +kernel⟩
theorem mt_is_over (T : Txt K mg w C D) : Met P w K mg base C 2 "is_over" (sp_over C) := by
  have nd := sc_is_over.nd
  have c_ticks_of := c_ticks_of (P := P) (w := w) (base := base) T
  refine mkMet T.m_is_over T.cl (fun _ _ _ _ _ _ us hl => match us, hl with | [_], _ => rfl) sc_is_over (fun _ _ _ _ q => q.1) (fun f cdv A outer s H E hr => ⟨_, (pss_one (ps_ret (pe_cmpR op_eq (pe_fldK (K := K) rfl (pv 0) rfl) (pe_c c_ticks_of hr (by decide) (by rfl) (pa_cons (pe_fldK (K := K) rfl (pv 0) rfl) pa_nil)) (nomark _)))), fun vs Q q => ?_⟩)
  obtain ⟨_, B, b, f', s', g, p, n, rfl, ok, sB, ⟨dx, vf, vs, vt, R, D1, D2, L, rws, x, t1, t2, t3⟩, q⟩ := q
  have A : At W0 B H (L2.start ["self"] [.ref b]) [.v (.ref b)] := ⟨trivial, Wd.same sB, .cons rfl .nil⟩
  refine Ee.go (ee_eqD (ee_fld rfl x.i T.cl T.a_gone lk_gone (.int _)) (e_ticks_of ok (ea_cons (ee_fld rfl x.i T.cl T.a_frame lk_frame t1) ea_nil)) rfl) A rfl fun v H1 s1 t => ?_
  rw [t.bl_of]
  exact q H1 s1
theorem sc_deed : FnScope ["self", "deed"] ["self", "deed"] (defScope s_deed) := ⟨rfl, rfl, rfl, by decide +kernel, rfl, by decide +kernel, by decide +kernel⟩
theorem mt_deed (T : Txt K mg w C D) : Met P w K mg base C 5 "deed" (sp_deed C) := by
  have nd := sc_deed.nd
  have m_is_over := mt_is_over (P := P) (w := w) (base := base) T
  have c_stand_behind := c_stand_behind (P := P) (w := w) (base := base) T
  refine mkMet T.m_deed T.cl (fun _ _ _ _ _ _ us hl => match us, hl with | [_, _], _ => rfl) sc_deed (fun _ _ _ _ q => q.1) (fun f cdv A outer s H E hr => ⟨_, (pss_cons (ps_if (pt_val (pe_mB0 m_is_over hr (by decide) (pv 0))) (pss_one ps_never) pss_nil) (pss_one (ps_fld (pv 0) (pe_c c_stand_behind hr (by decide) (by rfl) (pa_cons (pe_fldK (K := K) rfl (pv 0) rfl) (pa_cons (pv 1) pa_nil))) rfl))), fun vs Q q => ?_⟩)
  obtain ⟨_, B, b, f', s', g, p, n, vd, d, rfl, ok, ok2, dok, td, hg, sB, bm, q⟩ := q
  obtain ⟨dx, vf, vs, vt, R, D1, D2, L, rws, x, t1, t2, t3⟩ := id bm
  refine ⟨_, rfl, b, dx, _, rfl, x.i, no_over, rfl, B, b, f', s', g, p, n, rfl, ok, sB, bm, fun H1 s1 => ⟨_, rfl, ?_⟩⟩
  rw [decide_eq_false (by omega)]
  have A : At W0 B H (L2.start ["self", "deed"] [.ref b, vd]) [.v (.ref b), .d d.d] := ⟨trivial, Wd.same sB, .cons rfl (.cons ⟨_, rfl, td⟩ .nil)⟩
  have A1 := A.sm s1
  have x1 := x.mono s1
  refine Ee.go (e_stand_behind ok2 dok (ea_cons (ee_fld rfl x1.i T.cl T.a_now lk_now (t2.mono (same_tup s1))) (ea_cons (ee_var rfl) ea_nil))) A1 rfl fun v H2 s2 t => ?_
  have x2 := x1.mono s2
  refine ⟨_, rfl, b, C, dx, _, rfl, x2.i, T.cl, T.a_now, len_bm, ?_⟩
  rw [put_now]
  have tu := tup_upd' (H := H2) (o := .ins C dx (bmF vf v (g : Int) vt R D1 D2 L)) x2.i (fun xs => by simp)
  have s12 := same_trans s1 s2
  exact q _ (upd_same_of x.bb (same_trans sB s12)) ⟨dx, vf, v, vt, R, D1, D2, L, rws, x2.setI, (t1.mono (same_tup s12)).mono tu, t.mono tu, (t3.mono (same_tup s12)).mono tu⟩
end
end Gw
set_option Elab.async false
set_option linter.all false
set_option maxRecDepth 100000
set_option maxHeartbeats 4000000
namespace Gw
open PySem PySem.Spec PyProof.Rows L2
/- one step of the evaluation; walk_at "ev": to its end -/
local macro_rules | `(tactic| walk_at "ev1") => `(tactic| first
  | exact ee_int | exact ee_bl | exact ee_str | exact ee_non | exact ee_var rfl | exact eo_none | exact ea_nil
  | refine' ea_cons ?_ ?_ | refine' ee_II ?_ ?_ | refine' ee_IB ?_ ?_ | refine' ee_UI ?_ | refine' ee_IC ?_ ?_ ?_
  | refine' et_test ?_ | refine' et_B ?_ | refine' et_not ?_ | refine' et_and ?_ (fun _ => ?_) | refine' et_or ?_ (fun _ => ?_)
  | refine' ee_andV ?_ (fun _ => ?_) | refine' ee_orV ?_ (fun _ => ?_) | refine' ee_notV ?_
  | refine' ee_isN ?_ | refine' ee_notN ?_ | refine' ee_eqD ?_ ?_ ?_ | refine' ee_neD ?_ ?_ ?_
  | refine' ee_ixT ?_ ?_ ?_ | refine' ee_lenT ?_ | refine' ee_isi ?_ ?_ | refine' ee_tup ?_ ?_ | refine' eo_some ?_ | refine' ee_slT ?_ ?_ ?_
  | exact ki_ii | exact ki_ib | exact ki_tt | exact ki_ss | (show atI _ _ = some _; first | rfl | assumption) | (show scalD _ _ = true; rfl) | exact Nat.le_of_ble_eq_true rfl)
local macro_rules | `(tactic| walk_at "ev") => `(tactic| repeat' walk_at "ev1")
theorem range_ints (l : List Int) : (List.range l.length).map (fun (i : Nat) => PyData.int (gI l (i : Int))) = l.map PyData.int := by
  apply List.ext_getElem?
  intro i
  rw [List.getElem?_map, List.getElem?_map]
  by_cases h : i < l.length
  · rw [List.getElem?_range h, List.getElem?_eq_getElem h]
    unfold gI
    show some (PyData.int (l.getD (Int.toNat (i : Int)) 0)) = some (PyData.int l[i])
    rw [Int.toNat_natCast, List.getD_eq_getElem?_getD, List.getElem?_eq_getElem h]
    rfl
  · rw [List.getElem?_eq_none (by rw [List.length_range]; omega), List.getElem?_eq_none (by omega)]
    rfl
theorem gI_at {l : List Int} {i : Nat} (h : i < l.length) : l[i]? = some (gI l (i : Int)) := by
  rw [List.getElem?_eq_getElem h]
  unfold gI
  rw [Int.toNat_natCast, List.getD_eq_getElem?_getD, List.getElem?_eq_getElem h]
  rfl
section
variable {te : TE} {g : TG} {tz t u : TS} {tt : TT} {D : Ends} {σ : L2.St} {H : Hp} {wi : TI}
theorem r_asg (h : te σ H fun x H1 => g x σ H1 fun σ1 H2 => tz D σ1 H2) : tSeq (tAsg te g) tz D σ H := h
theorem r_asgZ (h : te σ H fun x H1 => g x σ H1 D.nx) : tAsg te g D σ H := h
theorem r_drop (h : te σ H fun _ H1 => tz D σ H1) : tSeq (tDrop te) tz D σ H := h
theorem r_dropZ (h : te σ H fun _ H1 => D.nx σ H1) : tDrop te D σ H := h
theorem r_ret (h : te σ H D.rt) : tRet te D σ H := h
theorem r_seq (h : t { D with nx := tz D } σ H) : tSeq t tz D σ H := h
theorem r_if (h : tt σ H fun b H1 => if b = true then t D σ H1 else u D σ H1) : tIfS tt t u D σ H := h
end
section
variable {B H : Hp} {σ : L2.St} {ρ : List Sl} {td ty tx : TE} {Q : VK}
theorem setT_go {D1 : Addr} {kvs : List (List Key × V)} {i j : Int} {dz : PyData} (A : At W0 B H σ ρ) (hn : noL ρ = true) (hd : ∀ Q : VK, Q (.ref D1) H → td σ H Q) (e1 : H D1 = some (.dT kvs)) (hl : kvs.length < 1000000)
    (Ey : Ee (WC H) ty ρ (.tuple [.int i, .int j])) (Ex : Ee (WC H) tx ρ dz) (k : ∀ v H' kvs', kvs'.length ≤ kvs.length + 1 → Same H H' → Q v (upd H' D1 (.dT kvs'))) : tSetT td ty tx σ H Q :=
  hd _ ⟨D1, rfl, .inr ⟨kvs, .inl e1⟩, Ey H σ H _ (A.here hn) fun y H1 d1 r1 t1 p1 => Ex H σ H1 _ ((A.here hn).mono r1) fun z H2 d2 r2 t2 p2 => by
    subst p1
    obtain ⟨c, xs, rfl, ec, tc⟩ := (t1.mono (Wd.tup r2)).tup_of
    have s12 := same_trans (WC.same r1) (WC.same r2)
    cases tc with
    | cons a r =>
      cases r with
      | cons a' r' =>
        cases r'
        rw [a.int_of, a'.int_of] at ec
        exact ⟨kvs, [.inl i, .inl j], c, s12 _ _ e1, rfl, ec, Nat.lt_trans hl (by decide), fun v kvs' h => k v H2 kvs' h s12⟩⟩
theorem setd_go {D2 : Addr} {kvs : List (Key × V)} {i : Int} {dz : PyData} (A : At W0 B H σ ρ) (hn : noL ρ = true) (hd : ∀ Q : VK, Q (.ref D2) H → td σ H Q) (e1 : H D2 = some (.dK kvs)) (hl : kvs.length < 1000000)
    (Ey : Ee (WC H) ty ρ (.int i)) (Ex : Ee (WC H) tx ρ dz) (k : ∀ v H' kvs', kvs'.length ≤ kvs.length + 1 → Same H H' → Q v (upd H' D2 (.dK kvs'))) : tDSetd td ty tx σ H Q :=
  hd _ ⟨D2, rfl, .inl ⟨kvs, .inl e1⟩, Ey H σ H _ (A.here hn) fun y H1 d1 r1 t1 p1 => Ex H σ H1 _ ((A.here hn).mono r1) fun z H2 d2 r2 t2 p2 => by
    subst p1
    have s12 := same_trans (WC.same r1) (WC.same r2)
    refine ⟨kvs, .inl i, s12 _ _ e1, t1.int_of, Nat.lt_trans hl (by decide), fun v _ => ?_, fun _ => k z H2 _ (length_putK _ _ _) s12⟩
    have q := k v H2 kvs (by omega) s12
    rw [upd_self (s12 _ _ e1)] at q
    exact q⟩
end
/-- within note_touches -/
structure NI (C : Addr) (B H : Hp) (b dx : Addr) (vf vs : V) (g : Int) (vt : V) (R D1 D2 L : Addr) (rws : List Addr) (rows : List (List Int)) (n : Nat) (f : Frame) (s : Stand) (t : Taken) (l : Addr) (ls : List V) : Prop where
  x : BeamX C B H b dx vf vs g vt R D1 D2 L rws rows n
  t1 : Tp H vf f.d
  t2 : Tp H vs s.d
  t3 : Tp H vt t.d
  e : H l = some (.lst ls)
section
variable {C : Addr} {B H H' : Hp} {b dx : Addr} {vf vs : V} {g : Int} {vt : V} {R D1 D2 L : Addr} {rws : List Addr} {rows : List (List Int)} {n m : Nat} {f : Frame} {s : Stand} {t : Taken} {l : Addr} {ls : List V}
theorem NI.mono (h : NI C B H b dx vf vs g vt R D1 D2 L rws rows n f s t l ls) (sm : Same H H') : NI C B H' b dx vf vs g vt R D1 D2 L rws rows n f s t l ls := ⟨h.x.mono sm, h.t1.mono (same_tup sm), h.t2.mono (same_tup sm), h.t3.mono (same_tup sm), sm _ _ h.e⟩
theorem NI.more (h : NI C B H b dx vf vs g vt R D1 D2 L rws rows n f s t l ls) (hm : n ≤ m) : NI C B H b dx vf vs g vt R D1 D2 L rws rows m f s t l ls := ⟨⟨h.x.i, h.x.bb, h.x.o.more hm⟩, h.t1, h.t2, h.t3, h.e⟩
theorem NI.setD1 (h : NI C B H b dx vf vs g vt R D1 D2 L rws rows n f s t l ls) {kvs : List (List Key × V)} (hk : kvs.length ≤ n) : NI C B (upd H D1 (.dT kvs)) b dx vf vs g vt R D1 D2 L rws rows n f s t l ls := by
  obtain ⟨k1, e1, _⟩ := h.x.o.d1
  have tu := tup_upd' (H := H) (o := .dT kvs) e1 (fun xs => by simp)
  exact ⟨⟨by rw [upd_ne (ne_of h.x.i e1 (by simp))]; exact h.x.i, h.x.bb, h.x.o.setD1 hk⟩, h.t1.mono tu, h.t2.mono tu, h.t3.mono tu, by rw [upd_ne (ne_of h.e e1 (by simp))]; exact h.e⟩
theorem NI.setD2 (h : NI C B H b dx vf vs g vt R D1 D2 L rws rows n f s t l ls) {kvs : List (Key × V)} (hk : kvs.length ≤ n) : NI C B (upd H D2 (.dK kvs)) b dx vf vs g vt R D1 D2 L rws rows n f s t l ls := by
  obtain ⟨k1, e1, _⟩ := h.x.o.d2
  have tu := tup_upd' (H := H) (o := .dK kvs) e1 (fun xs => by simp)
  exact ⟨⟨by rw [upd_ne (ne_of h.x.i e1 (by simp))]; exact h.x.i, h.x.bb, h.x.o.setD2 hk⟩, h.t1.mono tu, h.t2.mono tu, h.t3.mono tu, by rw [upd_ne (ne_of h.e e1 (by simp))]; exact h.e⟩
end
section
variable {P : Program} {w : World} {K : PySem.W.Frag} {mg : Str → Option Value} {base : Heap} {C D : Addr}
theorem sc_note_touches : FnScope ["self", "row", "spot", "numbers", "number", "rank", "ink", "k", "other", "one"] ["self", "row", "spot"] (defScope s_note_touches) := ⟨rfl, rfl, rfl, by decide +kernel, rfl, by decide +kernel, by decide +kernel⟩
theorem mt_note_touches (T : Txt K mg w C D) : Met P w K mg base C 2 "note_touches" (sp_note C) := by
  have nd := sc_note_touches.nd
  have c_covering := c_covering (P := P) (w := w) (base := base) T
  refine mkMet T.m_note_touches T.cl (fun _ _ _ _ _ _ us hl => match us, hl with | [_, _, _], _ => rfl) sc_note_touches (fun _ _ _ _ q => q.1) (fun f cdv A outer s H E hr => ⟨_, (pss_cons (ps_setLc (i := 3) (own := [("number", 4), ("rank", 5), ("ink", 6)]) (by rfl) nd rfl rfl (sw_true rfl rfl rfl (by decide +kernel)) (pi_listK (K := K) rfl (pe_c c_covering hr (by decide) (by rfl) (pa_cons (pe_fldK (K := K) rfl (pv 0) rfl) (pa_cons (pv 2) pa_nil)))) (blkOk_by (N := ["self", "row", "spot", "numbers", "number", "rank", "ink", "k", "other", "one"]) (sc := defScope s_note_touches) (by decide +kernel)) (fun _ _ _ _ _ => (pg_tupK (K := K) (n := 3) rfl (by rfl) (pgs_cons (pg_name (i := 4) nd rfl (by first | exact Or.inl rfl | exact Or.inr rfl)) (pgs_cons (pg_name (i := 5) nd rfl (by first | exact Or.inl rfl | exact Or.inr rfl)) (pgs_cons (pg_name (i := 6) nd rfl (by first | exact Or.inl rfl | exact Or.inr rfl)) pgs_nil))))) (fun _ _ _ _ _ => pts_nil) (fun _ _ _ _ _ => (pv 4))) (pss_one (ps_for PassesOwn.never rfl (pi_enumK (K := K) rfl (by rfl) T.b_enumerate (pa_cons (pv 3) pa_nil)) (pg_tupK (K := K) (n := 2) rfl (by rfl) (pgs_cons (pg_name (i := 7) nd rfl (by first | exact Or.inl rfl | exact Or.inr rfl)) (pgs_cons (pg_name (i := 8) nd rfl (by first | exact Or.inl rfl | exact Or.inr rfl)) pgs_nil))) (pss_cons (ps_for PassesOwn.never rfl (pi_listK (K := K) rfl (pe_slice (sl_listK (K := K) rfl) (pv 3) po_none (po_some (pv 7)))) (pg_name (i := 9) nd rfl (by first | exact Or.inl rfl | exact Or.inr rfl)) (pss_one (ps_expr (pe_dsetT (hu_of hr) (pe_fldK (K := K) rfl (pv 0) rfl) (pe_tup (pa_cons (pv 9) (pa_cons (pv 8) pa_nil))) (pe_tup (pa_cons (pv 1) (pa_cons (pv 2) pa_nil))) ⟨rfl, rfl, rfl, rfl⟩)))) (pss_one (ps_if (pt_cmpR op_ne (pe_ix (ix_tupK (K := K) rfl) (pe_ix (ix_tupK (K := K) rfl) (pe_fldK (K := K) rfl (pv 0) rfl) pe_int (fun _ _ => rfl)) (pv 2) (fun _ _ => rfl)) pe_int (nomark _)) (pss_one (ps_expr (pe_dsetd (pe_fldK (K := K) rfl (pv 0) rfl) (pv 8) (pe_tup (pa_cons (pv 1) (pa_cons (pv 2) pa_nil))) ⟨rfl, rfl, rfl, rfl⟩))) pss_nil)))))), fun vs Q q => ?_⟩)
  obtain ⟨_, B, b, f', s', g, p, n, row, spot, T', rfl, etk, tok, h0, h1, hn, sB, ⟨dx, vf, vs, vt, R, D1, D2, L, rws, x, t1, t2, t3⟩, q⟩ := q
  rw [etk] at t3
  have t3 : Tp H vt T'.d := t3
  have A : At W0 B H (L2.start ["self", "row", "spot", "numbers", "number", "rank", "ink", "k", "other", "one"] [.ref b, .int row, .int spot]) [.v (.ref b), .d (.int row), .d (.int spot), .no, .no, .no, .no, .no, .no, .no] :=
    ⟨trivial, Wd.same sB, .cons rfl (.cons ⟨_, rfl, .int _⟩ (.cons ⟨_, rfl, .int _⟩ (.cons trivial (.cons trivial (.cons trivial (.cons trivial (.cons trivial (.cons trivial (.cons trivial .nil)))))))))⟩
  have hcl : (covering T' spot).length ≤ 12 := Nat.le_trans (List.length_filter_le _ _) tok.len
  let nums : List Int := (covering T' spot).map fun t => (t.number : Int)
  have hnl : nums.length = (covering T' spot).length := by simp [nums]
  have EL : El (WC H) (tLc (iList K (tCall (spL 2 F_covering) [] E0 (tCons (tFld K (tVar 0) "row_taken") (tCons (tVar 2) tNil)))) (gTup K 3 (gCons (gName 4) (gCons (gName 5) (gCons (gName 6) gNil)))) tYes (tVar 4) [4, 5, 6]) [.v (.ref b), .d (.int row), .d (.int spot), .no, .no, .no, .no, .no, .no, .no] (fun x => x = nums.map PyData.int) := by
    have h := el_lcE (js := [4, 5, 6]) (W := WC H) (te := tVar 4) (vs := [4, 5, 6]) (g := gTup K 3 (gCons (gName 4) (gCons (gName 5) (gCons (gName 6) gNil)))) (src_L (K := K) (e_covering (E := E0) (t := T') (x := spot) (by have := tok.len; omega) (ea_cons (ee_fld (ρ := [.v (.ref b), .d (.int row), .d (.int spot), .no, .no, .no, .no, .no, .no, .no]) (i := 0) rfl x.i T.cl T.a_row_taken lk_taken t3) (ea_cons (ee_var (i := 2) rfl) ea_nil))).q) (by rw [List.length_map]; omega) (fun i => .int (gI nums (i : Int))) (by simp) (fun i hi => ?_)
    · rw [List.length_map, ← hnl, range_ints] at h
      exact h
    · have hm : i < (covering T' spot).length := by simpa using hi
      rw [nth_map (getE hm)]
      refine ⟨_, gd_tup (gds_cons gd_name (gds_cons gd_name (gds_cons gd_name gds_nil))) rfl, Ed.is (ee_var rfl) ?_⟩
      have e := gI_at (l := nums) (i := i) (by omega)
      have e2 : nums[i]? = some ((covering T' spot)[i].number : Int) := by
        show ((covering T' spot).map fun t => (t.number : Int))[i]? = _
        rw [List.getElem?_map, getE hm]
        rfl
      rw [e] at e2
      rw [Option.some.inj e2]
  refine r_asg (EL H _ H _ (A.here rfl) fun l us ds H1 r1 nl el tl ql => ?_)
  subst ql
  obtain rfl := tl.ints
  have s1 := WC.same r1
  have A1 := (A.sm s1).setV (.ref l) 3
  have I1 : NI C B H1 b dx vf vs (g : Int) vt R D1 D2 L rws p.rows n f' s' T' l (nums.map V.int) := ⟨x.mono s1, t1.mono (same_tup s1), t2.mono (same_tup s1), t3.mono (same_tup s1), el⟩
  clear EL r1 nl tl
  refine ⟨_, A1.vv rfl, l, nums.map V.int, rfl, SqL.of el, for_it walk_enum (fun i σ' H' => At W0 B H' σ' [.v (.ref b), .d (.int row), .d (.int spot), .v (.ref l), .no, .no, .no, .no, .no, .no] ∧ NI C B H' b dx vf vs (g : Int) vt R D1 D2 L rws p.rows (n + 13 * i) f' s' T' l (nums.map V.int)) ⟨A1, I1⟩ (fun i σ' H' _ p => SqL.of p.2.e) (fun i y σ2 H2 H3 hi p y => ?_) (fun σ' H' p => ?_)⟩
  · obtain ⟨T2, x2, y2, rfl, hT, rfl, e1, e2⟩ := y
    obtain ⟨A2, I2⟩ := p
    have hi' : i < nums.length := by rw [List.length_map] at hi; exact hi
    have hi12 : i < 12 := by omega
    have e1 := Option.some.inj e1
    subst e1
    have e2 : (nums.map V.int)[i]? = some y2 := e2
    rw [List.getElem?_map, gI_at hi'] at e2
    have e2 := Option.some.inj e2
    subst e2
    have s2 : Same H2 (upd H2 T2 (.tup [.int (i : Int), .int (gI nums (i : Int))])) := same_new hT
    have A3 := A2.sm s2
    have I3 := I2.mono s2
    refine (gd_tup (K := K) (gds_cons (W := W0) (gd_name (i := 7)) (gds_cons (gd_name (i := 8)) gds_nil)) rfl) B (.ref T2) σ2 _ _ A3 (.tup (ds := [.int (i : Int), .int (gI nums (i : Int))]) upd_same (.cons (.int _) (.cons (.int _) .nil))) fun σ3 A4 _ _ => ?_
    generalize upd H2 T2 (.tup [.int (i : Int), .int (gI nums (i : Int))]) = H3 at I3 A4
    have A4 : At W0 B H3 σ3 [.v (.ref b), .d (.int row), .d (.int spot), .v (.ref l), .no, .no, .no, .d (.int (i : Int)), .d (.int (gI nums (i : Int))), .no] := A4
    have E2 := el_take (K := K) (eq_raw (C0 := H3) (ρ := [.v (.ref b), .d (.int row), .d (.int spot), .v (.ref l), .no, .no, .no, .d (.int (i : Int)), .d (.int (gI nums (i : Int))), .no]) (i := 3) rfl I3.e (TpA.of_ints (ns := nums))) (ee_var (i := 7) rfl) (by omega)
    refine E2 H3 σ3 H3 _ (A4.here rfl) fun l2 us2 ds2 H4 r4 n4 e4 t4 q4 => ?_
    subst q4
    rw [Int.toNat_natCast, ← List.map_take] at t4
    obtain rfl := t4.ints
    have s4 := WC.same r4
    refine ⟨l2, rfl, ⟨_, SqL.of e4⟩, for_it walk_list (fun j σ' H' => (At W0 B H' σ' [.v (.ref b), .d (.int row), .d (.int spot), .v (.ref l), .no, .no, .no, .d (.int (i : Int)), .d (.int (gI nums (i : Int))), .no] ∧ NI C B H' b dx vf vs (g : Int) vt R D1 D2 L rws p.rows (n + 13 * i + j) f' s' T' l (nums.map V.int)) ∧ H' l2 = some (.lst ((nums.take i).map V.int))) ⟨⟨A4.sm s4, I3.mono s4⟩, e4⟩ (fun j σ' H' _ p => SqL.of p.2) (fun j y σ5 H5 H6 hj p y => ?_) (fun σ5 H5 p => ?_)⟩
    · obtain ⟨rfl, ey⟩ := y
      obtain ⟨⟨A5, I5⟩, e5⟩ := p
      have hj' : j < (nums.take i).length := by rw [List.length_map] at hj; exact hj
      have hji : j < i := by rw [List.length_take] at hj'; omega
      rw [List.getElem?_map, gI_at hj'] at ey
      have ey := Option.some.inj ey
      subst ey
      have A6 := A5.setD (.int (gI (nums.take i) (j : Int))) 9
      obtain ⟨k1, d1, l1⟩ := I5.x.o.d1
      refine r_dropZ (setT_go A6 rfl (fun Q q => ⟨_, A6.vv rfl, b, C, dx, _, .ref D1, rfl, I5.x.i, T.cl, T.a_met, lk_met, q⟩) d1 (by omega) (ee_tup (ea_cons (ee_var rfl) (ea_cons (ee_var rfl) ea_nil))) (ee_tup (ea_cons (ee_var rfl) (ea_cons (ee_var rfl) ea_nil))) fun v H7 kvs' hk s7 => ?_)
      have I7 := ((I5.mono s7).more (m := n + 13 * i + (j + 1)) (by omega)).setD1 (kvs := kvs') (by omega)
      refine ⟨⟨((A6.sm s7).upd rfl I5.x.o.b1 (s7 _ _ d1) (fun xs => by simp)).le (.cons (.inr rfl) (.cons (.inr rfl) (.cons (.inr rfl) (.cons (.inr rfl) (.cons (.inr rfl) (.cons (.inr rfl) (.cons (.inr rfl) (.cons (.inr rfl) (.cons (.inr rfl) (.cons (.inl rfl) .nil)))))))))), I7⟩, ?_⟩
      rw [upd_ne (ne_of (s7 _ _ e5) (s7 _ _ d1) (by simp))]
      exact s7 _ _ e5
    · obtain ⟨⟨A5, I5⟩, e5⟩ := p
      have hlt : ((nums.take i).map V.int).length ≤ 12 := by rw [List.length_map, List.length_take]; omega
      have hx : atI (T'.inks.map PyData.int) spot = some (.int (gI T'.inks spot)) := atI_int h0 (by rw [tok.wide]; exact h1)
      have EF := ee_fld (ρ := [.v (.ref b), .d (.int row), .d (.int spot), .v (.ref l), .no, .no, .no, .d (.int (i : Int)), .d (.int (gI nums (i : Int))), .no]) (i := 0) rfl I5.x.i T.cl T.a_row_taken lk_taken I5.t3
      have ET := et_test (ee_neD (ee_ixT (K := K) (d := .int (gI T'.inks spot)) (ee_ixT (K := K) (d := inksD T'.inks) EF (ee_int (i := 0)) rfl) (ee_var (i := 2) rfl) hx) (ee_int (i := 0)) rfl)
      refine r_if (ET H5 σ5 H5 _ (A5.here rfl) fun c H6 r6 ec => ?_)
      have s6 := WC.same r6
      have A6 := A5.sm s6
      have I6 := I5.mono s6
      cases c with
      | false =>
        exact ⟨A6.le (.cons (.inr rfl) (.cons (.inr rfl) (.cons (.inr rfl) (.cons (.inr rfl) (.cons (.inr rfl) (.cons (.inr rfl) (.cons (.inr rfl) (.cons (.inl rfl) (.cons (.inl rfl) (.cons (.inr rfl) .nil)))))))))), I6.more (by omega)⟩
      | true =>
        obtain ⟨k2, d2, l2'⟩ := I6.x.o.d2
        refine r_dropZ (setd_go A6 rfl (fun Q q => ⟨_, A6.vv rfl, b, C, dx, _, .ref D2, rfl, I6.x.i, T.cl, T.a_grounded, lk_grounded, q⟩) d2 (by omega) (ee_var rfl) (ee_tup (ea_cons (ee_var rfl) (ea_cons (ee_var rfl) ea_nil))) fun v H7 kvs' hk s7 => ?_)
        have I7 := ((I6.mono s7).more (m := n + 13 * (i + 1)) (by omega)).setD2 (kvs := kvs') (by omega)
        exact ⟨((A6.sm s7).upd rfl I6.x.o.b2 (s7 _ _ d2) (fun xs => by simp)).le (.cons (.inr rfl) (.cons (.inr rfl) (.cons (.inr rfl) (.cons (.inr rfl) (.cons (.inr rfl) (.cons (.inr rfl) (.cons (.inr rfl) (.cons (.inl rfl) (.cons (.inl rfl) (.cons (.inr rfl) .nil)))))))))), I7⟩
  · obtain ⟨A2, I2⟩ := p
    have I2 := I2.more (m := n + 156) (by rw [List.length_map]; omega)
    exact q H' A2.sB ⟨dx, vf, vs, vt, R, D1, D2, L, rws, I2.x, I2.t1, I2.t2, by rw [etk]; exact I2.t3⟩
end
end Gw
set_option Elab.async false
set_option linter.all false
set_option maxRecDepth 100000
set_option maxHeartbeats 4000000
namespace Gw
open PySem PySem.Spec PyProof.Rows L2
/- one step of the evaluation; walk_at "ev": to its end -/
local macro_rules | `(tactic| walk_at "ev1") => `(tactic| first
  | exact ee_int | exact ee_bl | exact ee_str | exact ee_non | exact ee_var rfl | exact eo_none | exact ea_nil
  | refine' ea_cons ?_ ?_ | refine' ee_II ?_ ?_ | refine' ee_IB ?_ ?_ | refine' ee_UI ?_ | refine' ee_IC ?_ ?_ ?_
  | refine' et_test ?_ | refine' et_B ?_ | refine' et_not ?_ | refine' et_and ?_ (fun _ => ?_) | refine' et_or ?_ (fun _ => ?_)
  | refine' ee_andV ?_ (fun _ => ?_) | refine' ee_orV ?_ (fun _ => ?_) | refine' ee_notV ?_
  | refine' ee_isN ?_ | refine' ee_notN ?_ | refine' ee_eqD ?_ ?_ ?_ | refine' ee_neD ?_ ?_ ?_
  | refine' ee_ixT ?_ ?_ ?_ | refine' ee_lenT ?_ | refine' ee_isi ?_ ?_ | refine' ee_tup ?_ ?_ | refine' eo_some ?_ | refine' ee_slT ?_ ?_ ?_
  | exact ki_ii | exact ki_ib | exact ki_tt | exact ki_ss | (show atI _ _ = some _; first | rfl | assumption) | (show scalD _ _ = true; rfl) | exact Nat.le_of_ble_eq_true rfl)
local macro_rules | `(tactic| walk_at "ev") => `(tactic| repeat' walk_at "ev1")
theorem r_cut (M : L2.St → Hp → Prop) {t tz : TS} {D : Ends} {σ : L2.St} {H : Hp} (h1 : ∀ nx : L2.St → Hp → Prop, (∀ σ' H', M σ' H' → nx σ' H') → t { D with nx := nx } σ H) (h2 : ∀ σ' H', M σ' H' → tz D σ' H') : tSeq t tz D σ H := h1 (tz D) h2
theorem r_fld {K : PySem.W.Frag} {ta tv : TE} {f : Str} {D : Ends} {σ : L2.St} {H : Hp} (h : tv σ H fun y H1 => ta σ H1 fun x H2 => ∃ a C dx fs, x = .ref a ∧ H2 a = some (.ins C dx fs) ∧ Cls K C ∧ NoAttr K C f ∧ fs.length < 1000 ∧ D.nx σ (upd H2 a (.ins C dx (putF f y fs)))) : sFld K ta tv f D σ H := h
theorem spot_eq {f : Frame} (hf : f.Ok) (t : Int) : scalD (spotD f t) (.int 0) = true ∧ eqD (spotD f t) (.int 0) = decide (t % (f.wide + f.gap) = 0) := by
  have := hf.w1
  unfold spotD
  split
  · exact ⟨rfl, rfl⟩
  · refine ⟨rfl, ?_⟩
    rw [decide_eq_false (by omega)]
    rfl
theorem spot_none (f : Frame) (t : Int) : (!isNoneD (spotD f t)) = decide (t % (f.wide + f.gap) < f.wide) := by
  unfold spotD
  split
  · rw [decide_eq_true ‹_›]
    rfl
  · rw [decide_eq_false ‹_›]
    rfl
theorem atI_last {α : Type} (l : List α) (x : α) : atI (l ++ [x]) (-1) = some x := by
  unfold atI ixN
  have e : (-1 + ((l ++ [x]).length : Int)).toNat = l.length := by
    rw [List.length_append]
    simp
    omega
  rw [if_neg (by omega), if_pos (by rw [List.length_append]; simp; omega), e]
  simp
theorem Objs.push2 {B H : Hp} {X : List Addr} {R D1 D2 L a : Addr} {rws' : List Addr} {rows' : List (List Int)} {row : List Int} {n : Nat} (v : Int) (o : Objs B H X R D1 D2 L (rws' ++ [a]) (rows' ++ [row]) n) :
    H a = some (.lst (row.map V.int)) ∧ B a = none ∧ Objs B (upd H a (.lst (row.map V.int ++ [.int v]))) X R D1 D2 L (rws' ++ [a]) (rows' ++ [row ++ [v]]) n := by
  obtain ⟨l, a', e, h1, h2, h3⟩ := o.push (v := v)
  obtain ⟨_, e2⟩ := List.append_inj' e rfl
  obtain rfl : a = a' := by simpa using e2
  exact ⟨h1, h2, h3⟩
theorem fresh_ne {H : Hp} {a b : Addr} {o : HO} (h : H a = none) (e : H b = some o) : a ≠ b := fun z => by
  subst z
  rw [h] at e
  cases e
theorem ticks_le {f : Frame} (hf : f.Ok) : f.ticks ≤ 2400 := by
  obtain ⟨w1, w2, h1, h2, g1, g2, m1, m2⟩ := hf
  unfold Frame.ticks
  exact Int.le_trans (Int.mul_le_mul_of_nonneg_right h2 (by omega)) (by omega)
section
variable {P : Program} {w : World} {K : PySem.W.Frag} {mg : Str → Option Value} {base : Heap} {C D : Addr}
theorem sc_one_tick : FnScope ["self", "row", "spot", "number"] ["self"] (defScope s_one_tick) := ⟨rfl, rfl, rfl, by decide +kernel, rfl, by decide +kernel, by decide +kernel⟩
theorem mt_one_tick (T : Txt K mg w C D) : Met P w K mg base C 4 "one_tick" (sp_one C) := by
  have nd := sc_one_tick.nd
  have c_ink_at := c_ink_at (P := P) (w := w) (base := base) T
  have c_lost_on := c_lost_on (P := P) (w := w) (base := base) T
  have m_note_touches := mt_note_touches (P := P) (w := w) (base := base) T
  have c_place_of := c_place_of (P := P) (w := w) (base := base) T
  have c_taken := c_taken (P := P) (w := w) (base := base) T
  refine mkMet T.m_one_tick T.cl (fun _ _ _ _ _ _ us hl => match us, hl with | [_], _ => rfl) sc_one_tick (fun _ _ _ _ q => q.1) (fun f cdv A outer s H E hr => ⟨_, (pss_cons (ps_asg (pe_c c_place_of hr (by decide) (by rfl) (pa_cons (pe_fldK (K := K) rfl (pv 0) rfl) (pa_cons (pe_fldK (K := K) rfl (pv 0) rfl) pa_nil))) (pg_tupK (K := K) (n := 2) rfl (by rfl) (pgs_cons (pg_name (i := 1) nd rfl (by first | exact Or.inl rfl | exact Or.inr rfl)) (pgs_cons (pg_name (i := 2) nd rfl (by first | exact Or.inl rfl | exact Or.inr rfl)) pgs_nil)))) (pss_cons (ps_if (pt_cmpR op_eq (pv 2) pe_int (nomark _)) (pss_cons (ps_fld (pv 0) (pe_c c_taken hr (by decide) (by rfl) (pa_cons (pe_fldK (K := K) rfl (pv 0) rfl) (pa_cons (pe_fldK (K := K) rfl (pv 0) rfl) (pa_cons (pv 1) pa_nil)))) rfl) (pss_cons (ps_expr (pe_bm PySem.F.plainAttrs_list PySem.F.slot_list_append PySem.F.type_list_append mt_append (pe_fldK (K := K) rfl (pv 0) rfl) (pa_cons (pe_lst pa_nil) pa_nil))) (pss_one (ps_expr (pe_bm PySem.F.plainAttrs_list PySem.F.slot_list_extend PySem.F.type_list_extend mt_extend (pe_fldK (K := K) rfl (pv 0) rfl) (pa_cons (pe_lc (own := [("number", 3)]) (by rfl) nd (pi_listK (K := K) rfl (pe_c c_lost_on hr (by decide) (by rfl) (pa_cons (pe_fldK (K := K) rfl (pv 0) rfl) (pa_cons (pe_fldK (K := K) rfl (pv 0) rfl) (pa_cons (pv 1) pa_nil))))) (blkOk_by (N := ["self", "row", "spot", "number"]) (sc := defScope s_one_tick) (by decide +kernel)) (fun _ _ _ _ _ => (pg_name (i := 3) nd rfl (by first | exact Or.inl rfl | exact Or.inr rfl))) (fun _ _ _ _ _ => pts_nil) (fun _ _ _ _ _ => (pe_tup (pa_cons (pv 1) (pa_cons (pv 3) pa_nil))))) pa_nil)))))) pss_nil) (pss_cons (ps_if (pt_cmpR op_notN (pv 2) pe_non (nomark _)) (pss_cons (ps_expr (pe_bm PySem.F.plainAttrs_list PySem.F.slot_list_append PySem.F.type_list_append mt_append (pe_ix (ix_listK (K := K) rfl) (pe_fldK (K := K) rfl (pv 0) rfl) (pe_un un_neg pe_int) (fun _ _ => rfl)) (pa_cons (pe_ix (ix_tupK (K := K) rfl) (pe_ix (ix_tupK (K := K) rfl) (pe_fldK (K := K) rfl (pv 0) rfl) pe_int (fun _ _ => rfl)) (pe_c c_ink_at hr (by decide) (by rfl) (pa_cons (pe_fldK (K := K) rfl (pv 0) rfl) (pa_cons (pv 2) pa_nil))) (fun _ _ => rfl)) pa_nil))) (pss_one (ps_expr (pe_mB m_note_touches hr (by decide) (pv 0) (pa_cons (pv 1) (pa_cons (pv 2) pa_nil)))))) pss_nil) (pss_one (ps_fldaug (pv 0) pe_int in_add))))), fun vs Q q => ?_⟩)
  obtain ⟨_, B, b, f', s', g, p, rfl, ok, ok2, pok, hg, sB, ⟨dx, vf, vs, vt, R, D1, D2, L, rws, x, t1, t2, t3⟩, q⟩ := q
  have hw1 := ok.w1
  have hg1 := ok.g1
  have hmod0 := Int.emod_nonneg (g : Int) (show f'.wide + f'.gap ≠ 0 by omega)
  have htk := ticks_le ok
  have A : At W0 B H (L2.start ["self", "row", "spot", "number"] [.ref b]) [.v (.ref b), .no, .no, .no] := ⟨trivial, Wd.same sB, .cons rfl (.cons trivial (.cons trivial (.cons trivial .nil)))⟩
  refine r_asg (Ee.go (e_place_of (f := f') (t := (g : Int)) ok (by omega) hg (ea_cons (ee_fld rfl x.i T.cl T.a_frame lk_frame t1) (ea_cons (ee_fld rfl x.i T.cl T.a_gone lk_gone (.int _)) ea_nil))) A rfl fun v H1 s1 t => ?_)
  refine (gd_tup (K := K) (gds_cons (W := W0) (gd_name (i := 1)) (gds_cons (gd_name (i := 2)) gds_nil)) rfl) B v _ _ _ (A.sm s1) t fun σ1 A1 _ _ => ?_
  have A1 : At W0 B H1 σ1 [.v (.ref b), .d (.int ((g : Int) / (f'.wide + f'.gap))), .d (spotD f' (g : Int)), .no] := A1
  have x1 := x.mono s1
  have t11 := t1.mono (same_tup s1)
  have t12 := t2.mono (same_tup s1)
  have t13 := t3.mono (same_tup s1)
  clear A x t1 t2 t3 t
  obtain ⟨⟨T', etk, tok, hne⟩, hlen, hwid⟩ := pic1_ok ok ok2 pok
  have hrl : rws.length ≤ 2400 := by
    have h1 := pr_len x1.o.rs
    have h2 := pok.len
    omega
  refine r_cut (fun σ' H' => ∃ vt2 rws2, At W0 B H' σ' [.v (.ref b), .d (.int ((g : Int) / (f'.wide + f'.gap))), .d (spotD f' (g : Int)), .no] ∧ BeamX C B H' b dx vf vs (g : Int) vt2 R D1 D2 L rws2 (pic1 f' s' p g).rows (200 * g + 12) ∧ Tp H' vf f'.d ∧ Tp H' vs s'.d ∧ Tp H' vt2 (optD (pic1 f' s' p g).tk)) (fun nx kn => ?_) (fun σ2 H2 M => ?_)
  · refine r_if ((et_test (ee_eqD (ee_var rfl) ee_int (spot_eq ok _).1)) H1 σ1 H1 _ (A1.here rfl) fun c H2 r2 ec => ?_)
    rw [(spot_eq ok _).2] at ec
    have s2 := WC.same r2
    have A2 := A1.sm s2
    have x2 := x1.mono s2
    have t21 := t11.mono (same_tup s2)
    have t22 := t12.mono (same_tup s2)
    have t23 := t13.mono (same_tup s2)
    by_cases c0 : (g : Int) % (f'.wide + f'.gap) = 0
    · rw [decide_eq_true c0] at ec
      subst ec
      have ep : pic1 f' s' p g = ⟨some (taken f' s' ((g : Int) / (f'.wide + f'.gap))), p.rows ++ [[]]⟩ := by
        unfold pic1
        rw [if_pos c0]
      rw [if_pos rfl]
      refine r_seq (r_fld (Ee.go (e_taken ok ok2 (ea_cons (ee_fld rfl x2.i T.cl T.a_frame lk_frame t21) (ea_cons (ee_fld rfl x2.i T.cl T.a_now lk_now t22) (ea_cons (ee_var rfl) ea_nil)))) A2 rfl fun v H3 s3 tv => ?_))
      have A3 := A2.sm s3
      have x3 := x2.mono s3
      refine ⟨_, A3.vv rfl, b, C, dx, _, rfl, x3.i, T.cl, T.a_row_taken, len_bm, ?_⟩
      rw [put_taken]
      have tu := tup_upd' (H := H3) (o := .ins C dx (bmF vf vs (g : Int) v R D1 D2 L)) x3.i (fun xs => by simp)
      have A4 := A3.upd rfl (o := .ins C dx (bmF vf vs (g : Int) v R D1 D2 L)) x3.bb x3.i (fun xs => by simp)
      have x4 := x3.setI (vf' := vf) (vs' := vs) (g' := (g : Int)) (vt' := v)
      have t41 := (t21.mono (same_tup s3)).mono tu
      have t42 := (t22.mono (same_tup s3)).mono tu
      have t43 := tv.mono tu
      generalize upd H3 b (.ins C dx (bmF vf vs (g : Int) v R D1 D2 L)) = H4 at A4 x4 t41 t42 t43
      dsimp only
      refine r_drop ?_
      refine ⟨_, A4.vv rfl, b, C, dx, _, .ref R, rfl, x4.i, T.cl, T.a_laid_rows, lk_rows, .inl ⟨rfl, _, SqL.of x4.o.r⟩, by decide, fun a ha => ?_⟩
      have s5 : Same H4 (upd H4 a (.lst [])) := same_new ha
      have x5 := x4.mono s5
      have A5 := A4.sm s5
      have hba : B a = none := Wd.back (W := W0) trivial A4.r ha
      obtain ⟨xs4, el4, _⟩ := x4.o.l
      have hna : a ∉ rws := fun z => by
        obtain ⟨row, e⟩ := x4.o.rowAt z
        rw [ha] at e
        cases e
      refine ⟨R, _, .ref a, rfl, rfl, x5.o.r, by rw [List.length_map]; exact small5 (by omega), ?_⟩
      have o6 := x5.o.newRow upd_same hba ⟨fresh_ne ha x4.o.r, fresh_ne ha el4, hna, by simp⟩
      have x6 : BeamX C B (upd (upd H4 a (.lst [])) R (.lst (rws.map V.ref ++ [.ref a]))) b dx vf vs (g : Int) v R D1 D2 L (rws ++ [a]) (p.rows ++ [[]]) (200 * g) := ⟨by rw [upd_ne (ne_of x5.i x5.o.r (by simp))]; exact x5.i, x5.bb, o6⟩
      have tu6 := tup_upd' (H := upd H4 a (.lst [])) (o := .lst (rws.map V.ref ++ [.ref a])) x5.o.r (fun xs => by simp)
      have A6 := A5.upd rfl (o := .lst (rws.map V.ref ++ [.ref a])) x5.o.bR x5.o.r (fun xs => by simp)
      have t61 := (t41.mono (same_tup s5)).mono tu6
      have t62 := (t42.mono (same_tup s5)).mono tu6
      have t63 := (t43.mono (same_tup s5)).mono tu6
      generalize upd (upd H4 a (.lst [])) R (.lst (rws.map V.ref ++ [.ref a])) = H6 at A6 x6 t61 t62 t63
      obtain ⟨xs6, el6, hl6⟩ := x6.o.l
      have hlo : ((lying s' ((g : Int) / (f'.wide + f'.gap))).drop f'.most.toNat).length ≤ 12 := by
        rw [List.length_drop]
        have h1 := lying_len s' ((g : Int) / (f'.wide + f'.gap))
        have h2 := ok2.m1
        omega
      have EL := el_lcE (js := [3]) (W := WC H6) (ρ := [.v (.ref b), .d (.int ((g : Int) / (f'.wide + f'.gap))), .d (spotD f' (g : Int)), .no]) (te := tTup (tCons (tVar 1) (tCons (tVar 3) tNil))) (vs := [3]) (g := gName 3)
        (src_L (K := K) (e_lost_on (E := E0) ok ok2 (ea_cons (ee_fld (i := 0) rfl x6.i T.cl T.a_frame lk_frame t61) (ea_cons (ee_fld (i := 0) rfl x6.i T.cl T.a_now lk_now t62) (ea_cons (ee_var (i := 1) rfl) ea_nil)))).q) (by unfold natsD; rw [List.length_map]; omega)
        (fun i => .tuple [.int ((g : Int) / (f'.wide + f'.gap)), nth (natsD ((lying s' ((g : Int) / (f'.wide + f'.gap))).drop f'.most.toNat)) i]) (by simp) (fun i hi => ⟨_, gd_name, ee_tup (ea_cons (ee_var rfl) (ea_cons (ee_var rfl) ea_nil))⟩)
      try dsimp only
      refine r_dropZ ?_
      refine ⟨_, A6.vv rfl, b, C, dx, _, .ref L, rfl, x6.i, T.cl, T.a_lost_ones, lk_lost, .inl ⟨rfl, _, SqL.of el6⟩, EL H6 _ H6 _ (A6.here rfl) fun z us ds H7 r7 nz ez tz qz => ?_⟩
      subst qz
      have s7 := WC.same r7
      have hus : us.length ≤ 12 := by
        rw [tz.length, List.length_map, List.length_range]
        unfold natsD
        rw [List.length_map]
        exact hlo
      have x7 := x6.mono s7
      refine ⟨L, z, xs6, us, rfl, rfl, s7 _ _ el6, ez, Nat.le_trans (m := 1000000) (by omega) (by decide), kn _ _ ?_⟩
      have tu8 := tup_upd' (H := H7) (o := .lst (xs6 ++ us)) (s7 _ _ el6) (fun xs => by simp)
      refine ⟨v, rws ++ [a], (A6.sm s7).upd rfl x7.o.bL (s7 _ _ el6) (fun xs => by simp), ⟨by rw [upd_ne (ne_of x7.i (s7 _ _ el6) (by simp))]; exact x7.i, x7.bb, ?_⟩, (t61.mono (same_tup s7)).mono tu8, (t62.mono (same_tup s7)).mono tu8, ?_⟩
      · rw [ep]
        exact (x7.o.more (k := 200 * g + 12) (by omega)).setL (by rw [List.length_append]; omega)
      · rw [ep]
        exact (t63.mono (same_tup s7)).mono tu8
    · rw [decide_eq_false c0] at ec
      subst ec
      have ep : pic1 f' s' p g = p := by
        unfold pic1
        rw [if_neg c0]
      rw [if_neg (by decide)]
      exact kn _ _ ⟨vt, rws, A2, by rw [ep]; exact ⟨x2.i, x2.bb, x2.o.more (by omega)⟩, t21, t22, by rw [ep]; exact t23⟩
  · obtain ⟨vt2, rws2, A2, x2, t21, t22, t23⟩ := M
    rw [etk] at t23
    have t23 : Tp H2 vt2 T'.d := t23
    have eq2 : stepPic f' s' p g = pic2 f' s' (pic1 f' s' p g) g := rfl
    refine r_cut (fun σ' H' => At W0 B H' σ' [.v (.ref b), .d (.int ((g : Int) / (f'.wide + f'.gap))), .d (spotD f' (g : Int)), .no] ∧ BeamIn C B H' b f' s' g (stepPic f' s' p g) (200 * g + 168)) (fun nx kn => ?_) (fun σ3 H3 M => ?_)
    · refine r_if ((et_test (ee_notN (ee_var rfl))) H2 σ2 H2 _ (A2.here rfl) fun c H3 r3 ec => ?_)
      rw [spot_none] at ec
      have s3 := WC.same r3
      have A3 := A2.sm s3
      have x3 := x2.mono s3
      have t31 := t21.mono (same_tup s3)
      have t32 := t22.mono (same_tup s3)
      have t33 := t23.mono (same_tup s3)
      by_cases c0 : (g : Int) % (f'.wide + f'.gap) < f'.wide
      · rw [decide_eq_true c0] at ec
        subst ec
        have es : spotD f' (g : Int) = .int ((g : Int) % (f'.wide + f'.gap)) := by
          unfold spotD
          rw [if_pos c0]
        rw [es] at A3
        obtain ⟨rows', row, er⟩ := ne_snoc hne
        have ep : stepPic f' s' p g = ⟨some T', rows' ++ [row ++ [gI s'.pots (inkAt T' ((g : Int) % (f'.wide + f'.gap)))]]⟩ := by
          rw [eq2]
          unfold pic2
          rw [if_pos c0, er, push_last, etk]
          unfold tkOf
          rw [etk]
          rfl
        rw [er] at x3 hlen hwid
        obtain ⟨rws', a, rfl, _, _⟩ := pr_snoc x3.o.rs
        have hrw := hwid row (List.mem_append_right _ List.mem_cons_self)
        have hio := ink_ok tok hmod0 c0
        have hx : atI (s'.pots.map PyData.int) (inkAt T' ((g : Int) % (f'.wide + f'.gap))) = some (.int (gI s'.pots (inkAt T' ((g : Int) % (f'.wide + f'.gap))))) := atI_int hio.1 (by rw [ok2.p1]; have := hio.2; omega)
        have ea := (x3.o.push2 0).1
        rw [if_pos rfl]
        dsimp only
        refine r_drop ?_
        refine ⟨_, A3.vv rfl, b, C, dx, _, .ref R, rfl, x3.i, T.cl, T.a_laid_rows, lk_rows, 1, rfl, R, _, -1, .ref a, rfl, rfl, SqL.of x3.o.r, by rw [List.map_append]; exact atI_last _ _, .inl ⟨rfl, _, SqL.of ea⟩, ?_⟩
        refine Ee.go (ee_ixT (K := K) (d := .int (gI s'.pots (inkAt T' ((g : Int) % (f'.wide + f'.gap))))) (ee_ixT (K := K) (d := inksD s'.pots) (ee_fld rfl x3.i T.cl T.a_now lk_now t32) ee_int rfl) (e_ink_at (t := T') hmod0 (by rw [tok.wide]; exact c0) (by have := tok.len; omega) (ea_cons (ee_fld rfl x3.i T.cl T.a_row_taken lk_taken t33) (ea_cons (ee_var rfl) ea_nil))) hx) A3 rfl fun v H4 s4 tv => ?_
        rw [tv.int_of]
        have x4 := x3.mono s4
        have A4 := A3.sm s4
        obtain ⟨ea4, hba, o5⟩ := x4.o.push2 (gI s'.pots (inkAt T' ((g : Int) % (f'.wide + f'.gap))))
        refine ⟨a, _, _, rfl, rfl, ea4, by rw [List.length_map]; exact small5 (by omega), ?_⟩
        have tu5 := tup_upd' (H := H4) (o := .lst (row.map V.int ++ [.int (gI s'.pots (inkAt T' ((g : Int) % (f'.wide + f'.gap))))])) ea4 (fun xs => by simp)
        have A5 := A4.upd rfl (o := .lst (row.map V.int ++ [.int (gI s'.pots (inkAt T' ((g : Int) % (f'.wide + f'.gap))))])) hba ea4 (fun xs => by simp)
        have x5 : BeamX C B (upd H4 a (.lst (row.map V.int ++ [.int (gI s'.pots (inkAt T' ((g : Int) % (f'.wide + f'.gap))))]))) b dx vf vs (g : Int) vt2 R D1 D2 L (rws' ++ [a]) (rows' ++ [row ++ [gI s'.pots (inkAt T' ((g : Int) % (f'.wide + f'.gap)))]]) (200 * g + 12) := ⟨by rw [upd_ne (ne_of x4.i ea4 (by simp))]; exact x4.i, x4.bb, o5⟩
        have t51 := (t31.mono (same_tup s4)).mono tu5
        have t52 := (t32.mono (same_tup s4)).mono tu5
        have t53 := (t33.mono (same_tup s4)).mono tu5
        generalize upd H4 a (.lst (row.map V.int ++ [.int (gI s'.pots (inkAt T' ((g : Int) % (f'.wide + f'.gap))))])) = H5 at A5 x5 t51 t52 t53
        have bm5 : BeamIn C B H5 b f' s' g (stepPic f' s' p g) (200 * g + 12) := by
          rw [ep]
          exact ⟨dx, vf, vs, vt2, R, D1, D2, L, _, x5, t51, t52, t53⟩
        obtain ⟨B', q1, q2, q3, bm6⟩ := bm5.rebase A5.sB
        obtain ⟨v1, ev1, tv1⟩ := A5.var (i := 1) rfl
        obtain ⟨v2, ev2, tv2⟩ := A5.var (i := 2) rfl
        rw [tv1.int_of] at ev1
        rw [tv2.int_of] at ev2
        try dsimp only
        refine r_dropZ ?_
        refine ⟨_, A5.vv rfl, b, dx, _, rfl, x5.i, no_note, _, ev1, _, ev2, rfl, B', b, f', s', g, stepPic f' s' p g, 200 * g + 12, _, _, T', rfl, by rw [ep], tok, hmod0, c0, by omega, q1, bm6, fun H6 sB6 bm7 => kn _ _ ⟨?_, bm7.down q2⟩⟩
        rw [es]
        exact A5.after rfl (same_trans q2 sB6) fun c xs e => sB6 _ _ (q3 _ _ e)
      · rw [decide_eq_false c0] at ec
        subst ec
        have ep : stepPic f' s' p g = pic1 f' s' p g := by
          rw [eq2]
          unfold pic2
          rw [if_neg c0]
        rw [if_neg (by decide)]
        refine kn _ _ ⟨A3, ?_⟩
        rw [ep]
        exact ⟨dx, vf, vs, vt2, R, D1, D2, L, rws2, ⟨x3.i, x3.bb, x3.o.more (by omega)⟩, t31, t32, by rw [etk]; exact t33⟩
    · obtain ⟨A3, ⟨dx3, vf3, vs3, vt3, R3, D13, D23, L3, rws3, x3, t31, t32, t33⟩⟩ := M
      refine ⟨_, A3.vv rfl, b, C, dx3, _, .int (g : Int), rfl, x3.i, T.cl, T.a_gone, lk_gone, (g : Int), 1, rfl, rfl, dx3, _, x3.i, len_bm, ?_⟩
      rw [put_gone]
      have tu := tup_upd' (H := H3) (o := .ins C dx3 (bmF vf3 vs3 ((g : Int) + 1) vt3 R3 D13 D23 L3)) x3.i (fun xs => by simp)
      have x4 := x3.setI (vf' := vf3) (vs' := vs3) (g' := (g : Int) + 1) (vt' := vt3)
      exact q _ (upd_same_of x3.bb A3.sB) ⟨dx3, vf3, vs3, vt3, R3, D13, D23, L3, rws3, ⟨x4.i, x4.bb, x4.o.more (by omega)⟩, t31.mono tu, t32.mono tu, t33.mono tu⟩
end
end Gw
set_option Elab.async false
set_option linter.all false
set_option maxRecDepth 100000
set_option maxHeartbeats 4000000
namespace Gw
open PySem PySem.Spec PyProof.Rows L2
/- one step of the evaluation; walk_at "ev": to its end -/
local macro_rules | `(tactic| walk_at "ev1") => `(tactic| first
  | exact ee_int | exact ee_bl | exact ee_str | exact ee_non | exact ee_var rfl | exact eo_none | exact ea_nil
  | refine' ea_cons ?_ ?_ | refine' ee_II ?_ ?_ | refine' ee_IB ?_ ?_ | refine' ee_UI ?_ | refine' ee_IC ?_ ?_ ?_
  | refine' et_test ?_ | refine' et_B ?_ | refine' et_not ?_ | refine' et_and ?_ (fun _ => ?_) | refine' et_or ?_ (fun _ => ?_)
  | refine' ee_andV ?_ (fun _ => ?_) | refine' ee_orV ?_ (fun _ => ?_) | refine' ee_notV ?_
  | refine' ee_isN ?_ | refine' ee_notN ?_ | refine' ee_eqD ?_ ?_ ?_ | refine' ee_neD ?_ ?_ ?_
  | refine' ee_ixT ?_ ?_ ?_ | refine' ee_lenT ?_ | refine' ee_isi ?_ ?_ | refine' ee_tup ?_ ?_ | refine' eo_some ?_ | refine' ee_slT ?_ ?_ ?_
  | exact ki_ii | exact ki_ib | exact ki_tt | exact ki_ss | (show atI _ _ = some _; first | rfl | assumption) | (show scalD _ _ = true; rfl) | exact Nat.le_of_ble_eq_true rfl)
local macro_rules | `(tactic| walk_at "ev") => `(tactic| repeat' walk_at "ev1")
def goPic (f : Frame) (s : Stand) (g : Nat) (p : Pic) : Nat → Pic
  | 0 => p
  | n + 1 => stepPic f s (goPic f s g p n) (g + n)
theorem goPic_ok {f : Frame} {s : Stand} {g : Nat} {p : Pic} (hf : f.Ok) (hs : s.Ok) (h : PicOk f p g) : ∀ n, PicOk f (goPic f s g p n) (g + n)
  | 0 => h
  | n + 1 => step_ok hf hs (goPic_ok hf hs h n)
/-- a list of rows of inks -/
def RowsIn (H : Hp) (us : List V) (rows : List (List Int)) : Prop := Paired (fun (v : V) (row : List Int) => ∃ a, v = .ref a ∧ H a = some (.lst (row.map V.int))) us rows
section
variable (C : Addr)
def sp_go : Sp := fun vs H Q _ => vs.length = 2 ∧ ∃ (B : Hp) (b : Addr) (f : Frame) (s : Stand) (g : Nat) (p : Pic) (m : Nat), vs = [.ref b, .int (m : Int)] ∧ f.Ok ∧ s.Ok ∧ PicOk f p g ∧ (g : Int) + m ≤ f.ticks ∧ Same B H ∧ BeamIn C B H b f s g p (200 * g) ∧ ∀ H', Same B H' → BeamIn C B H' b f s (g + m) (goPic f s g p m) (200 * (g + m)) → Q .non H'
def sp_pic : Sp := fun vs H Q _ => vs.length = 1 ∧ ∃ (B : Hp) (b : Addr) (f : Frame) (s : Stand) (g : Nat) (p : Pic) (n : Nat), vs = [.ref b] ∧ p.rows.length ≤ 10000 ∧ BeamIn C B H b f s g p n ∧ ∀ z us H', Same H H' → H z = none → H' z = some (.lst us) → RowsIn H' us p.rows → Q (.ref z) H'
def sp_init : Sp := fun vs H Q _ => vs.length = 3 ∧ ∃ (B : Hp) (b dx : Addr) (f : Frame) (s : Stand) (vf vst : V), vs = [.ref b, vf, vst] ∧ f.Ok ∧ s.Ok ∧ Tp H vf f.d ∧ Tp H vst s.d ∧ B b = none ∧ Same B H ∧ H b = some (.ins C dx []) ∧ ∀ H', Same B H' → BeamIn C B H' b f s 0 ⟨none, []⟩ 0 → Q .non H'
end
theorem r_for {wi : TI} {g : TG} {tb : TS} {D : Ends} {σ : L2.St} {H : Hp} (h : wi σ H fun J H1 => ∃ W : Nat → Nat → L2.St → Hp → Prop, (∃ m, W 0 m σ H1) ∧ ∀ i m σ H, W i m σ H →
  (J.stop i H ∧ D.nx σ H) ∨ (J.go i H ∧ ∃ N : L2.St → Hp → Prop, (∀ σ' H', N σ' H' → ∃ m', m' < m ∧ W (i + 1) m' σ' H') ∧ ∀ x H', J.yld i H x H' → g x σ H' fun σ2 H2 => tb { D with nx := N, ct := N, bk := D.nx } σ2 H2)) : tFor wi g tb D σ H := h
theorem r_next {D : Ends} {σ : L2.St} {H : Hp} (h : D.nx σ H) : tNext D σ H := h
theorem r_yes {te : TE} {σ : L2.St} {H : Hp} {A : V → Hp → Prop} {Bf : Hp → Prop} (h : te σ H A) : tYes σ H fun b H3 => if b = true then te σ H3 A else Bf H3 := by
  show if true = true then te σ H A else Bf H
  rw [if_pos rfl]
  exact h
section
variable {P : Program} {w : World} {K : PySem.W.Frag} {mg : Str → Option Value} {base : Heap} {C D : Addr}
theorem sc_go : FnScope ["self", "many", "k"] ["self", "many"] (defScope s_go) := ⟨rfl, rfl, rfl, by decide +kernel, rfl, by decide +kernel, by decide +kernel⟩
theorem mt_go (T : Txt K mg w C D) : Met P w K mg base C 5 "go" (sp_go C) := by
  have nd := sc_go.nd
  have m_one_tick := mt_one_tick (P := P) (w := w) (base := base) T
  have c_ticks_of := c_ticks_of (P := P) (w := w) (base := base) T
  refine mkMet T.m_go T.cl (fun _ _ _ _ _ _ us hl => match us, hl with | [_, _], _ => rfl) sc_go (fun _ _ _ _ q => q.1) (fun f cdv A outer s H E hr => ⟨_, (pss_cons (ps_if (pt_cmpR op_gt (pe_op op_add (pe_fldK (K := K) rfl (pv 0) rfl) (pv 1)) (pe_c c_ticks_of hr (by decide) (by rfl) (pa_cons (pe_fldK (K := K) rfl (pv 0) rfl) pa_nil)) (nomark _)) (pss_one ps_never) pss_nil) (pss_one (ps_for PassesOwn.never rfl (pi_range1 (by rfl) T.b_range (pa_cons (pv 1) pa_nil)) (pg_name (i := 2) nd rfl (by first | exact Or.inl rfl | exact Or.inr rfl)) (pss_one (ps_expr (pe_mB0 m_one_tick hr (by decide) (pv 0))))))), fun vs Q q => ?_⟩)
  obtain ⟨_, B, b, f', s', g, p, m, rfl, ok, ok2, pok, hg, sB, bm, q⟩ := q
  have htk := ticks_le ok
  have A : At W0 B H (L2.start ["self", "many", "k"] [.ref b, .int (m : Int)]) [.v (.ref b), .d (.int (m : Int)), .no] := ⟨trivial, Wd.same sB, .cons rfl (.cons ⟨_, rfl, .int _⟩ (.cons trivial .nil))⟩
  obtain ⟨dx, vf, vs, vt, R, D1, D2, L, rws, x, t1, t2, t3⟩ := id bm
  refine r_seq (r_if ((et_test (ee_IB (ee_II (ee_fld rfl x.i T.cl T.a_gone lk_gone (.int _)) (ee_var rfl)) (e_ticks_of ok (ea_cons (ee_fld rfl x.i T.cl T.a_frame lk_frame t1) ea_nil)))) H _ H _ (A.here rfl) fun c H1 r1 ec => ?_))
  rw [decide_eq_false (by omega)] at ec
  subst ec
  have s1 := WC.same r1
  rw [if_neg (by decide)]
  have A1 := A.sm s1
  obtain ⟨v1, ev1, tv1⟩ := A1.var (i := 1) rfl
  rw [tv1.int_of] at ev1
  refine r_next ?_
  dsimp only
  refine r_for ?_
  refine ⟨_, ev1, (m : Int), rfl, by omega, by omega, for_it (walk_range (lo := 0) (n := (m : Int).toNat)) (fun i σ' H' => At W0 B H' σ' [.v (.ref b), .d (.int (m : Int)), .no] ∧ BeamIn C B H' b f' s' (g + i) (goPic f' s' g p i) (200 * (g + i))) ⟨A1, bm.mono s1⟩ (fun i σ' H' _ _ => trivial) (fun i y σ2 H2 H3 hi P2 Y => ?_) (fun σ2 H2 P2 => ?_)⟩
  · obtain ⟨A2, bm2⟩ := P2
    obtain ⟨rfl, rfl⟩ := Y
    have A3 := A2.setN (some (.int (0 + (i : Int)))) 2
    obtain ⟨B', q1, q2, q3, bm3⟩ := bm2.rebase A2.sB
    obtain ⟨dx, vf, vs, vt, R, D1, D2, L, rws, x, t1, t2, t3⟩ := id bm2
    exact r_dropZ ⟨_, A3.vv rfl, b, dx, _, rfl, x.i, no_one, rfl, B', b, f', s', g + i, goPic f' s' g p i, rfl, ok, ok2, goPic_ok ok ok2 pok i, by omega, q1, bm3, fun H4 s4 bm4 => ⟨A3.after rfl (same_trans q2 s4) fun c xs e => s4 _ _ (q3 _ _ e), bm4.down q2⟩⟩
  · obtain ⟨A2, bm2⟩ := P2
    rw [Int.toNat_natCast] at bm2
    exact q H2 A2.sB bm2
theorem sc_init : FnScope ["self", "frame", "stand"] ["self", "frame", "stand"] (defScope s_init) := ⟨rfl, rfl, rfl, by decide +kernel, rfl, by decide +kernel, by decide +kernel⟩
theorem mk_Beam (T : Txt K mg w C D) : Mak P w K mg base C 7 "Beam" (sp_init C) := by
  have nd := sc_init.nd
  have c_need_frame := c_need_frame (P := P) (w := w) (base := base) T
  have c_need_stand := c_need_stand (P := P) (w := w) (base := base) T
  obtain ⟨fi, fdi, Fi, Mi⟩ := T.mkr
  refine mkMak Fi Mi T.gC (fun _ _ _ _ _ _ us hl => match us, hl with | [_, _, _], _ => rfl) sc_init (fun _ _ _ _ q => q.1) (fun f cdv A outer s H E hr => ⟨_, (pss_cons (ps_expr (pe_c c_need_frame hr (by decide) (by rfl) (pa_cons (pv 1) pa_nil))) (pss_cons (ps_expr (pe_c c_need_stand hr (by decide) (by rfl) (pa_cons (pv 2) pa_nil))) (pss_cons (ps_fld (pv 0) (pv 1) rfl) (pss_cons (ps_fld (pv 0) (pv 2) rfl) (pss_cons (ps_fld (pv 0) pe_int rfl) (pss_cons (ps_fld (pv 0) pe_non rfl) (pss_cons (ps_fld (pv 0) (pe_lst pa_nil) rfl) (pss_cons (ps_fld (pv 0) pe_dnewT rfl) (pss_cons (ps_fld (pv 0) pe_dnewK rfl) (pss_one (ps_fld (pv 0) (pe_lst pa_nil) rfl))))))))))), fun vs Q q => ?_⟩)
  obtain ⟨_, B, b, dx, f', s', vf, vst, rfl, ok, ok2, t1, t2, hb, sB, e, q⟩ := q
  have A : At W0 B H (L2.start ["self", "frame", "stand"] [.ref b, vf, vst]) [.v (.ref b), .d f'.d, .d s'.d] := ⟨trivial, Wd.same sB, .cons rfl (.cons ⟨_, rfl, t1⟩ (.cons ⟨_, rfl, t2⟩ .nil))⟩
  refine r_drop (Ee.go (e_need_frame ok (ea_cons (ee_var rfl) ea_nil)) A rfl fun v H1 s1 _ => ?_)
  have A1 := A.sm s1
  refine r_drop (Ee.go (e_need_stand ok2 (ea_cons (ee_var rfl) ea_nil)) A1 rfl fun v H2 s2 _ => ?_)
  have A2 := A1.sm s2
  have e2 := s2 _ _ (s1 _ _ e)
  clear A A1 e s1 s2
  have u1 := t1
  obtain ⟨v1, ev1, tv1⟩ := A2.var (i := 1) rfl
  obtain ⟨v2, ev2, tv2⟩ := A2.var (i := 2) rfl
  try dsimp only
  refine r_seq (r_fld ?_)
  refine ⟨v1, ev1, _, A2.vv rfl, b, C, dx, _, rfl, e2, T.cl, T.a_frame, by decide, ?_⟩
  have A3 := A2.upd rfl (o := .ins C dx (putF "frame" v1 [])) hb e2 (fun xs => by simp)
  have e3 : upd H2 b (.ins C dx (putF "frame" v1 [])) b = some (.ins C dx [("frame", v1)]) := upd_same
  have tu3 := tup_upd' (H := H2) (o := .ins C dx (putF "frame" v1 [])) e2 (fun xs => by simp)
  replace tv1 := tv1.mono tu3
  replace tv2 := tv2.mono tu3
  generalize upd H2 b (.ins C dx (putF "frame" v1 [])) = H3 at A3 e3 tv1 tv2
  try dsimp only
  refine r_seq (r_fld ?_)
  refine ⟨v2, ev2, _, A3.vv rfl, b, C, dx, _, rfl, e3, T.cl, T.a_now, by simp, ?_⟩
  have A4 := A3.upd rfl (o := .ins C dx (putF "now" v2 [("frame", v1)])) hb e3 (fun xs => by simp)
  have e4 : upd H3 b (.ins C dx (putF "now" v2 [("frame", v1)])) b = some (.ins C dx [("frame", v1), ("now", v2)]) := upd_same
  have tu4 := tup_upd' (H := H3) (o := .ins C dx (putF "now" v2 [("frame", v1)])) e3 (fun xs => by simp)
  replace tv1 := tv1.mono tu4
  replace tv2 := tv2.mono tu4
  generalize upd H3 b (.ins C dx (putF "now" v2 [("frame", v1)])) = H4 at A4 e4 tv1 tv2
  try dsimp only
  refine r_seq (r_fld ?_)
  refine ⟨_, A4.vv rfl, b, C, dx, _, rfl, e4, T.cl, T.a_gone, by simp, ?_⟩
  have A5 := A4.upd rfl (o := .ins C dx (putF "gone" (.int 0) [("frame", v1), ("now", v2)])) hb e4 (fun xs => by simp)
  have e5 : upd H4 b (.ins C dx (putF "gone" (.int 0) [("frame", v1), ("now", v2)])) b = some (.ins C dx [("frame", v1), ("now", v2), ("gone", .int 0)]) := upd_same
  have tu5 := tup_upd' (H := H4) (o := .ins C dx (putF "gone" (.int 0) [("frame", v1), ("now", v2)])) e4 (fun xs => by simp)
  replace tv1 := tv1.mono tu5
  replace tv2 := tv2.mono tu5
  generalize upd H4 b (.ins C dx (putF "gone" (.int 0) [("frame", v1), ("now", v2)])) = H5 at A5 e5 tv1 tv2
  try dsimp only
  refine r_seq (r_fld ?_)
  refine ⟨_, A5.vv rfl, b, C, dx, _, rfl, e5, T.cl, T.a_row_taken, by simp, ?_⟩
  have A6 := A5.upd rfl (o := .ins C dx (putF "row_taken" .non [("frame", v1), ("now", v2), ("gone", .int 0)])) hb e5 (fun xs => by simp)
  have e6 : upd H5 b (.ins C dx (putF "row_taken" .non [("frame", v1), ("now", v2), ("gone", .int 0)])) b = some (.ins C dx [("frame", v1), ("now", v2), ("gone", .int 0), ("row_taken", .non)]) := upd_same
  have tu6 := tup_upd' (H := H5) (o := .ins C dx (putF "row_taken" .non [("frame", v1), ("now", v2), ("gone", .int 0)])) e5 (fun xs => by simp)
  replace tv1 := tv1.mono tu6
  replace tv2 := tv2.mono tu6
  generalize upd H5 b (.ins C dx (putF "row_taken" .non [("frame", v1), ("now", v2), ("gone", .int 0)])) = H6 at A6 e6 tv1 tv2
  /- laid_rows -/
  try dsimp only
  refine r_seq (r_fld ?_)
  refine ⟨by decide, fun R hR => ⟨_, A6.vv rfl, b, C, dx, _, rfl, same_new hR _ _ e6, T.cl, T.a_laid_rows, by simp, ?_⟩⟩
  have hRb : B R = none := Wd.back (W := W0) trivial A6.r hR
  have s7 : Same H6 (upd H6 R (.lst [])) := same_new hR
  have eb7 := s7 _ _ e6
  have A7 := (A6.sm s7).upd rfl (o := .ins C dx (putF "laid_rows" (.ref R) [("frame", v1), ("now", v2), ("gone", .int 0), ("row_taken", .non)])) hb eb7 (fun xs => by simp)
  have e7 : upd (upd H6 R (.lst [])) b (.ins C dx (putF "laid_rows" (.ref R) [("frame", v1), ("now", v2), ("gone", .int 0), ("row_taken", .non)])) b = some (.ins C dx [("frame", v1), ("now", v2), ("gone", .int 0), ("row_taken", .non), ("laid_rows", .ref R)]) := upd_same
  have tu7 := tup_upd' (H := upd H6 R (.lst [])) (o := .ins C dx (putF "laid_rows" (.ref R) [("frame", v1), ("now", v2), ("gone", .int 0), ("row_taken", .non)])) eb7 (fun xs => by simp)
  have fR : upd (upd H6 R (.lst [])) b (.ins C dx (putF "laid_rows" (.ref R) [("frame", v1), ("now", v2), ("gone", .int 0), ("row_taken", .non)])) R = some (.lst []) := by
    rw [upd_ne (fresh_ne hR e6), upd_same]
  replace tv1 := (tv1.mono (same_tup s7)).mono tu7
  replace tv2 := (tv2.mono (same_tup s7)).mono tu7
  generalize upd (upd H6 R (.lst [])) b (.ins C dx (putF "laid_rows" (.ref R) [("frame", v1), ("now", v2), ("gone", .int 0), ("row_taken", .non)])) = H7 at A7 e7 tv1 tv2 fR
  /- met -/
  try dsimp only
  refine r_seq (r_fld ?_)
  refine fun D1 hD1 => ⟨_, A7.vv rfl, b, C, dx, _, rfl, same_new hD1 _ _ e7, T.cl, T.a_met, by simp, ?_⟩
  have hD1b : B D1 = none := Wd.back (W := W0) trivial A7.r hD1
  have s8 : Same H7 (upd H7 D1 (.dT [])) := same_new hD1
  have eb8 := s8 _ _ e7
  have A8 := (A7.sm s8).upd rfl (o := .ins C dx (putF "met" (.ref D1) [("frame", v1), ("now", v2), ("gone", .int 0), ("row_taken", .non), ("laid_rows", .ref R)])) hb eb8 (fun xs => by simp)
  have e8 : upd (upd H7 D1 (.dT [])) b (.ins C dx (putF "met" (.ref D1) [("frame", v1), ("now", v2), ("gone", .int 0), ("row_taken", .non), ("laid_rows", .ref R)])) b = some (.ins C dx [("frame", v1), ("now", v2), ("gone", .int 0), ("row_taken", .non), ("laid_rows", .ref R), ("met", .ref D1)]) := upd_same
  have tu8 := tup_upd' (H := upd H7 D1 (.dT [])) (o := .ins C dx (putF "met" (.ref D1) [("frame", v1), ("now", v2), ("gone", .int 0), ("row_taken", .non), ("laid_rows", .ref R)])) eb8 (fun xs => by simp)
  have f1 : upd (upd H7 D1 (.dT [])) b (.ins C dx (putF "met" (.ref D1) [("frame", v1), ("now", v2), ("gone", .int 0), ("row_taken", .non), ("laid_rows", .ref R)])) D1 = some (.dT []) := by
    rw [upd_ne (fresh_ne hD1 e7), upd_same]
  replace fR : upd (upd H7 D1 (.dT [])) b (.ins C dx (putF "met" (.ref D1) [("frame", v1), ("now", v2), ("gone", .int 0), ("row_taken", .non), ("laid_rows", .ref R)])) R = some (.lst []) := by
    rw [upd_ne (ne_of (s8 _ _ fR) eb8 (by simp))]
    exact s8 _ _ fR
  replace tv1 := (tv1.mono (same_tup s8)).mono tu8
  replace tv2 := (tv2.mono (same_tup s8)).mono tu8
  generalize upd (upd H7 D1 (.dT [])) b (.ins C dx (putF "met" (.ref D1) [("frame", v1), ("now", v2), ("gone", .int 0), ("row_taken", .non), ("laid_rows", .ref R)])) = H8 at A8 e8 tv1 tv2 fR f1
  /- grounded -/
  try dsimp only
  refine r_seq (r_fld ?_)
  refine fun D2 hD2 => ⟨_, A8.vv rfl, b, C, dx, _, rfl, same_new hD2 _ _ e8, T.cl, T.a_grounded, by simp, ?_⟩
  have hD2b : B D2 = none := Wd.back (W := W0) trivial A8.r hD2
  have s9 : Same H8 (upd H8 D2 (.dK [])) := same_new hD2
  have eb9 := s9 _ _ e8
  have A9 := (A8.sm s9).upd rfl (o := .ins C dx (putF "grounded" (.ref D2) [("frame", v1), ("now", v2), ("gone", .int 0), ("row_taken", .non), ("laid_rows", .ref R), ("met", .ref D1)])) hb eb9 (fun xs => by simp)
  have e9 : upd (upd H8 D2 (.dK [])) b (.ins C dx (putF "grounded" (.ref D2) [("frame", v1), ("now", v2), ("gone", .int 0), ("row_taken", .non), ("laid_rows", .ref R), ("met", .ref D1)])) b = some (.ins C dx [("frame", v1), ("now", v2), ("gone", .int 0), ("row_taken", .non), ("laid_rows", .ref R), ("met", .ref D1), ("grounded", .ref D2)]) := upd_same
  have tu9 := tup_upd' (H := upd H8 D2 (.dK [])) (o := .ins C dx (putF "grounded" (.ref D2) [("frame", v1), ("now", v2), ("gone", .int 0), ("row_taken", .non), ("laid_rows", .ref R), ("met", .ref D1)])) eb9 (fun xs => by simp)
  have f2 : upd (upd H8 D2 (.dK [])) b (.ins C dx (putF "grounded" (.ref D2) [("frame", v1), ("now", v2), ("gone", .int 0), ("row_taken", .non), ("laid_rows", .ref R), ("met", .ref D1)])) D2 = some (.dK []) := by
    rw [upd_ne (fresh_ne hD2 e8), upd_same]
  replace fR : upd (upd H8 D2 (.dK [])) b (.ins C dx (putF "grounded" (.ref D2) [("frame", v1), ("now", v2), ("gone", .int 0), ("row_taken", .non), ("laid_rows", .ref R), ("met", .ref D1)])) R = some (.lst []) := by
    rw [upd_ne (ne_of (s9 _ _ fR) eb9 (by simp))]
    exact s9 _ _ fR
  replace f1 : upd (upd H8 D2 (.dK [])) b (.ins C dx (putF "grounded" (.ref D2) [("frame", v1), ("now", v2), ("gone", .int 0), ("row_taken", .non), ("laid_rows", .ref R), ("met", .ref D1)])) D1 = some (.dT []) := by
    rw [upd_ne (ne_of (s9 _ _ f1) eb9 (by simp))]
    exact s9 _ _ f1
  replace tv1 := (tv1.mono (same_tup s9)).mono tu9
  replace tv2 := (tv2.mono (same_tup s9)).mono tu9
  generalize upd (upd H8 D2 (.dK [])) b (.ins C dx (putF "grounded" (.ref D2) [("frame", v1), ("now", v2), ("gone", .int 0), ("row_taken", .non), ("laid_rows", .ref R), ("met", .ref D1)])) = H9 at A9 e9 tv1 tv2 fR f1 f2
  /- lost_ones -/
  try dsimp only
  refine r_fld ?_
  refine ⟨by decide, fun L hL => ⟨_, A9.vv rfl, b, C, dx, _, rfl, same_new hL _ _ e9, T.cl, T.a_lost_ones, by simp, ?_⟩⟩
  have hLb : B L = none := Wd.back (W := W0) trivial A9.r hL
  have s10 : Same H9 (upd H9 L (.lst [])) := same_new hL
  have eb10 := s10 _ _ e9
  have tu10 := tup_upd' (H := upd H9 L (.lst [])) (o := .ins C dx (putF "lost_ones" (.ref L) [("frame", v1), ("now", v2), ("gone", .int 0), ("row_taken", .non), ("laid_rows", .ref R), ("met", .ref D1), ("grounded", .ref D2)])) eb10 (fun xs => by simp)
  refine q _ (upd_same_of hb (same_trans A9.sB s10)) ⟨dx, v1, v2, .non, R, D1, D2, L, [], ⟨upd_same, hb, ?_⟩, (tv1.mono (same_tup s10)).mono tu10, (tv2.mono (same_tup s10)).mono tu10, .non⟩
  refine ⟨?_, .nil, ⟨[], ?_, by simp⟩, ⟨[], ?_, by simp⟩, ⟨[], ?_, by simp⟩, ?_, hRb, hD1b, hD2b, hLb, fun a ha => by cases ha⟩
  · rw [upd_ne (ne_of (s10 _ _ fR) eb10 (by simp))]
    exact s10 _ _ fR
  · rw [upd_ne (ne_of (s10 _ _ f1) eb10 (by simp))]
    exact s10 _ _ f1
  · rw [upd_ne (ne_of (s10 _ _ f2) eb10 (by simp))]
    exact s10 _ _ f2
  · rw [upd_ne (fresh_ne hL e9), upd_same]
  · have hRL := fresh_ne hL fR
    simp [Ne.symm hRL]
theorem sc_picture : FnScope ["self", "row"] ["self"] (defScope s_picture) := ⟨rfl, rfl, rfl, by decide +kernel, rfl, by decide +kernel, by decide +kernel⟩
theorem mt_picture (T : Txt K mg w C D) : Met P w K mg base C 1 "picture" (sp_pic C) := by
  have nd := sc_picture.nd
  refine mkMet T.m_picture T.cl (fun _ _ _ _ _ _ us hl => match us, hl with | [_], _ => rfl) sc_picture (fun _ _ _ _ q => q.1) (fun f cdv A outer s H E hr => ⟨_, (pss_one (ps_ret (pe_lc (own := [("row", 1)]) (by rfl) nd (pi_listK (K := K) rfl (pe_fldK (K := K) rfl (pv 0) rfl)) (blkOk_by (N := ["self", "row"]) (sc := defScope s_picture) (by decide +kernel)) (fun _ _ _ _ _ => (pg_name (i := 1) nd rfl (by first | exact Or.inl rfl | exact Or.inr rfl))) (fun _ _ _ _ _ => pts_nil) (fun _ _ _ _ _ => (pe_callTy (call_listK (K := K) rfl) (by rfl) T.b_list (by decide +kernel) (pa_cons (pv 1) pa_nil)))))), fun vs Q q => ?_⟩)
  obtain ⟨_, B, b, f', s', g, p, n, rfl, hlen, ⟨dx, vf, vs, vt, R, D1, D2, L, rws, x, t1, t2, t3⟩, q⟩ := q
  refine r_ret ⟨_, rfl, b, C, dx, _, .ref R, rfl, x.i, T.cl, T.a_laid_rows, lk_rows, R, rfl, ⟨_, SqL.of x.o.r⟩, fun z hz => lc_it walk_list (fun i H' => Same H H' ∧ ∃ acc, H' z = some (.lst acc) ∧ acc.length = i ∧ Paired (fun (v : V) (row : List Int) => ∃ a, v = .ref a ∧ a ≠ z ∧ H' a = some (.lst (row.map V.int))) acc (p.rows.take i)) ⟨same_new hz, [], upd_same, rfl, .nil⟩ (fun i H' _ h => SqL.of (h.1 _ _ x.o.r)) (fun i y H2 H3 hi h Y => ?_) (fun H' h => ?_)⟩
  · obtain ⟨rfl, ey⟩ := Y
    obtain ⟨s2, acc, ez, hl, pr⟩ := h
    rw [List.length_map] at hi
    have hp := pr_len x.o.rs
    rw [List.getElem?_map, List.getElem?_eq_getElem hi] at ey
    have ey := Option.some.inj ey
    subst ey
    obtain ⟨row, er, ea⟩ := pr_getL (i := i) x.o.rs (List.getElem?_eq_getElem hi)
    refine ⟨rfl, ?_⟩
    refine r_yes ?_
    refine ⟨.ref rws[i], rfl, rws[i], _, rfl, .inl (SqL.of (s2 _ _ ea)), fun c hc => ?_⟩
    have hcz := fresh_ne hc ez
    refine ⟨acc, by rw [upd_ne (Ne.symm hcz)]; exact ez, by rw [hl]; exact small5 (by omega), ?_, acc ++ [.ref c], upd_same, by rw [List.length_append, hl]; rfl, ?_⟩
    · intro a o e
      have h1 : a ≠ z := by
        intro w
        rw [w, hz] at e
        cases e
      rw [upd_ne h1, upd_ne fun w => by rw [w] at e; rw [s2 _ _ e] at hc; cases hc]
      exact s2 _ _ e
    · rw [take_succ' er]
      refine Paired.snoc (L2.Paired.mapP pr fun v row h => ?_) ⟨c, rfl, hcz, by rw [upd_ne hcz, upd_same]⟩
      obtain ⟨a, e1, e2, e3⟩ := h
      exact ⟨a, e1, e2, by rw [upd_ne e2, upd_ne fun w => by rw [w, hc] at e3; cases e3]; exact e3⟩
  · obtain ⟨s2, acc, ez, hl, pr⟩ := h
    rw [List.length_map, pr_len x.o.rs, List.take_length] at pr
    exact q z acc H' s2 hz ez (L2.Paired.mapP pr fun v row h => by
      obtain ⟨a, e1, e2, e3⟩ := h
      exact ⟨a, e1, e3⟩)
end
end Gw
set_option Elab.async false
set_option linter.all false
set_option maxRecDepth 100000
set_option maxHeartbeats 4000000
namespace Gw
open PySem PySem.Spec PyProof.Rows L2
/- one step of the evaluation; walk_at "ev": to its end -/
local macro_rules | `(tactic| walk_at "ev1") => `(tactic| first
  | exact ee_int | exact ee_bl | exact ee_str | exact ee_non | exact ee_var rfl | exact eo_none | exact ea_nil
  | refine' ea_cons ?_ ?_ | refine' ee_II ?_ ?_ | refine' ee_IB ?_ ?_ | refine' ee_UI ?_ | refine' ee_IC ?_ ?_ ?_
  | refine' et_test ?_ | refine' et_B ?_ | refine' et_not ?_ | refine' et_and ?_ (fun _ => ?_) | refine' et_or ?_ (fun _ => ?_)
  | refine' ee_andV ?_ (fun _ => ?_) | refine' ee_orV ?_ (fun _ => ?_) | refine' ee_notV ?_
  | refine' ee_isN ?_ | refine' ee_notN ?_ | refine' ee_eqD ?_ ?_ ?_ | refine' ee_neD ?_ ?_ ?_
  | refine' ee_ixT ?_ ?_ ?_ | refine' ee_lenT ?_ | refine' ee_isi ?_ ?_ | refine' ee_tup ?_ ?_ | refine' eo_some ?_ | refine' ee_slT ?_ ?_ ?_
  | exact ki_ii | exact ki_ib | exact ki_tt | exact ki_ss | (show atI _ _ = some _; first | rfl | assumption) | (show scalD _ _ = true; rfl) | exact Nat.le_of_ble_eq_true rfl)
local macro_rules | `(tactic| walk_at "ev") => `(tactic| repeat' walk_at "ev1")
def sp_times : Sp := fun vs H Q _ => vs.length = 2 ∧ ∃ (vf : V) (tl : Addr) (tvs : List V) (f : Frame) (s : Stand) (l : Timed), vs = [vf, .ref tl] ∧ f.Ok ∧ Tp H vf f.d ∧ H tl = some (.lst tvs) ∧ TpA H tvs (timedD l) ∧ TOk f s l ∧ ∀ H', Same H H' → Q .non H'
/-- the beam over the whole frame -/
def sp_laid (C : Addr) : Sp := fun vs H Q _ => vs.length = 3 ∧ ∃ (vf vst : V) (tl : Addr) (tvs : List V) (f : Frame) (s : Stand) (l : Timed), vs = [vf, vst, .ref tl] ∧ f.Ok ∧ s.Ok ∧ TOk f s l ∧ Tp H vf f.d ∧ Tp H vst s.d ∧ H tl = some (.lst tvs) ∧ TpA H tvs (timedD l) ∧
  ∀ b H' s' n, Same H H' → BeamIn C H H' b f s' f.ticks.toNat (picTo f s l f.ticks.toNat) n → Q (.ref b) H'
/-- the tick that is reached ahead of the j-th deed -/
def reach (l : Timed) : Nat → Nat
  | 0 => 0
  | j + 1 => match l[j]? with
    | some x => x.1.toNat
    | none => 0
theorem reach_succ {l : Timed} {j : Nat} {x : Int × Deed} (e : l[j]? = some x) : reach l (j + 1) = x.1.toNat := by
  show (match l[j]? with
    | some x => x.1.toNat
    | none => 0) = _
  rw [e]
theorem r_op {r : R2} {ta tb : TE} {σ : L2.St} {H : Hp} {Q : VK} (h : ta σ H fun x H1 => tb σ H1 fun y H2 => r x y H2 Q) : tOp r ta tb σ H Q := h
theorem r_cons {te : TE} {tr : TA} {σ : L2.St} {H : Hp} {Q : List V → Hp → Prop} (h : te σ H fun v H1 => tr σ H1 fun vs H2 => Q (v :: vs) H2) : tCons te tr σ H Q := h
theorem take_get {α : Type} {l : List α} {j : Nat} {x : α} (h : x ∈ l.take j) : ∃ i, i < j ∧ l[i]? = some x := by
  obtain ⟨i, hi, e⟩ := List.getElem_of_mem h
  rw [List.length_take] at hi
  refine ⟨i, by omega, ?_⟩
  rw [List.getElem_take] at e
  rw [List.getElem?_eq_getElem (by omega), e]
theorem drop_get {α : Type} {l : List α} {j : Nat} {x : α} (h : x ∈ l.drop j) : ∃ i, j ≤ i ∧ l[i]? = some x := by
  obtain ⟨i, hi, e⟩ := List.getElem_of_mem h
  rw [List.length_drop] at hi
  refine ⟨j + i, by omega, ?_⟩
  rw [List.getElem_drop] at e
  rw [List.getElem?_eq_getElem (by omega), e]
theorem asc_le {l : Timed} (h : l.Pairwise (fun x y => x.1 ≤ y.1)) {i j : Nat} {x y : Int × Deed} (hij : i ≤ j) (hx : l[i]? = some x) (hy : l[j]? = some y) : x.1 ≤ y.1 := by
  obtain ⟨hi, rfl⟩ := List.getElem?_eq_some_iff.mp hx
  obtain ⟨hj, rfl⟩ := List.getElem?_eq_some_iff.mp hy
  rcases Nat.lt_or_eq_of_le hij with q | q
  · exact List.pairwise_iff_getElem.mp h i j hi hj q
  · subst q
    exact Int.le_refl _
theorem TOk.at {f : Frame} {s : Stand} {l : Timed} (h : TOk f s l) {i : Nat} {x : Int × Deed} (e : l[i]? = some x) : 0 ≤ x.1 ∧ x.1 < f.ticks ∧ x.2.Ok s :=
  have m := List.mem_of_getElem? e
  ⟨h.lo x m, h.hi x m, h.ok x m⟩
theorem cut_reach {f : Frame} {s : Stand} {l : Timed} (h : TOk f s l) {j t : Nat} (hj : j ≤ l.length) (h1 : reach l j ≤ t) (h2 : ∀ x, l[j]? = some x → (t : Int) < x.1) : Cut l j t := by
  refine ⟨hj, fun x hx => ?_, fun x hx => ?_⟩
  · obtain ⟨i, hi, e⟩ := take_get hx
    cases j with
    | zero => omega
    | succ j =>
      have ej := List.getElem?_eq_getElem (l := l) (i := j) (by omega)
      have hle := asc_le h.asc (show i ≤ j by omega) e ej
      rw [reach_succ ej] at h1
      omega
  · obtain ⟨i, hi, e⟩ := drop_get hx
    obtain ⟨hil, _⟩ := List.getElem?_eq_some_iff.mp e
    have ej := List.getElem?_eq_getElem (l := l) (i := j) (by omega)
    have hle := asc_le h.asc hi ej e
    have := h2 _ ej
    omega
theorem go_picTo {f : Frame} {s : Stand} {l : Timed} {sj : Stand} {g : Nat} : ∀ {m : Nat}, (∀ i, i < m → standBy s l (g + i) = sj) → goPic f sj g (picTo f s l g) m = picTo f s l (g + m)
  | 0, _ => rfl
  | m + 1, h => by
    show stepPic f sj (goPic f sj g (picTo f s l g) m) (g + m) = picTo f s l (g + m + 1)
    rw [picTo_succ, go_picTo fun i hi => h i (by omega), h m (by omega)]
theorem go_reach {f : Frame} {s : Stand} {l : Timed} (h : TOk f s l) {j m : Nat} (hj : j ≤ l.length) (h2 : ∀ x, l[j]? = some x → ((reach l j + m : Nat) : Int) ≤ x.1) :
    goPic f (after s (l.take j)) (reach l j) (picTo f s l (reach l j)) m = picTo f s l (reach l j + m) := go_picTo fun i hi => standBy_cut (cut_reach h hj (by omega) fun x e => by
  have := h2 x e
  omega)
theorem timed_at {l : Timed} {j : Nat} {x : Int × Deed} (e : l[j]? = some x) : (timedD l)[j]? = some (.tuple [.int x.1, x.2.d]) := by
  unfold timedD
  rw [List.getElem?_map, e]
  rfl
section
variable {P : Program} {w : World} {K : PySem.W.Frag} {mg : Str → Option Value} {base : Heap} {C D : Addr}
theorem sc_need_times : FnScope ["frame", "timed", "last", "tick", "deed"] ["frame", "timed"] (defScope s_need_times) := ⟨rfl, rfl, rfl, by decide +kernel, rfl, by decide +kernel, by decide +kernel⟩
theorem c_need_times (T : Txt K mg w C D) : Cal P w K mg base 3 "need_times" sp_times := by
  have nd := sc_need_times.nd
  have c_place_of := c_place_of (P := P) (w := w) (base := base) T
  refine mkR T.f_need_times (fun _ _ _ _ _ _ us hl => match us, hl with | [_, _], _ => rfl) sc_need_times (fun _ _ _ _ q => q.1) (fun f cdv A outer s H E hr => ⟨_, (pss_cons (ps_set (i := 2) nd rfl (by first | exact Or.inl rfl | exact Or.inr rfl) pe_int) (pss_one (ps_for PassesOwn.never rfl (pi_listK (K := K) rfl (pv 1)) (pg_tupK (K := K) (n := 2) rfl (by rfl) (pgs_cons (pg_name (i := 3) nd rfl (by first | exact Or.inl rfl | exact Or.inr rfl)) (pgs_cons (pg_name (i := 4) nd rfl (by first | exact Or.inl rfl | exact Or.inr rfl)) pgs_nil))) (pss_cons (ps_expr (pe_c c_place_of hr (by decide) (by rfl) (pa_cons (pv 0) (pa_cons (pv 3) pa_nil)))) (pss_cons (ps_if (pt_cmpR op_lt (pv 3) (pv 2) (nomark _)) (pss_one ps_never) pss_nil) (pss_one (ps_set (i := 2) nd rfl (by first | exact Or.inl rfl | exact Or.inr rfl) (pv 3)))))))), fun vs Q q => ?_⟩)
  obtain ⟨_, vf, tl, tvs, f', s', l, rfl, ok, t1, et, tt, tok, q⟩ := q
  have hlen := tt.length
  have hl2 : (timedD l).length = l.length := by unfold timedD; rw [List.length_map]
  have A : At W0 H H (L2.start ["frame", "timed", "last", "tick", "deed"] [vf, .ref tl]) [.d f'.d, .v (.ref tl), .no, .no, .no] := ⟨trivial, Wd.refl _ _, .cons ⟨_, rfl, t1⟩ (.cons rfl (.cons trivial (.cons trivial (.cons trivial .nil))))⟩
  refine r_asg ?_
  have A1 : At W0 H H _ [.d f'.d, .v (.ref tl), .d (.int (reach l 0 : Nat)), .no, .no] := A.setD (.int 0) 2
  refine r_for ?_
  refine ⟨_, A1.vv rfl, tl, rfl, ⟨_, SqL.of et⟩, for_it walk_list (fun i σ' H' => At W0 H H' σ' [.d f'.d, .v (.ref tl), .d (.int (reach l i : Nat)), .no, .no]) A1 (fun i σ' H' _ p => SqL.of (p.sB _ _ et)) (fun i y σ2 H2 H3 hi p Y => ?_) (fun σ' H' p => q H' p.sB)⟩
  obtain ⟨rfl, ey⟩ := Y
  have hi' : i < l.length := by omega
  have ex := List.getElem?_eq_getElem hi'
  obtain ⟨d, ed, td⟩ := (tt.mono (same_tup p.sB)).getV ey
  rw [timed_at ex] at ed
  have ed := Option.some.inj ed
  subst ed
  obtain ⟨b0, b1, b2⟩ := tok.at ex
  refine (gd_tup (K := K) (gds_cons (W := W0) (gd_name (i := 3)) (gds_cons (gd_name (i := 4)) gds_nil)) rfl) H y _ _ _ p td fun σ3 A3 _ _ => ?_
  have A3 : At W0 H H3 σ3 [.d f'.d, .v (.ref tl), .d (.int (reach l i : Nat)), .d (.int l[i].1), .d l[i].2.d] := A3
  refine r_drop (Ee.go (e_place_of ok b0 b1 (ea_cons (ee_var rfl) (ea_cons (ee_var rfl) ea_nil))) A3 rfl fun v H4 s4 _ => ?_)
  have A4 := A3.sm s4
  have hle : (reach l i : Int) ≤ l[i].1 := by
    cases i with
    | zero => exact b0
    | succ j =>
      have ej := List.getElem?_eq_getElem (l := l) (i := j) (by omega)
      have := asc_le tok.asc (show j ≤ j + 1 by omega) ej ex
      have := (tok.at ej).1
      rw [reach_succ ej]
      show ((l[j].1.toNat : Nat) : Int) ≤ _
      omega
  dsimp only
  refine r_seq (r_if ((et_test (ee_IB (ee_var rfl) (ee_var rfl))) H4 σ3 H4 _ (A4.here rfl) fun c H5 r5 ec => ?_))
  rw [decide_eq_false (by omega)] at ec
  subst ec
  have A5 := A4.sm (WC.same r5)
  rw [if_neg (by decide)]
  refine r_next ?_
  dsimp only
  obtain ⟨v3, e3, t3⟩ := A5.var (i := 3) rfl
  refine r_asgZ ⟨v3, e3, ?_⟩
  have A6 : At W0 H H5 _ [.d f'.d, .v (.ref tl), .d (.int l[i].1), .d (.int l[i].1), .d l[i].2.d] := A5.setD t3 2
  refine A6.le (.cons (.inr rfl) (.cons (.inr rfl) (.cons (.inr ?_) (.cons (.inl rfl) (.cons (.inl rfl) .nil)))))
  rw [reach_succ ex]
  rw [Int.toNat_of_nonneg b0]
theorem sc_laid : FnScope ["frame", "stand", "timed", "beam", "tick", "deed"] ["frame", "stand", "timed"] (defScope s_laid) := ⟨rfl, rfl, rfl, by decide +kernel, rfl, by decide +kernel, by decide +kernel⟩
theorem c_laid (T : Txt K mg w C D) : Cal P w K mg base 9 "laid" (sp_laid C) := by
  have nd := sc_laid.nd
  have cBeam := mk_Beam (P := P) (w := w) (base := base) T
  have m_deed := mt_deed (P := P) (w := w) (base := base) T
  have m_go := mt_go (P := P) (w := w) (base := base) T
  have c_need_frame := c_need_frame (P := P) (w := w) (base := base) T
  have c_need_stand := c_need_stand (P := P) (w := w) (base := base) T
  have c_need_times := c_need_times (P := P) (w := w) (base := base) T
  have m_tick := mt_tick (P := P) (w := w) (base := base) T
  have c_ticks_of := c_ticks_of (P := P) (w := w) (base := base) T
  refine mkR T.f_laid (fun _ _ _ _ _ _ us hl => match us, hl with | [_, _, _], _ => rfl) sc_laid (fun _ _ _ _ q => q.1) (fun f cdv A outer s H E hr => ⟨_, (pss_cons (ps_expr (pe_c c_need_frame hr (by decide) (by rfl) (pa_cons (pv 0) pa_nil))) (pss_cons (ps_expr (pe_c c_need_stand hr (by decide) (by rfl) (pa_cons (pv 1) pa_nil))) (pss_cons (ps_expr (pe_c c_need_times hr (by decide) (by rfl) (pa_cons (pv 0) (pa_cons (pv 2) pa_nil)))) (pss_cons (ps_set (i := 3) nd rfl (by first | exact Or.inl rfl | exact Or.inr rfl) (pe_mkB cBeam hr (by decide) (by rfl) (pa_cons (pv 0) (pa_cons (pv 1) pa_nil)))) (pss_cons (ps_for PassesOwn.never rfl (pi_listK (K := K) rfl (pv 2)) (pg_tupK (K := K) (n := 2) rfl (by rfl) (pgs_cons (pg_name (i := 4) nd rfl (by first | exact Or.inl rfl | exact Or.inr rfl)) (pgs_cons (pg_name (i := 5) nd rfl (by first | exact Or.inl rfl | exact Or.inr rfl)) pgs_nil))) (pss_cons (ps_expr (pe_mB m_go hr (by decide) (pv 3) (pa_cons (pe_op op_sub (pv 4) (pe_mB0 m_tick hr (by decide) (pv 3))) pa_nil))) (pss_one (ps_expr (pe_mB m_deed hr (by decide) (pv 3) (pa_cons (pv 5) pa_nil)))))) (pss_cons (ps_expr (pe_mB m_go hr (by decide) (pv 3) (pa_cons (pe_op op_sub (pe_c c_ticks_of hr (by decide) (by rfl) (pa_cons (pv 0) pa_nil)) (pe_mB0 m_tick hr (by decide) (pv 3))) pa_nil))) (pss_one (ps_ret (pv 3))))))))), fun vs Q q => ?_⟩)
  obtain ⟨_, vf, vst, tl, tvs, f', s', l, rfl, ok, ok2, tok, t1, t2, et, tt, q⟩ := q
  have hlen := tt.length
  have hl2 : (timedD l).length = l.length := by unfold timedD; rw [List.length_map]
  have A : At W0 H H (L2.start ["frame", "stand", "timed", "beam", "tick", "deed"] [vf, vst, .ref tl]) [.d f'.d, .d s'.d, .v (.ref tl), .no, .no, .no] := ⟨trivial, Wd.refl _ _, .cons ⟨_, rfl, t1⟩ (.cons ⟨_, rfl, t2⟩ (.cons rfl (.cons trivial (.cons trivial (.cons trivial .nil)))))⟩
  refine r_drop (Ee.go (e_need_frame ok (ea_cons (ee_var rfl) ea_nil)) A rfl fun v H1 s1 _ => ?_)
  have A1 := A.sm s1
  refine r_drop (Ee.go (e_need_stand ok2 (ea_cons (ee_var rfl) ea_nil)) A1 rfl fun v H2 s2 _ => ?_)
  have A2 := A1.sm s2
  have s02 := same_trans s1 s2
  refine r_drop ?_
  refine ⟨_, (A2.var (i := 0) rfl).choose_spec.1, _, A2.vv (i := 2) rfl, rfl, _, tl, tvs, f', s', l, rfl, ok, (A2.var (i := 0) rfl).choose_spec.2, s02 _ _ et, tt.mono (same_tup s02), tok, fun H3 s3 => ?_⟩
  have A3 := A2.sm s3
  have s03 := same_trans s02 s3
  refine r_asg ?_
  obtain ⟨v0, e0, tv0⟩ := A3.var (i := 0) rfl
  obtain ⟨v1, e1, tv1⟩ := A3.var (i := 1) rfl
  refine ⟨v0, e0, v1, e1, fun b dx hb hdx hne => ?_⟩
  have hB : H b = none := Wd.back (W := W0) trivial A3.r hb
  have s4 : Same H3 (upd (upd H3 dx (.own b)) b (.ins C dx [])) := same_trans (same_new hdx) (same_new (by rw [upd_ne (Ne.symm hne)]; exact hb))
  have s04 := same_trans s03 s4
  refine ⟨rfl, H3, b, dx, f', s', v0, v1, rfl, ok, ok2, tv0.mono (same_tup s4), tv1.mono (same_tup s4), hb, s4, upd_same, fun H5 s5 bm5 => ⟨rfl, ?_⟩⟩
  have A5 : At W0 H H5 _ [.d f'.d, .d s'.d, .v (.ref tl), .v (.ref b), .no, .no] := (A3.sm s5).setV (.ref b) 3
  have bm5 := bm5.down s03
  refine r_cut (fun σ' H' => At W0 H H' σ' [.d f'.d, .d s'.d, .v (.ref tl), .v (.ref b), .no, .no] ∧ BeamIn C H H' b f' (after s' (l.take l.length)) (reach l l.length) (picTo f' s' l (reach l l.length)) (200 * reach l l.length)) (fun nx kn => ?_) (fun σ6 H6 M => ?_)
  · refine r_for ?_
    refine ⟨_, A5.vv (i := 2) rfl, tl, rfl, ⟨_, SqL.of (A5.sB _ _ et)⟩, for_it walk_list (fun j σ' H' => At W0 H H' σ' [.d f'.d, .d s'.d, .v (.ref tl), .v (.ref b), .no, .no] ∧ BeamIn C H H' b f' (after s' (l.take j)) (reach l j) (picTo f' s' l (reach l j)) (200 * reach l j)) ⟨A5, bm5⟩ (fun i σ' H' _ p => SqL.of (p.1.sB _ _ et)) (fun i y σ2 H7 H8 hi p Y => ?_) (fun σ' H' p => ?_)⟩
    · obtain ⟨rfl, ey⟩ := Y
      obtain ⟨A7, bm7⟩ := p
      have hi' : i < l.length := by omega
      have ex := List.getElem?_eq_getElem hi'
      obtain ⟨d, ed, td⟩ := (tt.mono (same_tup A7.sB)).getV ey
      rw [timed_at ex] at ed
      have ed := Option.some.inj ed
      subst ed
      obtain ⟨b0, b1, b2⟩ := tok.at ex
      have hle : (reach l i : Int) ≤ l[i].1 := by
        cases i with
        | zero => exact b0
        | succ j =>
          have ej := List.getElem?_eq_getElem (l := l) (i := j) (by omega)
          have := asc_le tok.asc (show j ≤ j + 1 by omega) ej ex
          have := (tok.at ej).1
          rw [reach_succ ej]
          show ((l[j].1.toNat : Nat) : Int) ≤ _
          omega
      refine (gd_tup (K := K) (gds_cons (W := W0) (gd_name (i := 4)) (gds_cons (gd_name (i := 5)) gds_nil)) rfl) H y _ _ _ A7 td fun σ8 A8 _ _ => ?_
      have A8 : At W0 H H8 σ8 [.d f'.d, .d s'.d, .v (.ref tl), .v (.ref b), .d (.int l[i].1), .d l[i].2.d] := A8
      have aok := after_ok (s := s') (l := l.take i) ok2 fun x hx => tok.ok x (List.mem_of_mem_take hx)
      obtain ⟨v4, e4, t4⟩ := A8.var (i := 4) rfl
      rw [t4.int_of] at e4
      obtain ⟨B', q1, q2, q3, bm8⟩ := bm7.rebase A8.sB
      obtain ⟨dx8, vf8, vs8, vt8, R8, D18, D28, L8, rws8, x8, _⟩ := id bm7
      refine r_drop ?_
      refine ⟨_, A8.vv (i := 3) rfl, b, dx8, _, rfl, x8.i, no_go, _, e4, _, A8.vv (i := 3) rfl, b, dx8, _, rfl, x8.i, no_tick, rfl, H, b, f', _, _, _, _, rfl, bm7, l[i].1, (reach l i : Int), rfl, rfl, rfl, B', b, f', after s' (l.take i), reach l i, picTo f' s' l (reach l i), (l[i].1 - (reach l i : Int)).toNat, ?_, ok, aok.1, picTo_ok ok ok2 tok.ok _, by omega, q1, bm8, fun H9 s9 bm9 => ?_⟩
      · rw [Int.toNat_of_nonneg (by omega)]
        rfl
      · have A9 := A8.after rfl (same_trans q2 s9) fun c xs e => s9 _ _ (q3 _ _ e)
        have bm9 := bm9.down q2
        have hm : reach l i + (l[i].1 - (reach l i : Int)).toNat = reach l (i + 1) := by
          rw [reach_succ ex]
          omega
        rw [go_reach tok (by omega) (fun x e => by
          rw [ex] at e
          have e := Option.some.inj e
          subst e
          omega), hm] at bm9
        obtain ⟨B2', q12, q22, q32, bm10⟩ := bm9.rebase A9.sB
        obtain ⟨dx9, vf9, vs9, vt9, R9, D19, D29, L9, rws9, x9, _⟩ := id bm9
        obtain ⟨v5, e5, t5⟩ := A9.var (i := 5) rfl
        have hm2 : ((reach l (i + 1) : Nat) : Int) = l[i].1 := by
          rw [← hm]
          omega
        refine r_dropZ ⟨_, A9.vv (i := 3) rfl, b, dx9, _, rfl, x9.i, no_deed, _, e5, rfl, B2', b, f', after s' (l.take i), reach l (i + 1), picTo f' s' l (reach l (i + 1)), _, v5, l[i].2, rfl, ok, aok.1, deed_len aok.2.1 aok.2.2 b2, t5, by omega, q12, bm10, fun H10 s10 bm11 => ⟨?_, ?_⟩⟩
        · exact (A9.after rfl (same_trans q22 s10) fun c xs e => s10 _ _ (q32 _ _ e)).le (.cons (.inr rfl) (.cons (.inr rfl) (.cons (.inr rfl) (.cons (.inr rfl) (.cons (.inl rfl) (.cons (.inl rfl) .nil))))))
        · have bm11 := bm11.down q22
          rw [← after_snoc, ← take_succ' ex] at bm11
          exact bm11
    · rw [hlen, hl2] at p
      exact kn _ _ p
  · obtain ⟨A6, bm6⟩ := M
    obtain ⟨B', q1, q2, q3, bm8⟩ := bm6.rebase A6.sB
    obtain ⟨dx8, vf8, vs8, vt8, R8, D18, D28, L8, rws8, x8, _⟩ := id bm6
    have aok := after_ok (s := s') (l := l.take l.length) ok2 fun x hx => tok.ok x (List.mem_of_mem_take hx)
    have htk : 0 ≤ f'.ticks := by
      obtain ⟨w1, w2, h1, h2, g1, g2, m1, m2⟩ := ok
      unfold Frame.ticks
      exact Int.mul_nonneg (by omega) (by omega)
    have hle : (reach l l.length : Int) ≤ f'.ticks := by
      cases hl : l.length with
      | zero => exact htk
      | succ j =>
        have ej := List.getElem?_eq_getElem (l := l) (i := j) (by omega)
        have := (tok.at ej).2.1
        have := (tok.at ej).1
        rw [reach_succ ej]
        show ((l[j].1.toNat : Nat) : Int) ≤ _
        omega
    refine r_drop ?_
    refine ⟨_, A6.vv (i := 3) rfl, b, dx8, _, rfl, x8.i, no_go, r_cons (r_op (Ee.go (e_ticks_of ok (ea_cons (ee_var (i := 0) rfl) ea_nil)) A6 rfl fun v H7 s7 tv => ?_))⟩
    have A7 := A6.sm s7
    have bm7 := bm6.mono s7
    have bm8 := bm8.mono s7
    have x7 := x8.mono s7
    refine ⟨_, A7.vv (i := 3) rfl, b, dx8, _, rfl, x7.i, no_tick, rfl, H, b, f', _, _, _, _, rfl, bm7, f'.ticks, (reach l l.length : Int), tv.int_of, rfl, rfl, B', b, f', after s' (l.take l.length), reach l l.length, picTo f' s' l (reach l l.length), (f'.ticks - (reach l l.length : Int)).toNat, ?_, ok, aok.1, picTo_ok ok ok2 tok.ok _, by omega, same_trans q1 s7, bm8, fun H9 s9 bm9 => ?_⟩
    · rw [Int.toNat_of_nonneg (by omega)]
      rfl
    · have A9 := A6.after rfl (same_trans q2 s9) fun c xs e => s9 _ _ (q3 _ _ e)
      have bm9 := bm9.down q2
      rw [go_reach tok (Nat.le_refl _) (fun x e => by rw [List.getElem?_eq_none (Nat.le_refl _)] at e; cases e), show reach l l.length + (f'.ticks - (reach l l.length : Int)).toNat = f'.ticks.toNat by omega] at bm9
      exact r_ret ⟨_, A9.vv (i := 3) rfl, q b H9 _ _ A9.sB bm9⟩
end
end Gw
set_option Elab.async false
set_option linter.all false
set_option maxRecDepth 100000
set_option maxHeartbeats 4000000
namespace Gw
open PySem PySem.Spec PyProof.Rows L2
/- one step of the evaluation; walk_at "ev": to its end -/
local macro_rules | `(tactic| walk_at "ev1") => `(tactic| first
  | exact ee_int | exact ee_bl | exact ee_str | exact ee_non | exact ee_var rfl | exact eo_none | exact ea_nil
  | refine' ea_cons ?_ ?_ | refine' ee_II ?_ ?_ | refine' ee_IB ?_ ?_ | refine' ee_UI ?_ | refine' ee_IC ?_ ?_ ?_
  | refine' et_test ?_ | refine' et_B ?_ | refine' et_not ?_ | refine' et_and ?_ (fun _ => ?_) | refine' et_or ?_ (fun _ => ?_)
  | refine' ee_andV ?_ (fun _ => ?_) | refine' ee_orV ?_ (fun _ => ?_) | refine' ee_notV ?_
  | refine' ee_isN ?_ | refine' ee_notN ?_ | refine' ee_eqD ?_ ?_ ?_ | refine' ee_neD ?_ ?_ ?_
  | refine' ee_ixT ?_ ?_ ?_ | refine' ee_lenT ?_ | refine' ee_isi ?_ ?_ | refine' ee_tup ?_ ?_ | refine' eo_some ?_ | refine' ee_slT ?_ ?_ ?_
  | exact ki_ii | exact ki_ib | exact ki_tt | exact ki_ss | (show atI _ _ = some _; first | rfl | assumption) | (show scalD _ _ = true; rfl) | exact Nat.le_of_ble_eq_true rfl)
local macro_rules | `(tactic| walk_at "ev") => `(tactic| repeat' walk_at "ev1")
section
variable {W : Wd} {K : PySem.W.Frag} {ρ : List Sl} {te tu : TE} {ds es : List PyData}
theorem el_catL (h1 : Eq_ W te ρ (fun x => x = ds)) (h2 : Eq_ W tu ρ (fun x => x = es)) (hl : ds.length + es.length ≤ 100000) : El W (tOp rCat te tu) ρ (fun x => x = ds ++ es) := fun B σ H Q A k =>
  h1 B σ H _ A fun p vs d H1 r1 m1 e1 t1 q1 => h2 B σ H1 _ (A.mono r1) fun q us e H2 r2 m2 e2 t2 q2 => by
    subst q1
    subst q2
    exact ⟨p, q, vs, us, rfl, rfl, Wd.keep r2 e1 m1, e2, by rw [t1.length, t2.length]; exact small4 hl, fun z hz => k z _ _ _ (Wd.trans r1 (Wd.trans r2 (Wd.new hz))) (Wd.back A.i (Wd.trans r1 r2) hz) upd_same ((((t1.mono (Wd.tup r2)).append t2)).mono (Wd.tup (W := W) (Wd.new hz))) rfl⟩
end
theorem At.rb {B H : Hp} {σ : L2.St} {ρ : List Sl} (A : At W0 B H σ ρ) (hn : noL ρ = true) : At W0 H H σ ρ := ⟨trivial, Wd.refl _ _, (A.here hn).e⟩
section
variable {B H : Hp} {σ : L2.St} {ρ : List Sl} {t1 t2 t3 t4 : TE} {d1 d2 d4 : PyData} {ds : List PyData}
theorem args3 (A : At W0 B H σ ρ) (hn : noL ρ = true) (E1 : Ee (WC H) t1 ρ d1) (E2 : Ee (WC H) t2 ρ d2) (E3 : Eq_ (WC H) t3 ρ (fun x => x = ds)) (Qa : List V → Hp → Prop)
    (k : ∀ v1 v2 tl tvs H1, Same H H1 → Tp H1 v1 d1 → Tp H1 v2 d2 → H1 tl = some (.lst tvs) → TpA H1 tvs ds → Qa [v1, v2, .ref tl] H1) : (tCons t1 (tCons t2 (tCons t3 tNil))) σ H Qa :=
  E1 H σ H _ (A.here hn) fun v1 H1 x1 r1 u1 p1 => E2 H σ H1 _ ((A.here hn).mono r1) fun v2 H2 x2 r2 u2 p2 => E3 H σ H2 _ (((A.here hn).mono r1).mono r2) fun tl tvs x3 H3 r3 m3 e3 u3 p3 => by
    subst p1
    subst p2
    subst p3
    exact k v1 v2 tl tvs H3 (same_trans (WC.same r1) (same_trans (WC.same r2) (WC.same r3))) (u1.mono (Wd.tup (Wd.trans r2 r3))) (u2.mono (Wd.tup r3)) e3 u3
theorem laid_pic {C : Addr} {ta : TA} {f : Frame} {s : Stand} {l : Timed} {Q : VK} (ok : f.Ok) (ok2 : s.Ok) (tok : TOk f s l)
    (hA : ∀ Qa : List V → Hp → Prop, (∀ v1 v2 tl tvs H1, Same H H1 → Tp H1 v1 f.d → Tp H1 v2 s.d → H1 tl = some (.lst tvs) → TpA H1 tvs (timedD l) → Qa [v1, v2, .ref tl] H1) → ta σ H Qa)
    (k : ∀ z us H', Same H H' → H z = none → H' z = some (.lst us) → RowsIn H' us (picOf f s l) → Q (.ref z) H') : tMeth C "picture" (sp_pic C) [] E0 (tCall (sp_laid C) [] E0 ta) tNil σ H Q :=
  hA _ fun v1 v2 tl tvs H1 s1 u1 u2 e u3 => ⟨rfl, v1, v2, tl, tvs, f, s, l, rfl, ok, ok2, tok, u1, u2, e, u3, fun b H2 s' n s2 bm => by
    obtain ⟨dx, vf, vs, vt, R, D1, D2, L, rws, x, _⟩ := id bm
    have hlen : (picTo f s l f.ticks.toNat).rows.length ≤ 10000 := by
      have h1 := (picTo_ok ok ok2 tok.ok f.ticks.toNat).len
      have h2 := ticks_le ok
      omega
    refine ⟨b, dx, _, rfl, x.i, no_pic, rfl, H1, b, f, s', f.ticks.toNat, picTo f s l f.ticks.toNat, n, rfl, hlen, bm, fun z us H' s3 hz e r => ?_⟩
    have s12 := same_trans s1 s2
    exact k z us H' (same_trans s12 s3) (Wd.back (W := W0) trivial (Wd.same s12) hz) e r⟩
end
/-! ### rows of inks as data -/
def rowsL (rows : List (List Int)) : PyData := .list (rows.map fun r => .list (r.map .int))
theorem rows_dp {K : PySem.W.Frag} {H : Hp} : ∀ {us : List V} {rows : List (List Int)}, RowsIn H us rows → DpAll K H us (rows.map fun r => .list (r.map .int))
  | _, _, .nil => .nil
  | _, _, .cons a r => by
    obtain ⟨p, rfl, e⟩ := a
    exact .cons (.lst (SqL.of e) (TpA.of_ints (H := H)).dp) (rows_dp r)
theorem rows_shaped (rows : List (List Int)) : SeqAt.shaped (rowsL rows) = true := shapedL fun d hd => by
  obtain ⟨r, _, rfl⟩ := List.mem_map.mp hd
  refine ⟨?_, ?_⟩
  · simp only [PyData.canLay0]
    exact PySem.W.ke_canLayAll0 r
  · simp only [PyData.depth]
    rw [PySem.W.ke_depthAll]
    omega
theorem rows_eqv (a b : List (List Int)) : PyData.eqv (rowsL a) (rowsL b) = decide (a = b) := PySem.W.Datum.eqv (α := List (List Int)) a b
theorem ne_rows {K : PySem.W.Frag} {H : Hp} {a b : Addr} {us vs : List V} {r1 r2 : List (List Int)} {Q : VK} (ea : H a = some (.lst us)) (ra : RowsIn H us r1) (eb : H b = some (.lst vs)) (rb : RowsIn H vs r2) (k : Q (.bl (!decide (r1 = r2))) H) : rNeD K (.ref a) (.ref b) H Q :=
  ⟨rowsL r1, rowsL r2, .lst (SqL.of ea) (rows_dp ra), .lst (SqL.of eb) (rows_dp rb), rows_shaped _, rows_shaped _, by rw [rows_eqv]; exact k⟩
theorem RowsIn.mono {H H' : Hp} {us : List V} {rows : List (List Int)} (h : RowsIn H us rows) (s : Same H H') : RowsIn H' us rows := L2.Paired.mapP h fun v r q => by
  obtain ⟨a, e, h⟩ := q
  exact ⟨a, e, s _ _ h⟩
/-! ### slips -/
def deedAt (l : Timed) (i : Nat) : Deed := match l[i]? with
  | some x => x.2
  | none => .shift 0 0
def others (l : Timed) (i : Nat) : Timed := l.take i ++ l.drop (i + 1)
def ahead (l : Timed) (i : Nat) : Timed := (0, deedAt l i) :: others l i
def slipB (f : Frame) (s : Stand) (l : Timed) (i : Nat) : Bool := !decide (picOf f s l = picOf f s (others l i)) && !decide (picOf f s l = picOf f s (ahead l i))
def slipsTo (f : Frame) (s : Stand) (l : Timed) (n : Nat) : List Int := ((List.range n).filter (slipB f s l)).map fun (k : Nat) => (k : Int)
theorem slipsTo_succ (f : Frame) (s : Stand) (l : Timed) (n : Nat) : slipsTo f s l (n + 1) = slipsTo f s l n ++ (if slipB f s l n = true then [(n : Int)] else []) := by
  unfold slipsTo
  rw [filt_succ, List.map_append]
  split <;> rfl
theorem slipsTo_len (f : Frame) (s : Stand) (l : Timed) (n : Nat) : (slipsTo f s l n).length ≤ n := by
  unfold slipsTo
  rw [List.length_map]
  have h := List.length_filter_le (slipB f s l) (List.range n)
  rw [List.length_range] at h
  exact h
theorem others_sub (l : Timed) (i : Nat) : (others l i).Sublist l := by
  have h := (List.Sublist.refl (l.take i)).append (List.drop_sublist_drop_left l (Nat.le_succ i))
  rw [List.take_append_drop] at h
  exact h
theorem TOk.others {f : Frame} {s : Stand} {l : Timed} (h : TOk f s l) (i : Nat) : TOk f s (others l i) := by
  have hs := others_sub l i
  exact ⟨h.asc.sublist hs, fun x hx => h.lo x (hs.subset hx), fun x hx => h.hi x (hs.subset hx), fun x hx => h.ok x (hs.subset hx), Nat.le_trans hs.length_le h.len⟩
theorem TOk.ahead {f : Frame} {s : Stand} {l : Timed} (h : TOk f s l) (hf : f.Ok) {i : Nat} (hi : i < l.length) : TOk f s (ahead l i) := by
  have ho := h.others i
  have ei := List.getElem?_eq_getElem hi
  have hd : (deedAt l i).Ok s := by
    unfold deedAt
    rw [ei]
    exact (h.at ei).2.2
  have ht : 0 < f.ticks := by
    have := h.at ei
    omega
  refine ⟨List.pairwise_cons.mpr ⟨fun x hx => ho.lo x hx, ho.asc⟩, fun x hx => ?_, fun x hx => ?_, fun x hx => ?_, ?_⟩
  · rcases List.mem_cons.mp hx with e | e
    · rw [e]
      exact Int.le_refl _
    · exact ho.lo x e
  · rcases List.mem_cons.mp hx with e | e
    · rw [e]
      exact ht
    · exact ho.hi x e
  · rcases List.mem_cons.mp hx with e | e
    · rw [e]
      exact hd
    · exact ho.ok x e
  · have := h.len
    unfold Gw.ahead Gw.others
    rw [List.length_cons, List.length_append, List.length_take, List.length_drop]
    omega
theorem timedD_others (l : Timed) (i : Nat) : (timedD l).take i ++ (timedD l).drop (i + 1) = timedD (others l i) := by
  unfold timedD others
  rw [List.map_append, List.map_take, List.map_drop]
theorem timedD_len (l : Timed) : (timedD l).length = l.length := by
  unfold timedD
  rw [List.length_map]
def sp_slips : Sp := fun vs H Q _ => vs.length = 3 ∧ ∃ (vf vst : V) (tl : Addr) (tvs : List V) (f : Frame) (s : Stand) (l : Timed), vs = [vf, vst, .ref tl] ∧ f.Ok ∧ s.Ok ∧ TOk f s l ∧ Tp H vf f.d ∧ Tp H vst s.d ∧ H tl = some (.lst tvs) ∧ TpA H tvs (timedD l) ∧
  ∀ z H', Same H H' → H z = none → H' z = some (.lst ((slipsTo f s l l.length).map V.int)) → Q (.ref z) H'
section
variable {te tu : TE} {tt t u : TT} {σ : L2.St} {H : Hp} {Q : Bool → Hp → Prop}
theorem r_and (h : t σ H fun c H1 => if c = true then u σ H1 Q else Q false H1) : tAnd t u σ H Q := h
theorem r_test (h : te σ H fun v H1 => ∃ b, v = .bl b ∧ Q b H1) : tTest te σ H Q := h
end
/-- whole != one and whole != other -/
theorem two_ne {K : PySem.W.Frag} {i j k : Nat} {σ : L2.St} {H : Hp} {Q : Bool → Hp → Prop} {a b c : Addr} {us vs ws : List V} {r1 r2 r3 : List (List Int)} (e1 : σ[i]? = some (some (.ref a))) (e2 : σ[j]? = some (some (.ref b))) (e3 : σ[k]? = some (some (.ref c)))
    (ea : H a = some (.lst us)) (ra : RowsIn H us r1) (eb : H b = some (.lst vs)) (rb : RowsIn H vs r2) (ec : H c = some (.lst ws)) (rc : RowsIn H ws r3) (h : Q (!decide (r1 = r2) && !decide (r1 = r3)) H) :
    tAnd (tTest (tOp (rNeD K) (tVar i) (tVar j))) (tTest (tOp (rNeD K) (tVar i) (tVar k))) σ H Q := by
  refine ⟨_, e1, _, e2, ne_rows ea ra eb rb ⟨_, rfl, ?_⟩⟩
  cases hd : !decide (r1 = r2) with
  | true =>
    rw [if_pos rfl]
    rw [hd, Bool.true_and] at h
    exact ⟨_, e1, _, e3, ne_rows ea ra ec rc ⟨_, rfl, h⟩⟩
  | false =>
    rw [if_neg (by decide)]
    rw [hd, Bool.false_and] at h
    exact h
section
variable {P : Program} {w : World} {K : PySem.W.Frag} {mg : Str → Option Value} {base : Heap} {C D : Addr}
theorem sc_slips : FnScope ["frame", "stand", "timed", "whole", "found", "k", "others", "without", "first"] ["frame", "stand", "timed"] (defScope s_slips) := ⟨rfl, rfl, rfl, by decide +kernel, rfl, by decide +kernel, by decide +kernel⟩
theorem c_slips (T : Txt K mg w C D) : Cal P w K mg base 10 "slips" sp_slips := by
  have nd := sc_slips.nd
  have c_laid := c_laid (P := P) (w := w) (base := base) T
  have m_picture := mt_picture (P := P) (w := w) (base := base) T
  refine mkR T.f_slips (fun _ _ _ _ _ _ us hl => match us, hl with | [_, _, _], _ => rfl) sc_slips (fun _ _ _ _ q => q.1) (fun f cdv A outer s H E hr => ⟨_, (pss_cons (ps_set (i := 3) nd rfl (by first | exact Or.inl rfl | exact Or.inr rfl) (pe_mB0 m_picture hr (by decide) (pe_c c_laid hr (by decide) (by rfl) (pa_cons (pv 0) (pa_cons (pv 1) (pa_cons (pv 2) pa_nil)))))) (pss_cons (ps_set (i := 4) nd rfl (by first | exact Or.inl rfl | exact Or.inr rfl) (pe_lst pa_nil)) (pss_cons (ps_for PassesOwn.never rfl (pi_range1 (by rfl) T.b_range (pa_cons (pe_callB (call_lenK (K := K) rfl) (by rfl) T.b_len (by decide +kernel) (pa_cons (pv 2) pa_nil)) pa_nil)) (pg_name (i := 5) nd rfl (by first | exact Or.inl rfl | exact Or.inr rfl)) (pss_cons (ps_set (i := 6) nd rfl (by first | exact Or.inl rfl | exact Or.inr rfl) (pe_op op_cat (pe_slice (sl_listK (K := K) rfl) (pv 2) po_none (po_some (pv 5))) (pe_slice (sl_listK (K := K) rfl) (pv 2) (po_some (pe_op op_add (pv 5) pe_int)) po_none))) (pss_cons (ps_set (i := 7) nd rfl (by first | exact Or.inl rfl | exact Or.inr rfl) (pe_mB0 m_picture hr (by decide) (pe_c c_laid hr (by decide) (by rfl) (pa_cons (pv 0) (pa_cons (pv 1) (pa_cons (pv 6) pa_nil)))))) (pss_cons (ps_set (i := 8) nd rfl (by first | exact Or.inl rfl | exact Or.inr rfl) (pe_mB0 m_picture hr (by decide) (pe_c c_laid hr (by decide) (by rfl) (pa_cons (pv 0) (pa_cons (pv 1) (pa_cons (pe_op op_cat (pe_lst (pa_cons (pe_tup (pa_cons pe_int (pa_cons (pe_ix (ix_tupK (K := K) rfl) (pe_ix (ix_listK (K := K) rfl) (pv 2) (pv 5) (fun _ _ => rfl)) pe_int (fun _ _ => rfl)) pa_nil))) pa_nil)) (pv 6)) pa_nil)))))) (pss_one (ps_if (PW.pt (pw_and (pt_cmpR (op_neK (K := K) rfl (by exact hr.units)) (pv 3) (pv 7) (nomark _)) (pw_and1 (pt_cmpR (op_neK (K := K) rfl (by exact hr.units)) (pv 3) (pv 8) (nomark _))))) (pss_one (ps_expr (pe_bm PySem.F.plainAttrs_list PySem.F.slot_list_append PySem.F.type_list_append mt_append (pv 4) (pa_cons (pv 5) pa_nil)))) pss_nil)))))) (pss_one (ps_ret (pv 4)))))), fun vs Q q => ?_⟩)
  obtain ⟨_, vf, vst, tl, tvs, f', s', l, rfl, ok, ok2, tok, t1, t2, et, tt, q⟩ := q
  have hlen := tt.length
  have hl2 := timedD_len l
  have hl3 := tok.len
  have A : At W0 H H (L2.start ["frame", "stand", "timed", "whole", "found", "k", "others", "without", "first"] [vf, vst, .ref tl]) [.d f'.d, .d s'.d, .v (.ref tl), .no, .no, .no, .no, .no, .no] := ⟨trivial, Wd.refl _ _, .cons ⟨_, rfl, t1⟩ (.cons ⟨_, rfl, t2⟩ (.cons rfl (.cons trivial (.cons trivial (.cons trivial (.cons trivial (.cons trivial (.cons trivial .nil))))))))⟩
  refine r_asg (laid_pic ok ok2 tok (args3 A rfl (ee_var rfl) (ee_var rfl) (eq_raw rfl et tt)) fun W us H1 s1 nW eW rW => ?_)
  have A1 : At W0 H1 H1 _ [.d f'.d, .d s'.d, .v (.ref tl), .v (.ref W), .no, .no, .no, .no, .no] := ((A.sm s1).setV (.ref W) 3).rb rfl
  have et1 := s1 _ _ et
  have tt1 := tt.mono (same_tup s1)
  refine r_asg ?_
  refine ⟨by decide, fun F hF => ?_⟩
  have A2 : At W0 H1 _ _ [.d f'.d, .d s'.d, .v (.ref tl), .v (.ref W), .v (.ref F), .no, .no, .no, .no] := (A1.sm (same_new (o := .lst []) hF)).setV (.ref F) 4
  refine r_cut (fun σ' H' => At W0 H1 H' σ' [.d f'.d, .d s'.d, .v (.ref tl), .v (.ref W), .v (.ref F), .no, .no, .no, .no] ∧ H' F = some (.lst ((slipsTo f' s' l l.length).map V.int))) (fun nx kn => ?_) (fun σ3 H3 M => ?_)
  · refine r_for ?_
    refine r_cons ?_
    refine ⟨_, A2.vv (i := 2) rfl, tl, tvs, rfl, .inl (SqL.of (A2.sB _ _ et1)), (tvs.length : Int), rfl, by omega, by omega, for_it (walk_range (lo := 0) (n := (tvs.length : Int).toNat)) (fun i σ' H' => At W0 H1 H' σ' [.d f'.d, .d s'.d, .v (.ref tl), .v (.ref W), .v (.ref F), .no, .no, .no, .no] ∧ H' F = some (.lst ((slipsTo f' s' l i).map V.int))) ⟨A2, upd_same⟩ (fun i σ' H' _ _ => trivial) (fun i y σ4 H4 H5 hi p Y => ?_) (fun σ' H' p => ?_)⟩
    · obtain ⟨rfl, rfl⟩ := Y
      obtain ⟨A4, eF⟩ := p
      have hi' : i < l.length := by omega
      have ex := List.getElem?_eq_getElem hi'
      have A5 : At W0 H1 H5 (σ4.set 5 (some (.int (0 + (i : Int))))) [.d f'.d, .d s'.d, .v (.ref tl), .v (.ref W), .v (.ref F), .d (.int (i : Int)), .no, .no, .no] := by
        rw [Int.zero_add]
        exact A4.setD (.int (i : Int)) 5
      have et5 := A5.sB _ _ et1
      have tt5 := tt1.mono (same_tup A5.sB)
      show tSeq _ _ _ (σ4.set 5 (some (.int (0 + (i : Int))))) H5
      generalize σ4.set 5 (some (.int (0 + (i : Int)))) = σ5 at A5
      have EL := el_catL (el_take (K := K) (ρ := [.d f'.d, .d s'.d, .v (.ref tl), .v (.ref W), .v (.ref F), .d (.int (i : Int)), .no, .no, .no]) (eq_raw (C0 := H5) (i := 2) rfl et5 tt5) (ee_var (i := 5) rfl) (by omega)).q
        (el_drop (K := K) (eq_raw (i := 2) rfl et5 tt5) (ee_II (g := fun i j => i + j) (ee_var (i := 5) rfl) (ee_int (i := 1))) (by omega)).q (by rw [List.length_take, List.length_drop]; omega)
      refine r_asg (EL H5 _ H5 _ (A5.here rfl) fun O vO dO H6 r6 nO eO tO qO => ?_)
      rw [Int.toNat_natCast, show ((i : Int) + 1).toNat = i + 1 by omega, timedD_others] at qO
      subst qO
      have s6 := WC.same r6
      have A6 : At W0 H1 H6 _ [.d f'.d, .d s'.d, .v (.ref tl), .v (.ref W), .v (.ref F), .d (.int (i : Int)), .v (.ref O), .no, .no] := (A5.sm s6).setV (.ref O) 6
      clear EL
      refine r_asg (laid_pic ok ok2 (tok.others i) (args3 A6 rfl (ee_var rfl) (ee_var rfl) (eq_raw rfl eO tO)) fun O2 us2 H7 s7 n7 e7 r7 => ?_)
      have A7 : At W0 H1 H7 _ [.d f'.d, .d s'.d, .v (.ref tl), .v (.ref W), .v (.ref F), .d (.int (i : Int)), .v (.ref O), .v (.ref O2), .no] := (A6.sm s7).setV (.ref O2) 7
      have s57 := same_trans s6 s7
      have et7 := s57 _ _ et5
      have tt7 := tt5.mono (same_tup s57)
      have eO7 := s7 _ _ eO
      have tO7 := tO.mono (same_tup s7)
      have hx : atI (timedD l) (i : Int) = some (.tuple [.int l[i].1, l[i].2.d]) := by
        rw [atI_at (by omega) (by omega), Int.toNat_natCast]
        exact timed_at ex
      have hd : deedAt l i = l[i].2 := by
        unfold deedAt
        rw [ex]
      have EL2 := el_catL (el_lst (ρ := [.d f'.d, .d s'.d, .v (.ref tl), .v (.ref W), .v (.ref F), .d (.int (i : Int)), .v (.ref O), .v (.ref O2), .no]) (P1 := fun x => x = [.tuple [.int 0, l[i].2.d]]) (P := fun x => x = [.tuple [.int 0, l[i].2.d]])
          (ea_cons (ee_tup (ea_cons (W := WC H7) ee_int (ea_cons (ee_ixT (K := K) (ee_ixL (K := K) (eq_raw (C0 := H7) (i := 2) rfl et7 tt7) (ee_var (i := 5) rfl) hx) (ee_int (i := 1)) rfl) ea_nil)) (by simp)) ea_nil) fun ds e => by subst e; exact ⟨by simp, rfl⟩).q
        (eq_raw (i := 6) rfl eO7 tO7) (by rw [timedD_len]; have := (tok.others i).len; simp; omega)
      have ea : [PyData.tuple [.int 0, l[i].2.d]] ++ timedD (others l i) = timedD (ahead l i) := by
        unfold ahead
        rw [hd]
        rfl
      rw [ea] at EL2
      refine r_asg (laid_pic ok ok2 (tok.ahead ok hi') (args3 A7 rfl (ee_var rfl) (ee_var rfl) EL2.q) fun O3 us3 H8 s8 n8 e8 r8 => ?_)
      have A8 : At W0 H1 H8 _ [.d f'.d, .d s'.d, .v (.ref tl), .v (.ref W), .v (.ref F), .d (.int (i : Int)), .v (.ref O), .v (.ref O2), .v (.ref O3)] := (A7.sm s8).setV (.ref O3) 8
      have eF8 := s8 _ _ (s57 _ _ eF)
      refine r_if (two_ne (A8.vv (i := 3) rfl) (A8.vv (i := 7) rfl) (A8.vv (i := 8) rfl) (A8.sB _ _ eW) (rW.mono A8.sB) (s8 _ _ e7) (r7.mono s8) e8 r8 ?_)
      have le9 : Le [.d f'.d, .d s'.d, .v (.ref tl), .v (.ref W), .v (.ref F), .d (.int (i : Int)), .v (.ref O), .v (.ref O2), .v (.ref O3)] [.d f'.d, .d s'.d, .v (.ref tl), .v (.ref W), .v (.ref F), .no, .no, .no, .no] := .cons (.inr rfl) (.cons (.inr rfl) (.cons (.inr rfl) (.cons (.inr rfl) (.cons (.inr rfl) (.cons (.inl rfl) (.cons (.inl rfl) (.cons (.inl rfl) (.cons (.inl rfl) .nil))))))))
      show if slipB f' s' l i = true then _ else _
      by_cases hb : slipB f' s' l i = true
      · rw [if_pos hb]
        obtain ⟨v5, e5, t5⟩ := A8.var (i := 5) rfl
        rw [t5.int_of] at e5
        refine r_dropZ ?_
        refine ⟨_, A8.vv (i := 4) rfl, .inl ⟨rfl, _, SqL.of eF8⟩, _, e5, F, _, _, rfl, rfl, eF8, ?_, ?_, ?_⟩
        · rw [List.length_map]
          have := slipsTo_len f' s' l i
          exact small5 (by omega)
        · exact (A8.upd rfl (Wd.back (W := W0) trivial (Wd.refl W0 _) hF) eF8 (fun xs => by simp)).le le9
        · rw [upd_same, slipsTo_succ, if_pos hb, List.map_append]
          rfl
      · rw [if_neg hb]
        refine ⟨A8.le le9, ?_⟩
        rw [slipsTo_succ, if_neg hb, List.append_nil]
        exact eF8
    · rw [Int.toNat_natCast, hlen, hl2] at p
      exact kn _ _ p
  · obtain ⟨A3, eF⟩ := M
    exact r_ret ⟨_, A3.vv (i := 4) rfl, q F H3 (same_trans s1 A3.sB) (Wd.back (W := W0) trivial (Wd.same s1) hF) eF⟩
end
end Gw
set_option Elab.async false
set_option linter.all false
set_option maxRecDepth 100000
set_option maxHeartbeats 4000000
namespace Gw
open PySem PySem.Spec PyProof.Rows L2
/- one step of the evaluation; walk_at "ev": to its end -/
local macro_rules | `(tactic| walk_at "ev1") => `(tactic| first
  | exact ee_int | exact ee_bl | exact ee_str | exact ee_non | exact ee_var rfl | exact eo_none | exact ea_nil
  | refine' ea_cons ?_ ?_ | refine' ee_II ?_ ?_ | refine' ee_IB ?_ ?_ | refine' ee_UI ?_ | refine' ee_IC ?_ ?_ ?_
  | refine' et_test ?_ | refine' et_B ?_ | refine' et_not ?_ | refine' et_and ?_ (fun _ => ?_) | refine' et_or ?_ (fun _ => ?_)
  | refine' ee_andV ?_ (fun _ => ?_) | refine' ee_orV ?_ (fun _ => ?_) | refine' ee_notV ?_
  | refine' ee_isN ?_ | refine' ee_notN ?_ | refine' ee_eqD ?_ ?_ ?_ | refine' ee_neD ?_ ?_ ?_
  | refine' ee_ixT ?_ ?_ ?_ | refine' ee_lenT ?_ | refine' ee_isi ?_ ?_ | refine' ee_tup ?_ ?_ | refine' eo_some ?_ | refine' ee_slT ?_ ?_ ?_
  | exact ki_ii | exact ki_ib | exact ki_tt | exact ki_ss | (show atI _ _ = some _; first | rfl | assumption) | (show scalD _ _ = true; rfl) | exact Nat.le_of_ble_eq_true rfl)
local macro_rules | `(tactic| walk_at "ev") => `(tactic| repeat' walk_at "ev1")
structure SeenX (B H : Hp) (S R D1 D2 L : Addr) (v4 : V) (rws : List Addr) (rows : List (List Int)) (n : Nat) : Prop where
  s : H S = some (.lst [.ref R, .ref D1, .ref D2, .ref L, v4])
  bS : B S = none
  o : Objs B H [S] R D1 D2 L rws rows n
section
variable {B H H' : Hp} {S R D1 D2 L : Addr} {v4 : V} {rws : List Addr} {rows : List (List Int)} {n m : Nat}
theorem SeenX.mono (h : SeenX B H S R D1 D2 L v4 rws rows n) (s : Same H H') : SeenX B H' S R D1 D2 L v4 rws rows n := ⟨s _ _ h.s, h.bS, h.o.mono s⟩
theorem SeenX.more (h : SeenX B H S R D1 D2 L v4 rws rows n) (hm : n ≤ m) : SeenX B H S R D1 D2 L v4 rws rows m := ⟨h.s, h.bS, h.o.more hm⟩
theorem SeenX.setD1 (h : SeenX B H S R D1 D2 L v4 rws rows n) {kvs : List (List Key × V)} (hk : kvs.length ≤ n) : SeenX B (upd H D1 (.dT kvs)) S R D1 D2 L v4 rws rows n := by
  obtain ⟨k1, e1, _⟩ := h.o.d1
  exact ⟨by rw [upd_ne (ne_of h.s e1 (by simp))]; exact h.s, h.bS, h.o.setD1 hk⟩
theorem SeenX.setD2 (h : SeenX B H S R D1 D2 L v4 rws rows n) {kvs : List (Key × V)} (hk : kvs.length ≤ n) : SeenX B (upd H D2 (.dK kvs)) S R D1 D2 L v4 rws rows n := by
  obtain ⟨k1, e1, _⟩ := h.o.d2
  exact ⟨by rw [upd_ne (ne_of h.s e1 (by simp))]; exact h.s, h.bS, h.o.setD2 hk⟩
theorem SeenX.setS (h : SeenX B H S R D1 D2 L v4 rws rows n) {L' : Addr} {v : V} {zs : List V} (e : H L' = some (.lst zs)) (hz : zs.length ≤ n) (hb : B L' = none) (hn : L' ≠ R ∧ L' ∉ rws ∧ L' ≠ S) : SeenX B (upd H S (.lst [.ref R, .ref D1, .ref D2, .ref L', v])) S R D1 D2 L' v rws rows n := by
  have o' := h.o.newL e hz hb ⟨hn.1, hn.2.1, by simpa using hn.2.2⟩
  obtain ⟨_, _, _, _, h5⟩ := o'.ndR
  obtain ⟨a1, a2, a3⟩ := h5 S (by simp)
  obtain ⟨k1, e1, _⟩ := o'.d1
  obtain ⟨k2, e2, _⟩ := o'.d2
  exact ⟨upd_same, h.bS, o'.keep a1 (ne_of h.s e1 (by simp)) (ne_of h.s e2 (by simp)) a2 a3⟩
theorem SeenX.newRow (h : SeenX B H S R D1 D2 L v4 rws rows n) {a : Addr} (ha : H a = some (.lst [])) (hb : B a = none) (hn : a ≠ R ∧ a ≠ L ∧ a ∉ rws ∧ a ≠ S) : SeenX B (upd H R (.lst (rws.map V.ref ++ [.ref a]))) S R D1 D2 L v4 (rws ++ [a]) (rows ++ [[]]) n := by
  obtain ⟨_, _, _, _, h5⟩ := h.o.ndR
  obtain ⟨a1, a2, a3⟩ := h5 S (by simp)
  exact ⟨by rw [upd_ne a1]; exact h.s, h.bS, h.o.newRow ha hb ⟨hn.1, hn.2.1, hn.2.2.1, by simpa using hn.2.2.2⟩⟩
theorem SeenX.push2 {rws' : List Addr} {a : Addr} {rows' : List (List Int)} {row : List Int} (v : Int) (h : SeenX B H S R D1 D2 L v4 (rws' ++ [a]) (rows' ++ [row]) n) :
    H a = some (.lst (row.map V.int)) ∧ B a = none ∧ SeenX B (upd H a (.lst (row.map V.int ++ [.int v]))) S R D1 D2 L v4 (rws' ++ [a]) (rows' ++ [row ++ [v]]) n := by
  obtain ⟨_, _, _, _, h5⟩ := h.o.ndR
  obtain ⟨a1, a2, a3⟩ := h5 S (by simp)
  obtain ⟨q1, q2, q3⟩ := h.o.push2 v
  exact ⟨q1, q2, by rw [upd_ne fun z => a3 (by rw [z]; simp)]; exact h.s, h.bS, q3⟩
end
theorem rowsIn {H : Hp} : ∀ {rws : List Addr} {rows : List (List Int)}, Paired (fun (a : Addr) (row : List Int) => H a = some (.lst (row.map V.int))) rws rows → RowsIn H (rws.map V.ref) rows
  | _, _, .nil => .nil
  | _, _, .cons a r => .cons ⟨_, rfl, a⟩ (rowsIn r)
def sp_law_laid : Sp := fun vs H Q _ => vs.length = 4 ∧ ∃ (vf vst : V) (tl : Addr) (tvs : List V) (f : Frame) (s : Stand) (l : Timed), vs = [vf, vst, .ref tl, .int f.ticks] ∧ f.Ok ∧ s.Ok ∧ TOk f s l ∧ Tp H vf f.d ∧ Tp H vst s.d ∧ H tl = some (.lst tvs) ∧ TpA H tvs (timedD l) ∧
  ∀ S R rest us H', Same H H' → H S = none → H' S = some (.lst (.ref R :: rest)) → H R = none → H' R = some (.lst us) → RowsIn H' us (picOf f s l) → Q (.ref S) H'
/-- the slots of _law_laid -/
abbrev lawR (f : Frame) (st : Stand) (tl : Addr) (S : Addr) (tk : PyData) (k : Nat) (tick row x nums : Sl) : List Sl := [.d f.d, .d st.d, .v (.ref tl), .d (.int f.ticks), .v (.ref S), .d tk, .d (.int (k : Int)), tick, row, x, .no, nums, .no, .no, .no]
abbrev lawR2 (f : Frame) (st : Stand) (tl : Addr) (S : Addr) (tk : PyData) (k : Nat) (tick row x nums k13 k14 : Sl) : List Sl := [.d f.d, .d st.d, .v (.ref tl), .d (.int f.ticks), .v (.ref S), .d tk, .d (.int (k : Int)), tick, row, x, .no, nums, .no, k13, k14]
structure PreCut (l : Timed) (k : Nat) (lo : Int → Prop) (hi : Int → Prop) : Prop where
  le : k ≤ l.length
  lo : ∀ x ∈ l.take k, lo x.1
  hi : ∀ x ∈ l.drop k, hi x.1
theorem le15 {a b c d e g h i j o p q r u v i' j' o' p' q' r' u' v' : Sl} (h1 : i' = .no ∨ i' = i) (h2 : j' = .no ∨ j' = j) (h3 : o' = .no ∨ o' = o) (h4 : p' = .no ∨ p' = p) (h5 : q' = .no ∨ q' = q) (h6 : r' = .no ∨ r' = r) (h7 : u' = .no ∨ u' = u) (h8 : v' = .no ∨ v' = v) :
    Le [a, b, c, d, e, g, h, i, j, o, p, q, r, u, v] [a, b, c, d, e, g, h, i', j', o', p', q', r', u', v'] :=
  .cons (.inr rfl) (.cons (.inr rfl) (.cons (.inr rfl) (.cons (.inr rfl) (.cons (.inr rfl) (.cons (.inr rfl) (.cons (.inr rfl) (.cons h1 (.cons h2 (.cons h3 (.cons h4 (.cons h5 (.cons h6 (.cons h7 (.cons h8 .nil))))))))))))))
theorem nodup3 {S R L : Addr} (h1 : S ≠ R) (h2 : S ≠ L) (h3 : R ≠ L) : ([S] ++ R :: L :: []).Nodup := by
  simp [h1, h2, h3]
section
variable {P : Program} {w : World} {K : PySem.W.Frag} {mg : Str → Option Value} {base : Heap} {C D : Addr}
theorem sc_law_laid : FnScope ["frame", "stand", "timed", "many", "seen", "row_here", "at", "tick", "row", "x", "number", "numbers", "one", "k", "other"] ["frame", "stand", "timed", "many"] (defScope s_law_laid) := ⟨rfl, rfl, rfl, by decide +kernel, rfl, by decide +kernel, by decide +kernel⟩
theorem c_law_laid (T : Txt K mg w C D) : Cal P w K mg base 3 "_law_laid" sp_law_laid := by
  have nd := sc_law_laid.nd
  have c_law_behind := c_law_behind (P := P) (w := w) (base := base) T
  have c_law_cover := c_law_cover (P := P) (w := w) (base := base) T
  have c_law_ink := c_law_ink (P := P) (w := w) (base := base) T
  have c_law_lying := c_law_lying (P := P) (w := w) (base := base) T
  have c_law_taken := c_law_taken (P := P) (w := w) (base := base) T
  refine mkR T.f__law_laid (fun _ _ _ _ _ _ us hl => match us, hl with | [_, _, _, _], _ => rfl) sc_law_laid (fun _ _ _ _ q => q.1) (fun f cdv A outer s H E hr => ⟨_, (pss_cons (ps_set (i := 4) nd rfl (by first | exact Or.inl rfl | exact Or.inr rfl) (pe_lst (pa_cons (pe_lst pa_nil) (pa_cons pe_dnewT (pa_cons pe_dnewK (pa_cons (pe_lst pa_nil) (pa_cons (pv 1) pa_nil))))))) (pss_cons (ps_set (i := 5) nd rfl (by first | exact Or.inl rfl | exact Or.inr rfl) pe_non) (pss_cons (ps_set (i := 6) nd rfl (by first | exact Or.inl rfl | exact Or.inr rfl) pe_int) (pss_cons (ps_for PassesOwn.never rfl (pi_range1 (by rfl) T.b_range (pa_cons (pv 3) pa_nil)) (pg_name (i := 7) nd rfl (by first | exact Or.inl rfl | exact Or.inr rfl)) (pss_cons (ps_while PassesOwn.never (PW.pt (pw_and (pt_cmpR op_lt (pv 6) (pe_callB (call_lenK (K := K) rfl) (by rfl) T.b_len (by decide +kernel) (pa_cons (pv 2) pa_nil)) (nomark _)) (pw_and1 (pt_cmpR op_eq (pe_ix (ix_tupK (K := K) rfl) (pe_ix (ix_listK (K := K) rfl) (pv 2) (pv 6) (fun _ _ => rfl)) pe_int (fun _ _ => rfl)) (pv 7) (nomark _))))) (pss_cons (ps_set (i := 1) nd rfl (by first | exact Or.inl rfl | exact Or.inr rfl) (pe_c c_law_behind hr (by decide) (by rfl) (pa_cons (pv 1) (pa_cons (pe_ix (ix_tupK (K := K) rfl) (pe_ix (ix_listK (K := K) rfl) (pv 2) (pv 6) (fun _ _ => rfl)) pe_int (fun _ _ => rfl)) pa_nil)))) (pss_one (ps_set (i := 6) nd rfl (by first | exact Or.inl rfl | exact Or.inr rfl) (pe_op op_add (pv 6) pe_int))))) (pss_cons (ps_set (i := 8) nd rfl (by first | exact Or.inl rfl | exact Or.inr rfl) (pe_op op_fdiv (pv 7) (pe_op op_add (pe_ix (ix_tupK (K := K) rfl) (pv 0) pe_int (fun _ _ => rfl)) (pe_ix (ix_tupK (K := K) rfl) (pv 0) pe_int (fun _ _ => rfl))))) (pss_cons (ps_set (i := 9) nd rfl (by first | exact Or.inl rfl | exact Or.inr rfl) (pe_op op_mod (pv 7) (pe_op op_add (pe_ix (ix_tupK (K := K) rfl) (pv 0) pe_int (fun _ _ => rfl)) (pe_ix (ix_tupK (K := K) rfl) (pv 0) pe_int (fun _ _ => rfl))))) (pss_cons (ps_if (pt_cmpR op_eq (pv 9) pe_int (nomark _)) (pss_cons (ps_set (i := 5) nd rfl (by first | exact Or.inl rfl | exact Or.inr rfl) (pe_c c_law_taken hr (by decide) (by rfl) (pa_cons (pv 0) (pa_cons (pv 1) (pa_cons (pv 8) pa_nil))))) (pss_cons (ps_expr (pe_bm PySem.F.plainAttrs_list PySem.F.slot_list_append PySem.F.type_list_append mt_append (pe_ix (ix_listK (K := K) rfl) (pv 4) pe_int (fun _ _ => rfl)) (pa_cons (pe_lst pa_nil) pa_nil))) (pss_one (ps_asg (pe_op op_cat (pe_ix (ix_listK (K := K) rfl) (pv 4) pe_int (fun _ _ => rfl)) (pe_lc (own := [("number", 10)]) (by rfl) nd (pi_listK (K := K) rfl (pe_slice (sl_listK (K := K) rfl) (pe_c c_law_lying hr (by decide) (by rfl) (pa_cons (pv 1) (pa_cons (pv 8) pa_nil))) (po_some (pe_ix (ix_tupK (K := K) rfl) (pv 0) pe_int (fun _ _ => rfl))) po_none)) (blkOk_by (N := ["frame", "stand", "timed", "many", "seen", "row_here", "at", "tick", "row", "x", "number", "numbers", "one", "k", "other"]) (sc := defScope s_law_laid) (by decide +kernel)) (fun _ _ _ _ _ => (pg_name (i := 10) nd rfl (by first | exact Or.inl rfl | exact Or.inr rfl))) (fun _ _ _ _ _ => pts_nil) (fun _ _ _ _ _ => (pe_tup (pa_cons (pv 8) (pa_cons (pv 10) pa_nil)))))) (pg_sub (pv 4) pe_int set_list))))) pss_nil) (pss_one (ps_if (pt_cmpR op_lt (pv 9) (pe_ix (ix_tupK (K := K) rfl) (pv 0) pe_int (fun _ _ => rfl)) (nomark _)) (pss_cons (ps_expr (pe_bm PySem.F.plainAttrs_list PySem.F.slot_list_append PySem.F.type_list_append mt_append (pe_ix (ix_listK (K := K) rfl) (pe_ix (ix_listK (K := K) rfl) (pv 4) pe_int (fun _ _ => rfl)) (pe_un un_neg pe_int) (fun _ _ => rfl)) (pa_cons (pe_ix (ix_tupK (K := K) rfl) (pe_ix (ix_tupK (K := K) rfl) (pv 1) pe_int (fun _ _ => rfl)) (pe_c c_law_ink hr (by decide) (by rfl) (pa_cons (pv 5) (pa_cons (pv 9) pa_nil))) (fun _ _ => rfl)) pa_nil))) (pss_cons (ps_setLc (i := 11) (own := [("one", 12)]) (by rfl) nd rfl rfl (sw_true rfl rfl rfl (by decide +kernel)) (pi_listK (K := K) rfl (pe_c c_law_cover hr (by decide) (by rfl) (pa_cons (pv 5) (pa_cons (pv 9) pa_nil)))) (blkOk_by (N := ["frame", "stand", "timed", "many", "seen", "row_here", "at", "tick", "row", "x", "number", "numbers", "one", "k", "other"]) (sc := defScope s_law_laid) (by decide +kernel)) (fun _ _ _ _ _ => (pg_name (i := 12) nd rfl (by first | exact Or.inl rfl | exact Or.inr rfl))) (fun _ _ _ _ _ => pts_nil) (fun _ _ _ _ _ => (pe_op op_sub pe_int (pe_ix (ix_tupK (K := K) rfl) (pv 12) pe_int (fun _ _ => rfl))))) (pss_one (ps_for PassesOwn.never rfl (pi_range1 (by rfl) T.b_range (pa_cons (pe_callB (call_lenK (K := K) rfl) (by rfl) T.b_len (by decide +kernel) (pa_cons (pv 11) pa_nil)) pa_nil)) (pg_name (i := 13) nd rfl (by first | exact Or.inl rfl | exact Or.inr rfl)) (pss_cons (ps_for PassesOwn.never rfl (pi_listK (K := K) rfl (pe_slice (sl_listK (K := K) rfl) (pv 11) (po_some (pe_op op_add (pv 13) pe_int)) po_none)) (pg_name (i := 14) nd rfl (by first | exact Or.inl rfl | exact Or.inr rfl)) (pss_one (ps_expr (pe_dsetT (hu_of hr) (pe_ix (ix_listK (K := K) rfl) (pv 4) pe_int (fun _ _ => rfl)) (pe_tup (pa_cons (pe_ix (ix_listK (K := K) rfl) (pv 11) (pv 13) (fun _ _ => rfl)) (pa_cons (pv 14) pa_nil))) (pe_tup (pa_cons (pv 8) (pa_cons (pv 9) pa_nil))) ⟨rfl, rfl, rfl, rfl⟩)))) (pss_one (ps_if (pt_cmpR op_ne (pe_ix (ix_tupK (K := K) rfl) (pe_ix (ix_tupK (K := K) rfl) (pv 5) pe_int (fun _ _ => rfl)) (pv 9) (fun _ _ => rfl)) pe_int (nomark _)) (pss_one (ps_expr (pe_dsetd (pe_ix (ix_listK (K := K) rfl) (pv 4) pe_int (fun _ _ => rfl)) (pe_ix (ix_listK (K := K) rfl) (pv 11) (pv 13) (fun _ _ => rfl)) (pe_tup (pa_cons (pv 8) (pa_cons (pv 9) pa_nil))) ⟨rfl, rfl, rfl, rfl⟩))) pss_nil))))))) pss_nil))))))) (pss_cons (ps_asg (pv 1) (pg_sub (pv 4) pe_int set_list)) (pss_one (ps_ret (pv 4)))))))), fun vs Q q => ?_⟩)
  obtain ⟨_, vf, vst, tl, tvs, f', s', l, rfl, ok, ok2, tok, t1, t2, et, tt, q⟩ := q
  have hlen := tt.length
  have hl2 := timedD_len l
  have hl3 := tok.len
  have hw1 := ok.w1
  have hg1 := ok.g1
  have htk := ticks_le ok
  have htk0 : 0 ≤ f'.ticks := by
    obtain ⟨w1, w2, h1, h2, g1, g2, m1, m2⟩ := ok
    unfold Frame.ticks
    exact Int.mul_nonneg (by omega) (by omega)
  have A : At W0 H H (L2.start ["frame", "stand", "timed", "many", "seen", "row_here", "at", "tick", "row", "x", "number", "numbers", "one", "k", "other"] [vf, vst, .ref tl, .int f'.ticks]) [.d f'.d, .d s'.d, .v (.ref tl), .d (.int f'.ticks), .no, .no, .no, .no, .no, .no, .no, .no, .no, .no, .no] :=
    ⟨trivial, Wd.refl _ _, .cons ⟨_, rfl, t1⟩ (.cons ⟨_, rfl, t2⟩ (.cons rfl (.cons ⟨_, rfl, .int _⟩ (.cons trivial (.cons trivial (.cons trivial (.cons trivial (.cons trivial (.cons trivial (.cons trivial (.cons trivial (.cons trivial (.cons trivial (.cons trivial .nil))))))))))))))⟩
  refine r_asg ?_
  refine ⟨by decide, fun R hR D1 hD1 D2 hD2 => ⟨by decide, fun L hL => ⟨_, rfl, Nat.le_of_ble_eq_true rfl, fun S hS => ?_⟩⟩⟩
  have s1 : Same H (upd H R (.lst [])) := same_new hR
  have eR : upd H R (.lst []) R = some (.lst []) := upd_same
  generalize upd H R (.lst []) = H1 at *
  have s2 : Same H1 (upd H1 D1 (.dT [])) := same_new hD1
  have e1 : upd H1 D1 (.dT []) D1 = some (.dT []) := upd_same
  generalize upd H1 D1 (.dT []) = H2 at *
  have s3 : Same H2 (upd H2 D2 (.dK [])) := same_new hD2
  have e2 : upd H2 D2 (.dK []) D2 = some (.dK []) := upd_same
  generalize upd H2 D2 (.dK []) = H3 at *
  have s4 : Same H3 (upd H3 L (.lst [])) := same_new hL
  have eL : upd H3 L (.lst []) L = some (.lst []) := upd_same
  generalize upd H3 L (.lst []) = H4 at *
  have s5 : Same H4 (upd H4 S (.lst [.ref R, .ref D1, .ref D2, .ref L, vst])) := same_new hS
  have eS : upd H4 S (.lst [.ref R, .ref D1, .ref D2, .ref L, vst]) S = some (.lst [.ref R, .ref D1, .ref D2, .ref L, vst]) := upd_same
  generalize upd H4 S (.lst [.ref R, .ref D1, .ref D2, .ref L, vst]) = H5 at *
  have s02 := same_trans s1 s2
  have s03 := same_trans s02 s3
  have s04 := same_trans s03 s4
  have s05 := same_trans s04 s5
  have bk : ∀ {Hx : Hp} {a : Addr}, Same H Hx → Hx a = none → H a = none := fun s h => Wd.back (W := W0) trivial (Wd.same s) h
  have X5 : SeenX H H5 S R D1 D2 L vst [] [] 0 := by
    have r4 : H4 R = some (.lst []) := s4 _ _ (s3 _ _ (s2 _ _ eR))
    have rL : H3 R = some (.lst []) := s3 _ _ (s2 _ _ eR)
    exact ⟨eS, bk s04 hS, s5 _ _ r4, .nil, ⟨[], s5 _ _ (s4 _ _ (s3 _ _ e1)), by simp⟩, ⟨[], s5 _ _ (s4 _ _ e2), by simp⟩, ⟨[], s5 _ _ eL, by simp⟩, nodup3 (fresh_ne hS r4) (fresh_ne hS eL) (Ne.symm (fresh_ne hL rL)), hR, bk s1 hD1, bk s02 hD2, bk s03 hL, fun a ha => by cases ha⟩
  have A5 := (A.sm s05).setV (.ref S) 4
  refine r_asg ?_
  have A6 := A5.setD (.non) 5
  refine r_asg ?_
  have A7 : At W0 H H5 _ (lawR f' (after s' (l.take 0)) tl S (optD (picTo f' s' l 0).tk) 0 .no .no .no .no) := A6.setD (.int 0) 6
  refine r_cut (fun σ' H' => ∃ k L' v4 rws, At W0 H H' σ' (lawR f' (after s' (l.take k)) tl S (optD (picTo f' s' l f'.ticks.toNat).tk) k .no .no .no .no) ∧ SeenX H H' S R D1 D2 L' v4 rws (picTo f' s' l f'.ticks.toNat).rows (200 * f'.ticks.toNat)) (fun nx kn => ?_) (fun σ8 H8 M => ?_)
  · refine r_for ?_
    refine ⟨_, rfl, f'.ticks, rfl, by omega, by omega, for_it (walk_range (lo := 0) (n := f'.ticks.toNat)) (fun t σ' H' => ∃ k L' v4 rws, At W0 H H' σ' (lawR f' (after s' (l.take k)) tl S (optD (picTo f' s' l t).tk) k .no .no .no .no) ∧ SeenX H H' S R D1 D2 L' v4 rws (picTo f' s' l t).rows (200 * t) ∧ PreCut l k (fun x => x < (t : Int)) (fun x => (t : Int) ≤ x)) ⟨0, L, vst, [], A7, X5, Nat.zero_le _, fun x hx => by simp at hx, fun x hx => tok.lo x (by simpa using hx)⟩ (fun i σ' H' _ _ => trivial) (fun t y σ9 H9 H10 hi p Y => ?_) (fun σ' H' p => ?_)⟩
    · obtain ⟨rfl, rfl⟩ := Y
      obtain ⟨k0, L0, v40, rws0, A9, X9, pc⟩ := p
      have htt : (t : Int) < f'.ticks := by omega
      show tSeq _ _ _ (σ9.set 7 (some (.int (0 + (t : Int))))) H10
      rw [Int.zero_add]
      have A10 : At W0 H H10 _ (lawR f' (after s' (l.take k0)) tl S (optD (picTo f' s' l t).tk) k0 (.d (.int (t : Int))) .no .no .no) := A9.setD (.int (t : Int)) 7
      generalize σ9.set 7 (some (.int (t : Int))) = σ10 at A10
      clear A9 A A5 A6 A7
      /- the deeds of this tick -/
      refine r_cut (fun σ' H' => ∃ k, At W0 H H' σ' (lawR f' (after s' (l.take k)) tl S (optD (picTo f' s' l t).tk) k (.d (.int (t : Int))) .no .no .no) ∧ SeenX H H' S R D1 D2 L0 v40 rws0 (picTo f' s' l t).rows (200 * t) ∧ Cut l k t) (fun nx2 kn2 => ?_) (fun σ11 H11 M2 => ?_)
      · refine ⟨fun m σ' H' => ∃ k, m = l.length - k ∧ At W0 H H' σ' (lawR f' (after s' (l.take k)) tl S (optD (picTo f' s' l t).tk) k (.d (.int (t : Int))) .no .no .no) ∧ SeenX H H' S R D1 D2 L0 v40 rws0 (picTo f' s' l t).rows (200 * t) ∧ PreCut l k (fun x => x ≤ (t : Int)) (fun x => (t : Int) ≤ x), ⟨_, k0, rfl, A10, X9, pc.le, fun x hx => by have := pc.lo x hx; omega, pc.hi⟩, ?_⟩
        rintro m σ' H' ⟨k, rfl, A11, X11, pc1⟩
        have et11 := A11.sB _ _ et
        have tt11 := tt.mono (same_tup A11.sB)
        by_cases hk : k < l.length
        · have ex := List.getElem?_eq_getElem hk
          have hx : atI (timedD l) (k : Int) = some (.tuple [.int l[k].1, l[k].2.d]) := by
            rw [atI_at (by omega) (by omega), Int.toNat_natCast]
            exact timed_at ex
          have mk : l[k] ∈ l.drop k := by
            rw [List.drop_eq_getElem_cons hk]
            exact List.mem_cons_self
          have ge := pc1.hi _ mk
          refine (et_and (b := decide (l[k].1 = (t : Int))) (et_test (ee_IB (ee_var (i := 6) rfl) (ed_lenL (K := K) (R := fun x => x = .int l.length) (eq_raw (i := 2) rfl et11 tt11) fun ds e => by subst e; rw [timedD_len]))) fun _ => et_test (ee_eqD (d := .int l[k].1) (e := .int (t : Int)) (ee_ixT (K := K) (ee_ixL (K := K) (eq_raw (i := 2) rfl et11 tt11) (ee_var (i := 6) rfl) hx) (ee_int (i := 0)) rfl) (ee_var (i := 7) rfl) rfl)) H' σ' H' _ (A11.here rfl) fun c H12 r12 ec => ?_
          have s12 := WC.same r12
          have A12 := A11.sm s12
          have X12 := X11.mono s12
          rw [decide_eq_true (show (k : Int) < (l.length : Int) by omega), Bool.true_and] at ec
          by_cases he : l[k].1 = (t : Int)
          · rw [decide_eq_true he] at ec
            subst ec
            rw [if_pos rfl]
            refine ⟨fun σ' H' => ∃ k', k < k' ∧ k' ≤ l.length ∧ At W0 H H' σ' (lawR f' (after s' (l.take k')) tl S (optD (picTo f' s' l t).tk) k' (.d (.int (t : Int))) .no .no .no) ∧ SeenX H H' S R D1 D2 L0 v40 rws0 (picTo f' s' l t).rows (200 * t) ∧ PreCut l k' (fun x => x ≤ (t : Int)) (fun x => (t : Int) ≤ x), fun σ2 H2 ⟨k', h1, h2, h3⟩ => ⟨l.length - k', by omega, k', rfl, h3⟩, ?_⟩
            have et12 := A12.sB _ _ et
            have tt12 := tt.mono (same_tup A12.sB)
            have aok := after_ok (s := s') (l := l.take k) ok2 fun x hx => tok.ok x (List.mem_of_mem_take hx)
            refine r_asg (Ee.go (e_law_behind aok.1 (deed_len aok.2.1 aok.2.2 (tok.at ex).2.2) (ea_cons (ee_var (i := 1) rfl) (ea_cons (ee_ixT (K := K) (ee_ixL (K := K) (eq_raw (i := 2) rfl et12 tt12) (ee_var (i := 6) rfl) hx) (ee_int (i := 1)) rfl) ea_nil))) A12 rfl fun v H13 s13 tv => ?_)
            rw [← after_snoc, ← take_succ' ex] at tv
            have A13 : At W0 H H13 _ (lawR f' (after s' (l.take (k + 1))) tl S (optD (picTo f' s' l t).tk) k (.d (.int (t : Int))) .no .no .no) := (A12.sm s13).setD tv 1
            refine r_asgZ (Ee.go (ee_II (g := fun i j => i + j) (ee_var (i := 6) rfl) (ee_int (i := 1))) A13 rfl fun v2 H14 s14 tv2 => ?_)
            refine ⟨k + 1, by omega, by omega, (A13.sm s14).setD tv2 6, X12.mono (same_trans s13 s14), by omega, fun x hx => ?_, fun x hx => ?_⟩
            · rw [take_succ' ex] at hx
              rcases List.mem_append.mp hx with q | q
              · exact pc1.lo x q
              · rw [List.mem_singleton.mp q]
                omega
            · exact pc1.hi x (by rw [List.drop_eq_getElem_cons hk]; exact List.mem_cons_of_mem _ hx)
          · rw [decide_eq_false he] at ec
            subst ec
            rw [if_neg (by decide)]
            refine kn2 _ _ ⟨k, A12, X12, pc1.le, pc1.lo, fun x hx => ?_⟩
            obtain ⟨i, hi2, e2⟩ := drop_get hx
            have := asc_le tok.asc hi2 ex e2
            omega
        · refine (et_and (b := false) (et_test (ee_IB (ee_var (i := 6) rfl) (ed_lenL (K := K) (R := fun x => x = .int l.length) (eq_raw (i := 2) rfl et11 tt11) fun ds e => by subst e; rw [timedD_len]))) fun z => absurd (of_decide_eq_true z) (by omega)) H' σ' H' _ (A11.here rfl) fun c H12 r12 ec => ?_
          have s12 := WC.same r12
          rw [decide_eq_false (show ¬ (k : Int) < (l.length : Int) by omega), Bool.false_and] at ec
          subst ec
          rw [if_neg (by decide)]
          refine kn2 _ _ ⟨k, A11.sm s12, X11.mono s12, pc1.le, pc1.lo, fun x hx => ?_⟩
          rw [List.drop_of_length_le (by omega)] at hx
          cases hx
      · obtain ⟨k, A11, X11, cut⟩ := M2
        clear A10 X9 pc
        have est := standBy_cut (s := s') cut
        have sok := (after_ok (s := s') (l := l.take k) ok2 fun x hx => tok.ok x (List.mem_of_mem_take hx)).1
        have pok := picTo_ok ok ok2 tok.ok t
        have esucc := picTo_succ f' s' l t
        rw [est] at esucc
        have cutN : PreCut l k (fun x => x < ((t + 1 : Nat) : Int)) (fun x => ((t + 1 : Nat) : Int) ≤ x) := ⟨cut.le, fun x hx => by have := cut.lo x hx; show x.1 < _; omega, fun x hx => by have := cut.hi x hx; show _ ≤ x.1; omega⟩
        have hst : ∃ st, st = after s' (l.take k) := ⟨_, rfl⟩
        have hpp : ∃ p, p = picTo f' s' l t := ⟨_, rfl⟩
        obtain ⟨st, hst⟩ := hst
        obtain ⟨p, hpp⟩ := hpp
        rw [← hst, ← hpp] at esucc A11
        rw [← hpp] at X11 pok
        rw [← hst] at sok
        have hmod0 := Int.emod_nonneg (t : Int) (show f'.wide + f'.gap ≠ 0 by omega)
        have hg2 := ok.g2
        have hw2 := ok.w2
        obtain ⟨⟨T', etk, tkok, hne⟩, hln, hwid⟩ := pic1_ok ok sok pok
        have hrl : rws0.length ≤ 2400 := by
          have h1 := pr_len X11.o.rs
          have h2 := pok.len
          omega
        refine r_asg (Ee.go (ee_IC (g := fun i j => i / j) (ee_var (i := 7) rfl) (ee_II (g := fun i j => i + j) (ee_ixT (K := K) (d := .int f'.wide) (ee_var (i := 0) rfl) (ee_int (i := 0)) rfl) (ee_ixT (K := K) (d := .int f'.gap) (ee_var (i := 0) rfl) (ee_int (i := 2)) rfl)) ⟨by omega, by omega⟩) A11 rfl fun v H12 s12 tv => ?_)
        have A12 : At W0 H H12 _ (lawR f' st tl S (optD p.tk) k (.d (.int (t : Int))) (.d (.int ((t : Int) / (f'.wide + f'.gap)))) .no .no) := (A11.sm s12).setD tv 8
        refine r_asg (Ee.go (ee_IC (g := fun i j => i % j) (ee_var (i := 7) rfl) (ee_II (g := fun i j => i + j) (ee_ixT (K := K) (d := .int f'.wide) (ee_var (i := 0) rfl) (ee_int (i := 0)) rfl) (ee_ixT (K := K) (d := .int f'.gap) (ee_var (i := 0) rfl) (ee_int (i := 2)) rfl)) (by show 0 < f'.wide + f'.gap; omega)) A12 rfl fun v2 H13 s13 tv2 => ?_)
        have A13 : At W0 H H13 _ (lawR f' st tl S (optD p.tk) k (.d (.int (t : Int))) (.d (.int ((t : Int) / (f'.wide + f'.gap)))) (.d (.int ((t : Int) % (f'.wide + f'.gap)))) .no) := (A12.sm s13).setD tv2 9
        have X13 := (X11.mono s12).mono s13
        clear A11 A12 X11 tv tv2 cut
        refine r_cut (fun σ' H' => ∃ L' v4 rws, At W0 H H' σ' (lawR f' st tl S (optD (pic1 f' st p t).tk) k (.d (.int (t : Int))) (.d (.int ((t : Int) / (f'.wide + f'.gap)))) (.d (.int ((t : Int) % (f'.wide + f'.gap)))) .no) ∧ SeenX H H' S R D1 D2 L' v4 rws (pic1 f' st p t).rows (200 * t + 12)) (fun nx3 kn3 => ?_) (fun σ15 H15 M3 => ?_)
        · refine r_if ((et_test (ee_eqD (d := .int ((t : Int) % (f'.wide + f'.gap))) (e := .int 0) (ee_var (i := 9) rfl) ee_int rfl)) H13 _ H13 _ (A13.here rfl) fun c H14 r14 ec => ?_)
          have ec : c = decide ((t : Int) % (f'.wide + f'.gap) = 0) := ec
          have s14 := WC.same r14
          have A14 := A13.sm s14
          have X14 := X13.mono s14
          by_cases c0 : (t : Int) % (f'.wide + f'.gap) = 0
          · rw [decide_eq_true c0] at ec
            subst ec
            have ep : pic1 f' st p t = ⟨some (taken f' st ((t : Int) / (f'.wide + f'.gap))), p.rows ++ [[]]⟩ := by
              unfold pic1
              rw [if_pos c0]
            rw [if_pos rfl]
            refine r_asg (Ee.go (e_law_taken ok sok (ea_cons (ee_var (i := 0) rfl) (ea_cons (ee_var (i := 1) rfl) (ea_cons (ee_var (i := 8) rfl) ea_nil)))) A14 rfl fun v3 H16 s16 tv3 => ?_)
            have A16 : At W0 H H16 _ (lawR f' st tl S (taken f' st ((t : Int) / (f'.wide + f'.gap))).d k (.d (.int (t : Int))) (.d (.int ((t : Int) / (f'.wide + f'.gap)))) (.d (.int ((t : Int) % (f'.wide + f'.gap)))) .no) := (A14.sm s16).setD tv3 5
            have X16 := X14.mono s16
            refine r_drop ?_
            refine ⟨_, A16.vv (i := 4) rfl, S, _, 0, .ref R, rfl, rfl, SqL.of X16.s, rfl, .inl ⟨rfl, _, SqL.of X16.o.r⟩, by decide, fun a ha => ?_⟩
            have s17 : Same H16 (upd H16 a (.lst [])) := same_new ha
            have X17 := X16.mono s17
            have A17 := A16.sm s17
            have hba : H a = none := bk A16.sB ha
            obtain ⟨xs4, el4, _⟩ := X16.o.l
            have hna : a ∉ rws0 := fun z => by
              obtain ⟨row, e⟩ := X16.o.rowAt z
              rw [ha] at e
              cases e
            refine ⟨R, _, .ref a, rfl, rfl, X17.o.r, by rw [List.length_map]; exact small5 (by omega), ?_⟩
            have X18 := X17.newRow upd_same hba ⟨fresh_ne ha X16.o.r, fresh_ne ha el4, hna, fresh_ne ha X16.s⟩
            have A18 := A17.upd rfl (o := .lst (rws0.map V.ref ++ [.ref a])) X17.o.bR X17.o.r (fun xs => by simp)
            generalize upd (upd H16 a (.lst [])) R (.lst (rws0.map V.ref ++ [.ref a])) = H18 at A18 X18
            obtain ⟨xs8, el8, hl8⟩ := X18.o.l
            have hlo : ((lying st ((t : Int) / (f'.wide + f'.gap))).drop f'.most.toNat).length ≤ 12 := by
              rw [List.length_drop]
              have h1 := lying_len st ((t : Int) / (f'.wide + f'.gap))
              have h2 := sok.m1
              omega
            have hld : ((natsD (lying st ((t : Int) / (f'.wide + f'.gap)))).drop f'.most.toNat).length ≤ 12 := by
              unfold natsD
              rw [← List.map_drop, List.length_map]
              exact hlo
            have EL := el_lcE (js := [10]) (W := WC H18) (ρ := lawR f' st tl S (taken f' st ((t : Int) / (f'.wide + f'.gap))).d k (.d (.int (t : Int))) (.d (.int ((t : Int) / (f'.wide + f'.gap)))) (.d (.int ((t : Int) % (f'.wide + f'.gap)))) .no) (te := tTup (tCons (tVar 8) (tCons (tVar 10) tNil))) (vs := [10]) (g := gName 10)
              (src_L (K := K) (el_drop (K := K) (e_law_lying (E := E0) (row := (t : Int) / (f'.wide + f'.gap)) sok (ea_cons (ee_var (i := 1) rfl) (ea_cons (ee_var (i := 8) rfl) ea_nil))).q (ee_ixT (K := K) (d := .int f'.most) (ee_var (i := 0) rfl) (ee_int (i := 3)) rfl) ok.m1).q) (by omega)
              (fun i => .tuple [.int ((t : Int) / (f'.wide + f'.gap)), nth ((natsD (lying st ((t : Int) / (f'.wide + f'.gap)))).drop f'.most.toNat) i]) (by simp) (fun i hi => ⟨_, gd_name, ee_tup (ea_cons (ee_var rfl) (ea_cons (ee_var rfl) ea_nil))⟩)
            refine r_asgZ ?_
            refine ⟨_, A18.vv (i := 4) rfl, S, _, 3, .ref L0, rfl, rfl, SqL.of X18.s, rfl, EL H18 _ H18 _ (A18.here rfl) fun z us ds H19 r19 nz ez tz qz => ?_⟩
            subst qz
            have s19 := WC.same r19
            have hus : us.length ≤ 12 := by
              rw [tz.length, List.length_map, List.length_range]
              exact hld
            have X19 := X18.mono s19
            refine ⟨L0, z, xs8, us, rfl, rfl, s19 _ _ el8, ez, Nat.le_trans (m := 1000000) (by omega) (by decide), fun L2 hL2 => ?_⟩
            have s20 : Same H19 (upd H19 L2 (.lst (xs8 ++ us))) := same_new hL2
            have A20 := (A18.sm s19).sm s20
            have X20 := X19.mono s20
            have hnr : L2 ∉ rws0 ++ [a] := fun z => by
              obtain ⟨row, e⟩ := X19.o.rowAt z
              rw [hL2] at e
              cases e
            have X21 := (X20.more (m := 200 * t + 12) (by omega)).setS (v := v40) upd_same (by rw [List.length_append]; omega) (bk (A18.sm s19).sB hL2) ⟨fresh_ne hL2 X19.o.r, hnr, fresh_ne hL2 X19.s⟩
            refine ⟨_, A20.vv (i := 4) rfl, S, _, 3, 3, rfl, rfl, X20.s, rfl, kn3 _ _ ⟨L2, v40, rws0 ++ [a], ?_, ?_⟩⟩
            · rw [ep]
              exact A20.upd rfl X20.bS X20.s (fun xs => by simp)
            · rw [ep]
              exact X21
          · rw [decide_eq_false c0] at ec
            subst ec
            have ep : pic1 f' st p t = p := by
              unfold pic1
              rw [if_neg c0]
            rw [if_neg (by decide)]
            exact kn3 _ _ ⟨L0, v40, rws0, by rw [ep]; exact A14, by rw [ep]; exact X14.more (by omega)⟩
        · obtain ⟨L3, v43, rws3, A15, X15⟩ := M3
          rw [etk] at A15
          have A15 : At W0 H H15 σ15 (lawR f' st tl S T'.d k (.d (.int (t : Int))) (.d (.int ((t : Int) / (f'.wide + f'.gap)))) (.d (.int ((t : Int) % (f'.wide + f'.gap)))) .no) := A15
          have eq2 : stepPic f' st p t = pic2 f' st (pic1 f' st p t) t := rfl
          refine r_if ((et_test (ee_IB (ee_var (i := 9) rfl) (ee_ixT (K := K) (d := .int f'.wide) (ee_var (i := 0) rfl) (ee_int (i := 0)) rfl))) H15 _ H15 _ (A15.here rfl) fun c H16 r16 ec => ?_)
          have s16 := WC.same r16
          have A16 := A15.sm s16
          have X16 := X15.mono s16
          by_cases c0 : (t : Int) % (f'.wide + f'.gap) < f'.wide
          · rw [decide_eq_true c0] at ec
            subst ec
            obtain ⟨rows', row, er⟩ := ne_snoc hne
            have ep : stepPic f' st p t = ⟨some T', rows' ++ [row ++ [gI st.pots (inkAt T' ((t : Int) % (f'.wide + f'.gap)))]]⟩ := by
              rw [eq2]
              unfold pic2
              rw [if_pos c0, er, push_last, etk]
              unfold tkOf
              rw [etk]
              rfl
            rw [er] at X16 hln hwid
            obtain ⟨rws', a, rfl, _, _⟩ := pr_snoc X16.o.rs
            have hrw := hwid row (List.mem_append_right _ List.mem_cons_self)
            have hio := ink_ok tkok hmod0 c0
            have hx : atI (st.pots.map PyData.int) (inkAt T' ((t : Int) % (f'.wide + f'.gap))) = some (.int (gI st.pots (inkAt T' ((t : Int) % (f'.wide + f'.gap))))) := atI_int hio.1 (by rw [sok.p1]; have := hio.2; omega)
            have ea := (X16.push2 0).1
            rw [if_pos rfl]
            refine r_drop ?_
            refine ⟨_, A16.vv (i := 4) rfl, S, _, 0, .ref R, rfl, rfl, SqL.of X16.s, rfl, 1, rfl, R, _, -1, .ref a, rfl, rfl, SqL.of X16.o.r, by rw [List.map_append]; exact atI_last _ _, .inl ⟨rfl, _, SqL.of ea⟩, ?_⟩
            refine r_cons (Ee.go (ee_ixT (K := K) (d := .int (gI st.pots (inkAt T' ((t : Int) % (f'.wide + f'.gap))))) (ee_ixT (K := K) (d := inksD st.pots) (ee_var (i := 1) rfl) (ee_int (i := 4)) rfl) (e_law_ink (t := T') hmod0 (by rw [tkok.wide]; exact c0) tkok.ok (ea_cons (ee_var (i := 5) rfl) (ea_cons (ee_var (i := 9) rfl) ea_nil))) hx) A16 rfl fun v H17 s17 tv => ?_)
            rw [tv.int_of]
            have X17 := X16.mono s17
            have A17 := A16.sm s17
            obtain ⟨ea7, hba, X18⟩ := X17.push2 (gI st.pots (inkAt T' ((t : Int) % (f'.wide + f'.gap))))
            refine ⟨a, _, _, rfl, rfl, ea7, by rw [List.length_map]; exact small5 (by omega), ?_⟩
            have A18 := A17.upd rfl (o := .lst (row.map V.int ++ [.int (gI st.pots (inkAt T' ((t : Int) % (f'.wide + f'.gap))))])) hba ea7 (fun xs => by simp)
            generalize upd H17 a (.lst (row.map V.int ++ [.int (gI st.pots (inkAt T' ((t : Int) % (f'.wide + f'.gap))))])) = H18 at A18 X18
            generalize rws' ++ [a] = rws4 at X18
            generalize hrr : rows' ++ [row ++ [gI st.pots (inkAt T' ((t : Int) % (f'.wide + f'.gap)))]] = rr at X18 ep
            clear X17 X16 A17 A16 X15 A15
            generalize hxx : (t : Int) % (f'.wide + f'.gap) = x at *
            generalize (t : Int) / (f'.wide + f'.gap) = row2 at *
            have hcl : (covering T' x).length ≤ 12 := Nat.le_trans (List.length_filter_le _ _) tkok.len
            let nums : List Int := (covering T' x).map fun t => 0 - (0 - (t.number : Int))
            have hnl : nums.length = (covering T' x).length := by simp [nums]
            have EL := el_lcE (js := [12]) (W := WC H18) (ρ := lawR f' st tl S T'.d k (.d (.int (t : Int))) (.d (.int row2)) (.d (.int x)) .no) (te := tOp (rI0 fun i j => V.int (i - j)) (tC (.int 0)) (tOp (rIxT K) (tVar 12) (tC (.int 1)))) (vs := [12]) (g := gName 12)
              (src_L (K := K) (e_law_cover (E := E0) (t := T') (x := x) (by have := tkok.len; omega) (ea_cons (ee_var (i := 5) rfl) (ea_cons (ee_var (i := 9) rfl) ea_nil))).q) (by rw [List.length_map]; omega) (fun i => .int (gI nums (i : Int))) (by simp) (fun i hi => by
                have hm : i < (covering T' x).length := by simpa using hi
                rw [nth_map (getE hm)]
                refine ⟨_, gd_name, Ed.is (ee_II (g := fun i j => i - j) ee_int (ee_ixT (d := .int (0 - ((covering T' x)[i].number : Int))) (ee_var rfl) ee_int rfl)) ?_⟩
                have e := gI_at (l := nums) (i := i) (by omega)
                have e2 : nums[i]? = some (0 - (0 - ((covering T' x)[i].number : Int))) := by
                  show ((covering T' x).map fun t => 0 - (0 - (t.number : Int)))[i]? = _
                  rw [List.getElem?_map, getE hm]
                  rfl
                rw [e] at e2
                rw [Option.some.inj e2])
            rw [List.length_map, ← hnl, range_ints] at EL
            dsimp only
            refine r_asg (EL H18 _ H18 _ (A18.here rfl) fun nl us ds H19 r19 nnl el tl2 ql => ?_)
            subst ql
            obtain rfl := tl2.ints
            have s19 := WC.same r19
            have A19 : At W0 H H19 _ (lawR f' st tl S T'.d k (.d (.int (t : Int))) (.d (.int row2)) (.d (.int x)) (.v (.ref nl))) := (A18.sm s19).setV (.ref nl) 11
            have X19 := X18.mono s19
            clear EL r19 nnl tl2
            have fin : ∀ {σ' : L2.St} {H' : Hp} {n : Nat}, n ≤ 200 * (t + 1) → At W0 H H' σ' (lawR f' st tl S T'.d k (.d (.int (t : Int))) (.d (.int row2)) (.d (.int x)) (.v (.ref nl))) → SeenX H H' S R D1 D2 L3 v43 rws4 rr n →
                ∃ k L' v4 rws, At W0 H H' σ' (lawR f' (after s' (l.take k)) tl S (optD (picTo f' s' l (t + 1)).tk) k .no .no .no .no) ∧ SeenX H H' S R D1 D2 L' v4 rws (picTo f' s' l (t + 1)).rows (200 * (t + 1)) ∧ PreCut l k (fun x => x < ((t + 1 : Nat) : Int)) (fun x => ((t + 1 : Nat) : Int) ≤ x) := fun hn a x => by
              refine ⟨k, L3, v43, rws4, ?_, ?_, cutN⟩
              · rw [esucc, ep, ← hst]
                exact a.le (le15 (.inl rfl) (.inl rfl) (.inl rfl) (.inr rfl) (.inl rfl) (.inr rfl) (.inr rfl) (.inr rfl))
              · rw [esucc, ep]
                exact x.more hn
            refine r_for ?_
            refine r_cons ?_
            refine ⟨_, A19.vv (i := 11) rfl, nl, _, rfl, .inl (SqL.of el), ((nums.map V.int).length : Int), rfl, ?_, ?_, for_it (walk_range (lo := 0) (n := ((nums.map V.int).length : Int).toNat)) (fun i σ' H' => At W0 H H' σ' (lawR f' st tl S T'.d k (.d (.int (t : Int))) (.d (.int row2)) (.d (.int x)) (.v (.ref nl))) ∧ SeenX H H' S R D1 D2 L3 v43 rws4 rr (200 * t + 12 + 13 * i) ∧ H' nl = some (.lst (nums.map V.int))) ⟨A19, X19, el⟩ (fun i σ' H' _ _ => trivial) (fun i y σ2 H20 H21 hi p Y => ?_) (fun σ' H' p => ?_)⟩
            · rw [List.length_map]
              omega
            · rw [List.length_map]
              omega
            · obtain ⟨rfl, rfl⟩ := Y
              obtain ⟨A20, X20, e20⟩ := p
              rw [Int.toNat_natCast, List.length_map] at hi
              show tSeq _ _ _ (σ2.set 13 (some (.int (0 + (i : Int))))) H21
              rw [Int.zero_add]
              have A21 : At W0 H H21 _ (lawR2 f' st tl S T'.d k (.d (.int (t : Int))) (.d (.int row2)) (.d (.int x)) (.v (.ref nl)) (.d (.int (i : Int))) .no) := A20.setD (.int (i : Int)) 13
              generalize σ2.set 13 (some (.int (i : Int))) = σ21 at A21
              have hat : ∀ {ns : List Int}, ns.length = nums.length → True := fun _ => trivial
              have hxi : atI (nums.map PyData.int) (i : Int) = some (.int (gI nums (i : Int))) := atI_int (by omega) (by omega)
              have E2 := el_drop (K := K) (ρ := lawR2 f' st tl S T'.d k (.d (.int (t : Int))) (.d (.int row2)) (.d (.int x)) (.v (.ref nl)) (.d (.int (i : Int))) .no) (eq_raw (C0 := H21) (i := 11) rfl e20 (TpA.of_ints (ns := nums))) (ee_II (g := fun i j => i + j) (ee_var (i := 13) rfl) (ee_int (i := 1))) (by omega)
              refine r_cut (fun σ' H' => At W0 H H' σ' (lawR2 f' st tl S T'.d k (.d (.int (t : Int))) (.d (.int row2)) (.d (.int x)) (.v (.ref nl)) (.d (.int (i : Int))) .no) ∧ SeenX H H' S R D1 D2 L3 v43 rws4 rr (200 * t + 12 + 13 * i + 12) ∧ H' nl = some (.lst (nums.map V.int))) (fun nx5 kn5 => ?_) (fun σ23 H23 M5 => ?_)
              · refine r_for ?_
                refine E2 H21 _ H21 _ (A21.here rfl) fun l2 us2 ds2 H22 r22 n22 e22 t22 q22 => ?_
                subst q22
                rw [show ((i : Int) + 1).toNat = i + 1 by omega, ← List.map_drop] at t22
                obtain rfl := t22.ints
                have s22 := WC.same r22
                refine ⟨l2, rfl, ⟨_, SqL.of e22⟩, for_it walk_list (fun j σ' H' => (At W0 H H' σ' (lawR2 f' st tl S T'.d k (.d (.int (t : Int))) (.d (.int row2)) (.d (.int x)) (.v (.ref nl)) (.d (.int (i : Int))) .no) ∧ SeenX H H' S R D1 D2 L3 v43 rws4 rr (200 * t + 12 + 13 * i + j) ∧ H' nl = some (.lst (nums.map V.int))) ∧ H' l2 = some (.lst ((nums.drop (i + 1)).map V.int))) ⟨⟨A21.sm s22, X20.mono s22, s22 _ _ e20⟩, e22⟩ (fun j σ' H' _ p => SqL.of p.2) (fun j y σ5 H24 H25 hj p Y => ?_) (fun σ5 H24 p => ?_)⟩
                · obtain ⟨rfl, ey⟩ := Y
                  obtain ⟨⟨A24, X24, e24⟩, e24'⟩ := p
                  rw [List.length_map] at hj
                  have hj2 : j < 12 := by
                    rw [List.length_drop] at hj
                    omega
                  rw [List.getElem?_map, gI_at hj] at ey
                  have ey := Option.some.inj ey
                  subst ey
                  have A25 : At W0 H H25 _ (lawR2 f' st tl S T'.d k (.d (.int (t : Int))) (.d (.int row2)) (.d (.int x)) (.v (.ref nl)) (.d (.int (i : Int))) (.d (.int (gI (nums.drop (i + 1)) (j : Int))))) := A24.setD (.int (gI (nums.drop (i + 1)) (j : Int))) 14
                  obtain ⟨k1, d1, l1⟩ := X24.o.d1
                  refine r_dropZ (setT_go A25 rfl (fun Q q => ⟨_, A25.vv (i := 4) rfl, S, _, 1, .ref D1, rfl, rfl, SqL.of X24.s, rfl, q⟩) d1 (by omega) (ee_tup (ea_cons (ee_ixL (K := K) (eq_raw (C0 := H25) (i := 11) rfl e24 (TpA.of_ints (ns := nums))) (ee_var (i := 13) rfl) hxi) (ea_cons (ee_var (i := 14) rfl) ea_nil))) (ee_tup (ea_cons (ee_var (i := 8) rfl) (ea_cons (ee_var (i := 9) rfl) ea_nil))) fun v H26 kvs' hk s26 => ?_)
                  have X26 := ((X24.mono s26).more (m := 200 * t + 12 + 13 * i + (j + 1)) (by omega)).setD1 (kvs := kvs') (by omega)
                  refine ⟨⟨((A25.sm s26).upd rfl X24.o.b1 (s26 _ _ d1) (fun xs => by simp)).le (le15 (.inr rfl) (.inr rfl) (.inr rfl) (.inr rfl) (.inr rfl) (.inr rfl) (.inr rfl) (.inl rfl)), X26, ?_⟩, ?_⟩
                  · rw [upd_ne (ne_of (s26 _ _ e24) (s26 _ _ d1) (by simp))]
                    exact s26 _ _ e24
                  · rw [upd_ne (ne_of (s26 _ _ e24') (s26 _ _ d1) (by simp))]
                    exact s26 _ _ e24'
                · obtain ⟨⟨A24, X24, e24⟩, _⟩ := p
                  exact kn5 _ _ ⟨A24, X24.more (by rw [List.length_map, List.length_drop]; omega), e24⟩
              · obtain ⟨A23, X23, e23⟩ := M5
                have hxt : atI (T'.inks.map PyData.int) x = some (.int (gI T'.inks x)) := atI_int hmod0 (by rw [tkok.wide]; exact c0)
                refine r_if ((et_test (ee_neD (d := .int (gI T'.inks x)) (e := .int 0) (ee_ixT (K := K) (ee_ixT (K := K) (d := inksD T'.inks) (ee_var (i := 5) rfl) (ee_int (i := 0)) rfl) (ee_var (i := 9) rfl) hxt) ee_int rfl)) H23 _ H23 _ (A23.here rfl) fun c H24 r24 ec => ?_)
                have s24 := WC.same r24
                have A24 := A23.sm s24
                have X24 := X23.mono s24
                have e24 := s24 _ _ e23
                cases c with
                | false => exact ⟨A24.le (le15 (.inr rfl) (.inr rfl) (.inr rfl) (.inr rfl) (.inr rfl) (.inr rfl) (.inl rfl) (.inr rfl)), X24.more (by omega), e24⟩
                | true =>
                  obtain ⟨k2, d2, l2'⟩ := X24.o.d2
                  refine r_dropZ (setd_go A24 rfl (fun Q q => ⟨_, A24.vv (i := 4) rfl, S, _, 2, .ref D2, rfl, rfl, SqL.of X24.s, rfl, q⟩) d2 (by omega) (ee_ixL (K := K) (eq_raw (C0 := H24) (i := 11) rfl e24 (TpA.of_ints (ns := nums))) (ee_var (i := 13) rfl) hxi) (ee_tup (ea_cons (ee_var (i := 8) rfl) (ea_cons (ee_var (i := 9) rfl) ea_nil))) fun v H26 kvs' hk s26 => ?_)
                  have X26 := ((X24.mono s26).more (m := 200 * t + 12 + 13 * (i + 1)) (by omega)).setD2 (kvs := kvs') (by omega)
                  refine ⟨((A24.sm s26).upd rfl X24.o.b2 (s26 _ _ d2) (fun xs => by simp)).le (le15 (.inr rfl) (.inr rfl) (.inr rfl) (.inr rfl) (.inr rfl) (.inr rfl) (.inl rfl) (.inr rfl)), X26, ?_⟩
                  rw [upd_ne (ne_of (s26 _ _ e24) (s26 _ _ d2) (by simp))]
                  exact s26 _ _ e24
            · obtain ⟨A20, X20, _⟩ := p
              rw [Int.toNat_natCast, List.length_map] at X20
              exact fin (by omega) A20 X20
          · rw [decide_eq_false c0] at ec
            subst ec
            have ep : stepPic f' st p t = pic1 f' st p t := by
              rw [eq2]
              unfold pic2
              rw [if_neg c0]
            rw [if_neg (by decide)]
            refine ⟨k, L3, v43, rws3, ?_, ?_, cutN⟩
            · rw [esucc, ep, etk, ← hst]
              exact A16.le (le15 (.inl rfl) (.inl rfl) (.inl rfl) (.inr rfl) (.inl rfl) (.inr rfl) (.inr rfl) (.inr rfl))
            · rw [esucc, ep]
              exact X16.more (by omega)
    · obtain ⟨k, L', v4, rws, A8, X8, _⟩ := p
      exact kn _ _ ⟨k, L', v4, rws, A8, X8⟩
  · obtain ⟨k, L', v4, rws, A8, X8⟩ := M
    obtain ⟨v1, e1', t1'⟩ := A8.var (i := 1) rfl
    obtain ⟨xs, eL8, hl8⟩ := X8.o.l
    obtain ⟨h1, h2, h3, h4, h5⟩ := X8.o.ndR
    have X9 := X8.setS (v := v1) eL8 hl8 X8.o.bL ⟨Ne.symm h1, h3, Ne.symm (h5 S (by simp)).2.1⟩
    have A9 := A8.upd rfl (o := .lst [.ref R, .ref D1, .ref D2, .ref L', v1]) X8.bS X8.s (fun xs => by simp)
    refine r_asg ?_
    refine ⟨v1, e1', _, A8.vv (i := 4) rfl, S, _, 4, 4, rfl, rfl, X8.s, rfl, ?_⟩
    refine r_ret ⟨_, A8.vv (i := 4) rfl, q S R _ _ _ A9.sB (bk s04 hS) X9.s hR X9.o.r ?_⟩
    exact rowsIn X9.o.rs
end
end Gw
set_option Elab.async false
set_option linter.all false
set_option maxRecDepth 100000
set_option maxHeartbeats 4000000
/-! the tape: a list that changes; what is drawn -/
namespace Gw
open PySem PySem.Spec PyProof.Rows L2
structure TI_ (t c : Addr) (ns : List Int) (H : Hp) : Prop where
  ne : c ≠ t
  hc : H c = some (.lst (ns.map V.int))
  ht : ∃ i n : Int, 0 ≤ i ∧ H t = some (.lst [.ref c, .int i, .int n])
def TW (t c : Addr) (ns : List Int) : Wd where
  inv := TI_ t c ns
  mt a := a = t
  mono h s := ⟨h.ne, s _ _ h.hc, by obtain ⟨i, n, h0, e⟩ := h.ht; exact ⟨i, n, h0, s _ _ e⟩⟩
  ne h m := by
    obtain ⟨i, n, h0, e⟩ := h.ht
    exact ⟨_, by rw [m]; exact e⟩
  own := fun {B H p o} iB hB iH => by
    obtain ⟨i, n, h0, e⟩ := iH.ht
    obtain ⟨i', n', h0', e'⟩ := iB.ht
    refine ⟨iH.ne, ?_, i, n, h0, ?_⟩
    · rw [upd_ne (ne_of_none iB.hc hB)]
      exact iH.hc
    · rw [upd_ne (ne_of_none e' hB)]
      exact e
/-- data in, data out; the tape goes on -/
def spT (n : Nat) (Pre : List PyData → Prop) (Post : List PyData → PyData → Prop) : Sp := fun vs H Q _ => vs.length = n ∧ ∃ t c ns us ds, vs = .ref t :: us ∧ TI_ t c ns H ∧ TpA H us ds ∧ Pre ds ∧ ∀ v H' d, (TW t c ns).rel H H' → Tp H' v d → Post ds d → Q v H'
/-- data in, a new list out -/
def spTL (n : Nat) (Pre : List PyData → Prop) (Post : List PyData → List PyData → Prop) : Sp := fun vs H Q _ => vs.length = n ∧ ∃ t c ns us ds, vs = .ref t :: us ∧ TI_ t c ns H ∧ TpA H us ds ∧ Pre ds ∧ ∀ p ws H' rs, (TW t c ns).rel H H' → H p = none → H' p = some (.lst ws) → TpA H' ws rs → Post ds rs → Q (.ref p) H'
section
variable {t c : Addr} {ns : List Int} {ρ : List Sl} {ta : TA} {E : XK} {n : Nat} {Pre : List PyData → Prop} {Post : List PyData → PyData → Prop} {PostL : List PyData → List PyData → Prop} {i : Nat} {P1 : PL} {R : PD} {RL : PL}
theorem ed_tc (h0 : ρ[i]? = some (.v (.ref t))) (h : Ea (TW t c ns) ta ρ P1) (hp : ∀ ds, P1 ds → ds.length + 1 = n ∧ Pre ds) (hq : ∀ ds d, P1 ds → Post ds d → R d) : Ed (TW t c ns) (tCall (spT n Pre Post) [] E (tCons (tVar i) ta)) ρ R := fun B σ H Q A k =>
  ⟨_, A.vv h0, h B σ H _ A fun us H1 ds r1 t1 p1 => ⟨by rw [List.append_nil, List.length_cons, t1.length]; exact (hp ds p1).1, t, c, ns, us, ds, by rw [List.append_nil], (A.mono r1).i, t1, (hp ds p1).2, fun v H2 d r2 t2 q2 => k v H2 d (Wd.trans r1 r2) t2 (hq ds d p1 q2)⟩⟩
theorem el_tc (h0 : ρ[i]? = some (.v (.ref t))) (h : Ea (TW t c ns) ta ρ P1) (hp : ∀ ds, P1 ds → ds.length + 1 = n ∧ Pre ds) (hq : ∀ ds d, P1 ds → PostL ds d → RL d) : El (TW t c ns) (tCall (spTL n Pre PostL) [] E (tCons (tVar i) ta)) ρ RL := fun B σ H Q A k =>
  ⟨_, A.vv h0, h B σ H _ A fun us H1 ds r1 t1 p1 => ⟨by rw [List.append_nil, List.length_cons, t1.length]; exact (hp ds p1).1, t, c, ns, us, ds, by rw [List.append_nil], (A.mono r1).i, t1, (hp ds p1).2, fun p ws H2 rs r2 np e t2 q2 => k p ws rs H2 (Wd.trans r1 r2) (Wd.back A.i r1 np) e t2 (hq ds rs p1 q2)⟩⟩
end
section
variable {P : Program} {w : World} {K : PySem.W.Frag} {mg : Str → Option Value} {base : Heap} {x : Str} {st : Stmt} {N ps : List Str} {k n : Nat} {Pre : List PyData → Prop} {Post : List PyData → PyData → Prop} {PostL : List PyData → List PyData → Prop}
def startT (t : Addr) (N : List Str) (ds : List PyData) : List Sl := .v (.ref t) :: (ds.map Sl.d ++ List.replicate (N.length - (ds.length + 1)) Sl.no)
theorem startT_at {H : Hp} {t c : Addr} {ns : List Int} {N : List Str} {us : List V} {ds : List PyData} (i : TI_ t c ns H) (h : TpA H us ds) : At (TW t c ns) H H (L2.start N (.ref t :: us)) (startT t N ds) := by
  refine ⟨i, Wd.refl _ H, ?_⟩
  unfold L2.start startT
  rw [List.length_cons, h.length]
  exact .cons rfl (start_e h _)
theorem mkT (d : Df K mg x st) (b : BindOk x st ps) (S : FnScope N ps (defScope st)) (hn : ps.length = n)
    (h : ∀ (f : Addr) (cdv : Value) (A : Around) (outer : List Env) (s : Shared) (H : Hp) (E : XK), Room k (A.deeper (envOfC x (defScope st) s.heap.objs.size f cdv)) →
      ∃ ts, PSs (cxOf CX0 P w K mg base N x (defScope st) f cdv A outer s H E).nox (defBody st) ts ∧ ∀ t c ns ds, ds.length + 1 = n → Pre ds → Bs (TW t c ns) ts (startT t N ds) (fun _ => False) (Post ds) (fun _ => False)) : Cal P w K mg base (k + 1) x (spT n Pre Post) :=
  mkR d b S (fun _ _ _ _ q => by rw [q.1, hn]) fun f cdv A outer s H E hr => by
    obtain ⟨ts, ht, hs⟩ := h f cdv A outer s H E hr
    refine ⟨ts, ht, fun vs Q q => ?_⟩
    obtain ⟨hl, t, c, ns, us, ds, rfl, i, tu, hp, q⟩ := q
    exact hs t c ns ds (by rw [← tu.length, ← hl, List.length_cons]) hp H _ H _ (startT_at i tu) (fun _ _ _ _ z => z.elim) (fun v H' d' r' t' e => q v H' d' r' t' e) (fun _ _ _ _ _ _ _ _ z => z.elim)
theorem mkTL (d : Df K mg x st) (b : BindOk x st ps) (S : FnScope N ps (defScope st)) (hn : ps.length = n)
    (h : ∀ (f : Addr) (cdv : Value) (A : Around) (outer : List Env) (s : Shared) (H : Hp) (E : XK), Room k (A.deeper (envOfC x (defScope st) s.heap.objs.size f cdv)) →
      ∃ ts, PSs (cxOf CX0 P w K mg base N x (defScope st) f cdv A outer s H E).nox (defBody st) ts ∧ ∀ t c ns ds, ds.length + 1 = n → Pre ds → Bs (TW t c ns) ts (startT t N ds) (fun _ => False) (fun _ => False) (PostL ds)) : Cal P w K mg base (k + 1) x (spTL n Pre PostL) :=
  mkR d b S (fun _ _ _ _ q => by rw [q.1, hn]) fun f cdv A outer s H E hr => by
    obtain ⟨ts, ht, hs⟩ := h f cdv A outer s H E hr
    refine ⟨ts, ht, fun vs Q q => ?_⟩
    obtain ⟨hl, t, c, ns, us, ds, rfl, i, tu, hp, q⟩ := q
    exact hs t c ns ds (by rw [← tu.length, ← hl, List.length_cons]) hp H _ H _ (startT_at i tu) (fun _ _ _ _ z => z.elim) (fun _ _ _ _ _ z => z.elim) (fun p ws rs H' r' np e t' q' => q p ws H' rs r' np e t' q')
end
/-! ### more of the logic: answers of which only a bound is known -/
section
variable {W : Wd} {K : PySem.W.Frag} {ρ : List Sl} {ta tb te : TE} {P P1 P2 : PD} {tA : TA}
/-- whole numbers of which something is known -/
abbrev IntP (p : Int → Prop) : PD := fun d => ∃ r, d = .int r ∧ p r
theorem ed_II {g : Int → Int → Int} {p q : Int → Prop} (ha : Ed W ta ρ (IntP p)) (hb : Ed W tb ρ (IntP q)) (hr : ∀ i j, p i → q j → P (.int (g i j))) : Ed W (tOp (rI0 fun i j => .int (g i j)) ta tb) ρ P :=
  ed_op ha hb fun x y H d e Q I t1 t2 p1 p2 k => by
    obtain ⟨i, rfl, p1⟩ := p1
    obtain ⟨j, rfl, p2⟩ := p2
    exact ⟨i, j, t1.int_of, t2.int_of, k _ H _ (Wd.refl W H) (.int _) (hr i j p1 p2)⟩
theorem ed_IC {C : Int → Int → Prop} {g : Int → Int → Int} {p q : Int → Prop} (ha : Ed W ta ρ (IntP p)) (hb : Ed W tb ρ (IntP q)) (hc : ∀ i j, p i → q j → C i j) (hr : ∀ i j, p i → q j → P (.int (g i j))) : Ed W (tOp (rI C fun i j => .int (g i j)) ta tb) ρ P :=
  ed_op ha hb fun x y H d e Q I t1 t2 p1 p2 k => by
    obtain ⟨i, rfl, p1⟩ := p1
    obtain ⟨j, rfl, p2⟩ := p2
    exact ⟨i, j, t1.int_of, t2.int_of, hc i j p1 p2, k _ H _ (Wd.refl W H) (.int _) (hr i j p1 p2)⟩
theorem ed_IB {g : Int → Int → Bool} {p q : Int → Prop} (ha : Ed W ta ρ (IntP p)) (hb : Ed W tb ρ (IntP q)) (hr : ∀ i j, p i → q j → P (.bool (g i j))) : Ed W (tOp (rI0 fun i j => .bl (g i j)) ta tb) ρ P :=
  ed_op ha hb fun x y H d e Q I t1 t2 p1 p2 k => by
    obtain ⟨i, rfl, p1⟩ := p1
    obtain ⟨j, rfl, p2⟩ := p2
    exact ⟨i, j, t1.int_of, t2.int_of, k _ H _ (Wd.refl W H) (.bl _) (hr i j p1 p2)⟩
theorem ed_int {i : Int} {p : Int → Prop} (h : p i) : Ed W (tC (.int i)) ρ (IntP p) := Ed.of ee_int ⟨i, rfl, h⟩
theorem ed_nat {te : TE} {i : Int} {p : Int → Prop} (h : Ee W te ρ (.int i)) (hp : p i) : Ed W te ρ (IntP p) := Ed.of h ⟨i, rfl, hp⟩
/-- range of a number of which a bound is known -/
theorem el_rng {p : Int → Prop} {g : TG} {vs js : List Nat} {R : PD} {PO : PL} (h : Ea W tA ρ (fun ds => ∃ n, ds = [.int n] ∧ p n)) (hn : ∀ n, p n → 0 ≤ n ∧ n ≤ 50000) (hj : ∀ j ∈ js, j ∈ vs)
    (hb : ∀ (n : Int) (i : Nat), p n → (i : Int) < n → ∃ ρ', Gd W g js (wipeS ρ vs) (.int (i : Int)) ρ' ∧ Ed W te ρ' R) (hP : ∀ rs : List PyData, p rs.length → (∀ y ∈ rs, R y) → PO rs) : El W (tLc (iRng1 tA) g tYes te vs) ρ PO := fun B σ H Q A k =>
  h B σ H _ A fun us H1 ds r1 t1 ⟨n, e, pn⟩ => by
    subst e
    obtain ⟨h0, h1⟩ := hn n pn
    have E := el_lcY (W := W) (ρ := ρ) (te := te) (vs := vs) (js := js) (g := g) (P := PO) (src_R (W := W) (ρ := ρ) (ta := tCons (tC (.int n)) tNil) (n := n) (ea_cons ee_int ea_nil) (by omega) (by omega)) (by omega) (fun _ y => R y) hj (fun i hi => hb n i pn (by omega)) fun rs pr => by
      refine hP rs ?_ (paired_all pr)
      have hl := pr_len pr
      rw [seqOf_len] at hl
      rw [← hl, Int.toNat_of_nonneg h0]
      exact pn
    obtain ⟨j, ej, b1, b2, body⟩ := E B σ H1 Q (A.mono r1) fun q ws rs H' r nq eq tq pq => k q ws rs H' (Wd.trans r1 r) (Wd.back A.i r1 nq) eq tq pq
    cases t1 with
    | cons a r =>
      cases r
      rw [a.int_of]
      exact ⟨j, ej, b1, b2, body⟩
/-- int(truth) -/
theorem ed_intB {p : PD} (h : Ed W te ρ (fun d => ∃ b, d = .bool b)) (h0 : p (.int 0)) (h1 : p (.int 1)) : Ed W (tCB (fun xs H Q => (∃ i, xs = [.int i] ∧ Q (.int i) H) ∨ ∃ k, xs = [.bl k] ∧ Q (.int (if k then 1 else 0)) H) (tCons te tNil)) ρ p := fun B σ H Q A k => h B σ H _ A fun v H1 d r1 t1 p1 => by
  obtain ⟨b, rfl⟩ := p1
  refine .inr ⟨b, by rw [t1.bl_of], ?_⟩
  cases b with
  | true => exact k _ H1 _ r1 (.int 1) h1
  | false => exact k _ H1 _ r1 (.int 0) h0
/-- min of two -/
theorem ee_min2 {i j : Int} (ha : Ee W ta ρ (.int i)) (hb : Ee W tb ρ (.int j)) : Ee W (tCB (fun xs H Q => ∃ i j, xs = [.int i, .int j] ∧ Q (.int (if j < i then j else i)) H) (tCons ta (tCons tb tNil))) ρ (.int (if j < i then j else i)) := fun B σ H Q A k =>
  ha B σ H _ A fun v H1 d r1 t1 p1 => hb B σ H1 _ (A.mono r1) fun u H2 e r2 t2 p2 => by
    subst p1
    subst p2
    exact ⟨i, j, by rw [t1.int_of, t2.int_of], k _ H2 _ (Wd.trans r1 r2) (.int _) rfl⟩
theorem Et.mp {tt : TT} {R R' : Bool → Prop} (h : Et W tt ρ R) (hp : ∀ b, R b → R' b) : Et W tt ρ R' := fun B σ H Q A k => h B σ H Q A fun b H' r q => k b H' r (hp b q)
end
end Gw
set_option Elab.async false
set_option linter.all false
set_option maxRecDepth 100000
set_option maxHeartbeats 4000000
namespace Gw
open PySem PySem.Spec PyProof.Rows L2
/- one step of the evaluation; walk_at "ev": to its end -/
local macro_rules | `(tactic| walk_at "ev1") => `(tactic| first
  | exact ee_int | exact ee_bl | exact ee_str | exact ee_non | exact ee_var rfl | exact eo_none | exact ea_nil
  | refine' ea_cons ?_ ?_ | refine' ee_II ?_ ?_ | refine' ee_IB ?_ ?_ | refine' ee_UI ?_ | refine' ee_IC ?_ ?_ ?_
  | refine' et_test ?_ | refine' et_B ?_ | refine' et_not ?_ | refine' et_and ?_ (fun _ => ?_) | refine' et_or ?_ (fun _ => ?_)
  | refine' ee_andV ?_ (fun _ => ?_) | refine' ee_orV ?_ (fun _ => ?_) | refine' ee_notV ?_
  | refine' ee_isN ?_ | refine' ee_notN ?_ | refine' ee_eqD ?_ ?_ ?_ | refine' ee_neD ?_ ?_ ?_
  | refine' ee_ixT ?_ ?_ ?_ | refine' ee_lenT ?_ | refine' ee_isi ?_ ?_ | refine' ee_tup ?_ ?_ | refine' eo_some ?_ | refine' ee_slT ?_ ?_ ?_
  | exact ki_ii | exact ki_ib | exact ki_tt | exact ki_ss | (show atI _ _ = some _; first | rfl | assumption) | (show scalD _ _ = true; rfl) | exact Nat.le_of_ble_eq_true rfl)
local macro_rules | `(tactic| walk_at "ev") => `(tactic| repeat' walk_at "ev1")
abbrev P_draw (ds : List PyData) : Prop := ∃ m : Int, ds = [.int m] ∧ 0 < m ∧ m < 1000000000
abbrev R_draw (ds : List PyData) (d : PyData) : Prop := ∃ m r : Int, ds = [.int m] ∧ d = .int r ∧ 0 ≤ r ∧ r < m
/-- an item of the tape -/
theorem ee_tape {C0 : Hp} {K : PySem.W.Frag} {ρ : List Sl} {t : Addr} {vs : List V} {i : Nat} {k : Int} {v : V} {d : PyData} (h : ρ[i]? = some (.v (.ref t))) (e : C0 t = some (.lst vs)) (a : atI vs k = some v) (td : Tp C0 v d) : Ee (WC C0) (tOp (rIxL K) (tVar i) (tC (.int k))) ρ d := fun B σ H Q A kk => by
  have s : Same C0 H := A.i
  exact ⟨_, A.vv h, t, vs, k, v, rfl, rfl, SqL.of (s _ _ e), a, kk v H d (Wd.refl _ _) (td.mono fun a xs q => s _ _ q) rfl⟩
theorem eq_tape {C0 : Hp} {K : PySem.W.Frag} {ρ : List Sl} {t c : Addr} {vs ws : List V} {i : Nat} {k : Int} {ds : List PyData} (h : ρ[i]? = some (.v (.ref t))) (e : C0 t = some (.lst vs)) (a : atI vs k = some (.ref c)) (ec : C0 c = some (.lst ws)) (td : TpA C0 ws ds) : Eq_ (WC C0) (tOp (rIxL K) (tVar i) (tC (.int k))) ρ (fun x => x = ds) := fun B σ H Q A kk => by
  have s : Same C0 H := A.i
  exact ⟨_, A.vv h, t, vs, k, .ref c, rfl, rfl, SqL.of (s _ _ e), a, kk c ws ds H (Wd.refl _ _) (fun z => z) (s _ _ ec) (td.mono fun a xs q => s _ _ q) rfl⟩
theorem r_tail {te : TE} {g : TG} {D : Ends} {σ : L2.St} {H : Hp} (h : te σ H fun x H1 => g x σ H1 D.nx) : tAsg te g D σ H := h
section
variable {P : Program} {w : World} {K : PySem.W.Frag} {mg : Str → Option Value} {base : Heap} {C D : Addr}
theorem sc_law_draw : FnScope ["tape", "many", "prime", "cell", "found"] ["tape", "many"] (defScope s_law_draw) := ⟨rfl, rfl, rfl, by decide +kernel, rfl, by decide +kernel, by decide +kernel⟩
theorem c_law_draw (T : Txt K mg w C D) : Cal P w K mg base 1 "_law_draw" (spT 2 P_draw R_draw) := by
  have nd := sc_law_draw.nd
  refine mkR T.f__law_draw (fun _ _ _ _ _ _ us hl => match us, hl with | [_, _], _ => rfl) sc_law_draw (fun _ _ _ _ q => q.1) (fun f cdv A outer s H E hr => ⟨_, (pss_cons (ps_set (i := 2) nd rfl (by first | exact Or.inl rfl | exact Or.inr rfl) pe_int) (pss_cons (ps_if (pt_cmpR op_lt (pe_ix (ix_listK (K := K) rfl) (pv 0) pe_int (fun _ _ => rfl)) (pv 1) (nomark _)) (pss_cons (ps_set (i := 3) nd rfl (by first | exact Or.inl rfl | exact Or.inr rfl) pe_int) (pss_cons (ps_if (pt_cmpR op_gt (pe_callB (call_lenK (K := K) rfl) (by rfl) T.b_len (by decide +kernel) (pa_cons (pe_ix (ix_listK (K := K) rfl) (pv 0) pe_int (fun _ _ => rfl)) pa_nil)) pe_int (nomark _)) (pss_one (ps_set (i := 3) nd rfl (by first | exact Or.inl rfl | exact Or.inr rfl) (pe_ix (ix_listK (K := K) rfl) (pe_ix (ix_listK (K := K) rfl) (pv 0) pe_int (fun _ _ => rfl)) (pe_op op_mod (pe_ix (ix_listK (K := K) rfl) (pv 0) pe_int (fun _ _ => rfl)) (pe_callB (call_lenK (K := K) rfl) (by rfl) T.b_len (by decide +kernel) (pa_cons (pe_ix (ix_listK (K := K) rfl) (pv 0) pe_int (fun _ _ => rfl)) pa_nil))) (fun _ _ => rfl)))) pss_nil) (pss_cons (ps_if (PW.pt (pw_or (pt_cmpR op_ge (pe_ix (ix_listK (K := K) rfl) (pv 0) pe_int (fun _ _ => rfl)) (pe_callB (call_lenK (K := K) rfl) (by rfl) T.b_len (by decide +kernel) (pa_cons (pe_ix (ix_listK (K := K) rfl) (pv 0) pe_int (fun _ _ => rfl)) pa_nil)) (nomark _)) (pw_or1 (pt_cmpR op_lt (pv 3) (pe_op op_pow pe_int pe_int) (nomark _))))) (pss_cons (ps_set (i := 3) nd rfl (by first | exact Or.inl rfl | exact Or.inr rfl) (pe_op op_mod (pe_op op_add (pv 3) (pe_op op_mul pe_int (pe_ix (ix_listK (K := K) rfl) (pv 0) pe_int (fun _ _ => rfl)))) (pv 2))) (pss_cons (ps_set (i := 3) nd rfl (by first | exact Or.inl rfl | exact Or.inr rfl) (pe_op op_mod (pe_op op_add (pe_op op_add (pe_op op_mul (pv 3) (pv 3)) (pe_op op_mul pe_int (pv 3))) pe_int) (pv 2))) (pss_one (ps_set (i := 3) nd rfl (by first | exact Or.inl rfl | exact Or.inr rfl) (pe_op op_mod (pe_op op_add (pe_op op_mul (pv 3) (pv 3)) pe_int) (pv 2)))))) pss_nil) (pss_cons (ps_asg (pe_op op_add (pe_ix (ix_listK (K := K) rfl) (pv 0) pe_int (fun _ _ => rfl)) pe_int) (pg_sub (pv 0) pe_int set_list)) (pss_one (ps_asg (pv 3) (pg_sub (pv 0) pe_int set_list))))))) pss_nil) (pss_cons (ps_set (i := 4) nd rfl (by first | exact Or.inl rfl | exact Or.inr rfl) (pe_op op_mod (pe_ix (ix_listK (K := K) rfl) (pv 0) pe_int (fun _ _ => rfl)) (pv 1))) (pss_cons (ps_asg (pe_op op_fdiv (pe_ix (ix_listK (K := K) rfl) (pv 0) pe_int (fun _ _ => rfl)) (pv 1)) (pg_sub (pv 0) pe_int set_list)) (pss_one (ps_ret (pv 4))))))), fun vs Q q => ?_⟩)
  classical
  obtain ⟨_, t, c, ns, us, ds, rfl, ti, tu, ⟨m, rfl, hm0, hm1⟩, q⟩ := q
  obtain rfl : us = [.int m] := by
    cases tu with
    | cons a r =>
      cases r
      rw [a.int_of]
  obtain ⟨hct, ec, i0, n0, h0, et⟩ := ti
  let B : Hp := fun a => if a = t then none else H a
  have hBt : B t = none := if_pos rfl
  have sB : Same B H := fun a o e => by
    have e : (if a = t then none else H a) = some o := e
    split at e
    · cases e
    · exact e
  have ecB : B c = some (.lst (ns.map V.int)) := by
    show (if c = t then none else H c) = _
    rw [if_neg hct]
    exact ec
  have A : At W0 B H (L2.start ["tape", "many", "prime", "cell", "found"] [.ref t, .int m]) [.v (.ref t), .d (.int m), .no, .no, .no] := ⟨trivial, Wd.same sB, .cons rfl (.cons ⟨_, rfl, .int _⟩ (.cons trivial (.cons trivial (.cons trivial .nil))))⟩
  have fin : ∀ {r : Int} {H' : Hp} {i n : Int}, 0 ≤ r → r < m → 0 ≤ i → Same B H' → H' t = some (.lst [.ref c, .int i, .int n]) → Q (.int r) H' := fun {r H' i n} a1 a2 a3 a4 a5 => by
    refine q (.int r) H' (.int r) ⟨fun _ => ⟨hct, a4 _ _ ecB, i, n, a3, a5⟩, fun b o e hb => ?_⟩ (.int r) ⟨m, r, rfl, rfl, a1, a2⟩
    by_cases hbt : b = t
    · obtain ⟨xs, ex⟩ := hb hbt
      rw [hbt, et] at e
      rw [ex] at e
      cases e
    · refine a4 _ _ ?_
      show (if b = t then none else H b) = _
      rw [if_neg hbt]
      exact e
  generalize hpr : (2305843009213693951 : Int) = prime at *
  refine r_asg ?_
  have A1 : At W0 B H _ [.v (.ref t), .d (.int m), .d (.int prime), .no, .no] := A.setD (.int prime) 2
  refine r_cut (fun σ' H' => ∃ i n : Int, 0 ≤ i ∧ At W0 B H' σ' [.v (.ref t), .d (.int m), .d (.int prime), .no, .no] ∧ H' t = some (.lst [.ref c, .int i, .int n])) (fun nx kn => ?_) (fun σ2 H2 M => ?_)
  · refine r_if ((et_test (ee_IB (ee_tape (i := 0) (k := 2) rfl et rfl (.int n0)) (ee_var (i := 1) rfl))) H _ H _ (A1.here rfl) fun b H3 r3 eb => ?_)
    have A3 := A1.sm (WC.same r3)
    have et3 := (WC.same r3) _ _ et
    clear A1 A
    cases b with
    | false => exact kn _ _ ⟨i0, n0, h0, A3.le (.cons (.inr rfl) (.cons (.inr rfl) (.cons (.inr rfl) (.cons (.inl rfl) (.cons (.inl rfl) .nil))))), et3⟩
    | true =>
      rw [if_pos rfl]
      refine r_asg ?_
      have A4 : At W0 B H3 _ [.v (.ref t), .d (.int m), .d (.int prime), .d (.int 0), .no] := A3.setD (.int 0) 3
      refine r_cut (fun σ' H' => ∃ cell : Int, At W0 B H' σ' [.v (.ref t), .d (.int m), .d (.int prime), .d (.int cell), .no] ∧ H' t = some (.lst [.ref c, .int i0, .int n0])) (fun nx2 kn2 => ?_) (fun σ5 H5 M5 => ?_)
      · have tns : TpA H3 (ns.map V.int) (ns.map .int) := TpA.of_ints
        have ec3 := A4.sB _ _ ecB
        refine r_if ((et_test (ee_IB (ed_lenL (K := K) (R := fun x => x = .int ns.length) (eq_tape (i := 0) (k := 0) rfl et3 rfl ec3 tns) fun ds e => by rw [e, List.length_map]) (ee_int (i := 0)))) H3 _ H3 _ (A4.here rfl) fun b H6 r6 eb => ?_)
        have A6 := A4.sm (WC.same r6)
        have et6 := (WC.same r6) _ _ et3
        have ec6 := A6.sB _ _ ecB
        have eb : b = decide ((ns.length : Int) > 0) := eb
        by_cases hz : 0 < (ns.length : Int)
        · rw [decide_eq_true hz] at eb
          subst eb
          have g1 := Int.emod_nonneg i0 (show (ns.length : Int) ≠ 0 by omega)
          have g2 := Int.emod_lt_of_pos i0 hz
          rw [if_pos rfl]
          refine r_asgZ (Ee.go (ee_ixL (K := K) (d := .int (gI ns (i0 % (ns.length : Int)))) (eq_tape (i := 0) (k := 0) rfl et6 rfl ec6 (TpA.of_ints (ns := ns))) (ee_IC (g := fun i j => i % j) (j := (ns.length : Int)) (ee_tape (i := 0) (k := 1) rfl et6 rfl (.int i0)) (ed_lenL (K := K) (R := fun x => x = .int ns.length) (eq_tape (i := 0) (k := 0) rfl et6 rfl ec6 (TpA.of_ints (ns := ns))) fun ds e => by rw [e, List.length_map]) hz) (atI_int g1 g2)) A6 rfl fun v H7 s7 tv => ?_)
          exact kn2 _ _ ⟨_, (A6.sm s7).setD tv 3, s7 _ _ et6⟩
        · rw [decide_eq_false (by omega)] at eb
          subst eb
          rw [if_neg (by decide)]
          exact kn2 _ _ ⟨0, A6, et6⟩
      · obtain ⟨cell, A5, et5⟩ := M5
        have ec5 := A5.sB _ _ ecB
        refine r_cut (fun σ' H' => ∃ cell : Int, At W0 B H' σ' [.v (.ref t), .d (.int m), .d (.int prime), .d (.int cell), .no] ∧ H' t = some (.lst [.ref c, .int i0, .int n0])) (fun nx2 kn2 => ?_) (fun σ6 H6 M6 => ?_)
        · refine r_if ((et_or (et_test (ee_IB (ee_tape (i := 0) (k := 1) rfl et5 rfl (.int i0)) (ed_lenL (K := K) (R := fun x => x = .int ns.length) (eq_tape (i := 0) (k := 0) rfl et5 rfl ec5 (TpA.of_ints (ns := ns))) fun ds e => by rw [e, List.length_map]))) fun _ => et_test (ee_IB (ee_var (i := 3) rfl) (ee_IC (g := fun i j => i ^ j.toNat) (ee_int (i := 10)) (ee_int (i := 18)) ⟨by omega, by omega, by decide⟩))) H5 _ H5 _ (A5.here rfl) fun b H7 r7 eb => ?_)
          have A7 := A5.sm (WC.same r7)
          have et7 := (WC.same r7) _ _ et5
          clear eb
          cases b with
          | false => exact kn2 _ _ ⟨cell, A7, et7⟩
          | true =>
            rw [if_pos rfl]
            have hp0 : 0 < prime := by omega
            refine r_asg (Ee.go (ee_IC (g := fun i j => i % j) (ee_II (g := fun i j => i + j) (ee_var (i := 3) rfl) (ee_IC (g := fun i j => i * j) (ee_int (i := 1000003)) (ee_tape (i := 0) (k := 1) rfl et7 rfl (.int i0)) (.inl ⟨by omega, by omega⟩))) (ee_var (i := 2) rfl) hp0) A7 rfl fun v H8 s8 tv => ?_)
            have c0 := Int.emod_nonneg (cell + 1000003 * i0) (show prime ≠ 0 by omega)
            have c1 := Int.emod_lt_of_pos (cell + 1000003 * i0) hp0
            have A8 : At W0 B H8 _ [.v (.ref t), .d (.int m), .d (.int prime), .d (.int ((cell + 1000003 * i0) % prime)), .no] := (A7.sm s8).setD tv 3
            have et8 := s8 _ _ et7
            generalize (cell + 1000003 * i0) % prime = z at A8 c0 c1
            refine r_asg (Ee.go (ee_IC (g := fun i j => i % j) (ee_II (g := fun i j => i + j) (ee_II (g := fun i j => i + j) (ee_IC (g := fun i j => i * j) (ee_var (i := 3) rfl) (ee_var (i := 3) rfl) (.inl ⟨by omega, by omega⟩)) (ee_IC (g := fun i j => i * j) (ee_int (i := 1181783497276652981)) (ee_var (i := 3) rfl) (.inl ⟨by omega, by omega⟩))) (ee_int (i := 2049848353892358983))) (ee_var (i := 2) rfl) hp0) A8 rfl fun v H9 s9 tv => ?_)
            have d0 := Int.emod_nonneg (z * z + 1181783497276652981 * z + 2049848353892358983) (show prime ≠ 0 by omega)
            have d1 := Int.emod_lt_of_pos (z * z + 1181783497276652981 * z + 2049848353892358983) hp0
            have A9 : At W0 B H9 _ [.v (.ref t), .d (.int m), .d (.int prime), .d (.int ((z * z + 1181783497276652981 * z + 2049848353892358983) % prime)), .no] := (A8.sm s9).setD tv 3
            have et9 := s9 _ _ et8
            generalize (z * z + 1181783497276652981 * z + 2049848353892358983) % prime = y at A9 d0 d1
            refine r_asgZ (Ee.go (ee_IC (g := fun i j => i % j) (ee_II (g := fun i j => i + j) (ee_IC (g := fun i j => i * j) (ee_var (i := 3) rfl) (ee_var (i := 3) rfl) (.inl ⟨by omega, by omega⟩)) (ee_int (i := 1442695040888963407))) (ee_var (i := 2) rfl) hp0) A9 rfl fun v H10 s10 tv => ?_)
            exact kn2 _ _ ⟨_, (A9.sm s10).setD tv 3, s10 _ _ et9⟩
        · obtain ⟨cell2, A6, et6⟩ := M6
          refine r_asg (Ee.go (ee_II (g := fun i j => i + j) (ee_tape (i := 0) (k := 1) rfl et6 rfl (.int i0)) (ee_int (i := 1))) A6 rfl fun v H7 s7 tv => ?_)
          have A7 := A6.sm s7
          have et7 := s7 _ _ et6
          refine ⟨_, A7.vv (i := 0) rfl, t, _, 1, 1, rfl, rfl, et7, rfl, ?_⟩
          rw [tv.int_of]
          have A8 := A7.upd rfl (o := .lst [.ref c, .int (i0 + 1), .int n0]) hBt et7 (fun xs => by simp)
          have et8 : upd H7 t (.lst [.ref c, .int (i0 + 1), .int n0]) t = some (.lst [.ref c, .int (i0 + 1), .int n0]) := upd_same
          show tAsg _ _ _ _ (upd H7 t (.lst [.ref c, .int (i0 + 1), .int n0]))
          generalize upd H7 t (.lst [.ref c, .int (i0 + 1), .int n0]) = H8 at A8 et8
          obtain ⟨v3, e3, t3⟩ := A8.var (i := 3) rfl
          refine r_asgZ ⟨v3, e3, ?_⟩
          refine ⟨_, A8.vv (i := 0) rfl, t, _, 2, 2, rfl, rfl, et8, rfl, ?_⟩
          rw [t3.int_of]
          refine kn _ _ ⟨i0 + 1, cell2, by omega, ?_, upd_same⟩
          exact (A8.upd rfl hBt et8 (fun xs => by simp)).le (.cons (.inr rfl) (.cons (.inr rfl) (.cons (.inr rfl) (.cons (.inl rfl) (.cons (.inl rfl) .nil)))))
  · obtain ⟨i, n, hi, A2, et2⟩ := M
    refine r_asg (Ee.go (ee_IC (g := fun i j => i % j) (ee_tape (i := 0) (k := 2) rfl et2 rfl (.int n)) (ee_var (i := 1) rfl) hm0) A2 rfl fun v H3 s3 tv => ?_)
    have A3 : At W0 B H3 _ [.v (.ref t), .d (.int m), .d (.int prime), .no, .d (.int (n % m))] := (A2.sm s3).setD tv 4
    have et3 := s3 _ _ et2
    refine r_asg (Ee.go (ee_IC (g := fun i j => i / j) (ee_tape (i := 0) (k := 2) rfl et3 rfl (.int n)) (ee_var (i := 1) rfl) ⟨hm0, by omega⟩) A3 rfl fun v2 H4 s4 tv2 => ?_)
    have A4 := A3.sm s4
    have et4 := s4 _ _ et3
    refine ⟨_, A4.vv (i := 0) rfl, t, _, 2, 2, rfl, rfl, et4, rfl, ?_⟩
    rw [tv2.int_of]
    have A5 := A4.upd rfl (o := .lst [.ref c, .int i, .int (n / m)]) hBt et4 (fun xs => by simp)
    obtain ⟨v4, e4, t4⟩ := A5.var (i := 4) rfl
    refine r_ret ⟨v4, e4, ?_⟩
    rw [t4.int_of]
    exact fin (Int.emod_nonneg _ (by omega)) (Int.emod_lt_of_pos _ hm0) hi A5.sB upd_same
end
end Gw
set_option Elab.async false
set_option linter.all false
set_option maxRecDepth 100000
set_option maxHeartbeats 800000
namespace Gw
open PySem PySem.Spec PyProof.Rows L2
/- one step of the evaluation; walk_at "ev": to its end -/
local macro_rules | `(tactic| walk_at "ev1") => `(tactic| first
  | exact ee_int | exact ee_bl | exact ee_str | exact ee_non | exact ee_var rfl | exact eo_none | exact ea_nil
  | refine' ea_cons ?_ ?_ | refine' ee_II ?_ ?_ | refine' ee_IB ?_ ?_ | refine' ee_UI ?_ | refine' ee_IC ?_ ?_ ?_
  | refine' et_test ?_ | refine' et_B ?_ | refine' et_not ?_ | refine' et_and ?_ (fun _ => ?_) | refine' et_or ?_ (fun _ => ?_)
  | refine' ee_andV ?_ (fun _ => ?_) | refine' ee_orV ?_ (fun _ => ?_) | refine' ee_notV ?_
  | refine' ee_isN ?_ | refine' ee_notN ?_ | refine' ee_eqD ?_ ?_ ?_ | refine' ee_neD ?_ ?_ ?_
  | refine' ee_ixT ?_ ?_ ?_ | refine' ee_lenT ?_ | refine' ee_isi ?_ ?_ | refine' ee_tup ?_ ?_ | refine' eo_some ?_ | refine' ee_slT ?_ ?_ ?_
  | exact ki_ii | exact ki_ib | exact ki_tt | exact ki_ss | (show atI _ _ = some _; first | rfl | assumption) | (show scalD _ _ = true; rfl) | exact Nat.le_of_ble_eq_true rfl)
local macro_rules | `(tactic| walk_at "ev") => `(tactic| repeat' walk_at "ev1")
local macro_rules | `(tactic| walk_at "ev1") => `(tactic| refine' ee_min2 ?_ ?_)
section
variable {W : Wd} {K : PySem.W.Frag} {ρ ρ' : List Sl} {ta : TA} {tb te tu : TE} {tt : TT} {t tz u : TS} {N : List Sl → Prop} {P P1 P2 : PD} {L : PL}
theorem bs_cut (M : List Sl → Prop) (h1 : Bs W t ρ M P L) (h2 : ∀ ρ', M ρ' → Bs W tz ρ' N P L) : Bs W (tSeq t tz) ρ N P L := fun B σ H D A kn kr kl =>
  h1 B σ H { D with nx := tz D } A (fun σ' H' ρ' A' m => h2 ρ' m B σ' H' D A' kn kr kl) kr kl
theorem bs_ifPZ {R : Bool → Prop} (h : Et W tt ρ R) (k1 : R true → Bs W t ρ N P L) (k2 : R false → Bs W u ρ N P L) : Bs W (tIfS tt t u) ρ N P L := fun B σ H D A kn kr kl => h B σ H _ A fun c H1 r1 e => by
  cases c with
  | true =>
    show t D σ H1
    exact k1 e B σ H1 D (A.mono r1) kn kr kl
  | false =>
    show u D σ H1
    exact k2 e B σ H1 D (A.mono r1) kn kr kl
theorem bs_asgPZ {i : Nat} (h : Ed W te ρ P1) (k : ∀ d, P1 d → N (ρ.set i (.d d))) : Bs W (tAsg te (gName i)) ρ N P L := fun B σ H D A kn kr kl =>
  h B σ H _ A fun v H1 d r1 t1 p1 => kn _ H1 _ ((A.mono r1).setD t1 i) (k d p1)
theorem et_andP {t u : TT} {a : Bool} {R : Bool → Prop} (h1 : Eb W t ρ a) (h2 : a = true → Et W u ρ R) : Et W (tAnd t u) ρ (fun b => b = true → a = true ∧ R true) := fun B σ H Q A k => h1 B σ H _ A fun x H1 r1 p1 => by
  subst p1
  cases x with
  | true =>
    show u σ H1 Q
    exact h2 rfl B σ H1 Q (A.mono r1) fun y H2 r2 p2 => k y H2 (Wd.trans r1 r2) fun e => ⟨rfl, by rw [← e]; exact p2⟩
  | false =>
    show Q false H1
    exact k false H1 r1 fun z => by cases z
abbrev ListN (n : Nat) (p : PD) : PL := fun ds => ds.length = n ∧ ∀ d ∈ ds, p d
theorem ln_nil {p : PD} : Ea W tNil ρ (ListN 0 p) := fun B σ H Q A k => k [] H [] (Wd.refl W H) .nil ⟨rfl, fun d h => by cases h⟩
theorem ln_cons {p : PD} {n : Nat} (h : Ed W te ρ p) (hr : Ea W ta ρ (ListN n p)) : Ea W (tCons te ta) ρ (ListN (n + 1) p) := ea_consP h hr fun d ds h1 h2 => ⟨by rw [List.length_cons, h2.1], fun x hx => by
  rcases List.mem_cons.mp hx with e | e
  · rw [e]
    exact h1
  · exact h2.2 x e⟩
theorem pick_at {p : PD} {n : Nat} {ds : List PyData} (h : ListN n p ds) {i : Int} (h0 : 0 ≤ i) (h1 : i < n) : ∃ d, atI ds i = some d ∧ p d := by
  have hl : i.toNat < ds.length := by rw [h.1]; omega
  refine ⟨ds[i.toNat], ?_, h.2 _ (List.getElem_mem hl)⟩
  rw [atI_at h0 (by rw [h.1]; exact h1), List.getElem?_eq_getElem hl]
theorem ed_pick {p : PD} {n : Nat} (ha : Ea W ta ρ (ListN n p)) (hn : n ≤ 100) (hb : Ed W tb ρ (IntP fun i => 0 ≤ i ∧ i < n)) : Ed W (tOp (rIxL K) (tLst ta) tb) ρ p :=
  ed_ixL (el_lst (P := ListN n p) ha fun ds h => ⟨by rw [h.1]; omega, h⟩).q hb fun ds e h ⟨i, he, h0, h1⟩ => by
    obtain ⟨d, e1, e2⟩ := pick_at h h0 h1
    exact ⟨i, d, he, e1, e2⟩
abbrev ConsP (P1 : PD) (P2 : PL) : PL := fun ds => ∃ d r, ds = d :: r ∧ P1 d ∧ P2 r
theorem ea_cp {P2 : PL} (h : Ed W te ρ P1) (hr : Ea W ta ρ P2) : Ea W (tCons te ta) ρ (ConsP P1 P2) := ea_consP h hr fun d ds h1 h2 => ⟨d, ds, rfl, h1, h2⟩
end
abbrev P_size (ds : List PyData) : Prop := ∃ m : Int, ds = [.int m] ∧ 1 ≤ m ∧ m ≤ 100
abbrev R_size (ds : List PyData) (d : PyData) : Prop := ∃ m r : Int, ds = [.int m] ∧ d = .int r ∧ 1 ≤ r ∧ r ≤ m
abbrev R_frame (ds : List PyData) (d : PyData) : Prop := ∃ (m : Int) (f : Frame), ds = [.int m] ∧ d = f.d ∧ 1 ≤ f.wide ∧ f.wide ≤ m ∧ 1 ≤ f.high ∧ f.high ≤ m ∧ 0 ≤ f.gap ∧ f.gap ≤ 20 ∧ 0 ≤ f.most ∧ f.most ≤ 12
abbrev P_inks (ds : List PyData) : Prop := ∃ a b : Int, ds = [.int a, .int b] ∧ 1 ≤ a ∧ a ≤ 100 ∧ 1 ≤ b ∧ b ≤ 100
abbrev R_inks (ds : List PyData) (d : PyData) : Prop := ∃ (a b : Int) (l : List Int), ds = [.int a, .int b] ∧ d = inksD l ∧ (l.length : Int) = a ∧ ∀ i ∈ l, InkOk i
abbrev R_inked (ds : List PyData) (d : PyData) : Prop := ∃ (m : Int) (r : List (List Int)), ds = [.int m] ∧ d = rowsD r ∧ RowsOk m.toNat r
abbrev P_far (ds : List PyData) : Prop := ∃ m : Int, ds = [.int m] ∧ 0 ≤ m ∧ m ≤ 900
abbrev R_far (ds : List PyData) (d : PyData) : Prop := ∃ r : Int, d = .int r ∧ Far r
abbrev P_mover (ds : List PyData) : Prop := ∃ (f : Frame) (n : Nat), ds = [f.d, .int n] ∧ f.Ok ∧ n ≤ 100
abbrev R_mover (ds : List PyData) (d : PyData) : Prop := ∃ (f : Frame) (n : Nat) (m : Mover), ds = [f.d, .int n] ∧ d = m.d ∧ MoverOk n m
abbrev P_stand (ds : List PyData) : Prop := ∃ (f : Frame) (n : Int), ds = [f.d, .int n] ∧ f.Ok ∧ 0 ≤ n ∧ n ≤ 12
abbrev R_stand (ds : List PyData) (d : PyData) : Prop := ∃ s : Stand, d = s.d ∧ s.Ok
section
variable {t c : Addr} {ns : List Int} {ρ : List Sl} {ta : TA} {E : XK} {i : Nat}
theorem e_draw {m : Int} (h0 : ρ[i]? = some (.v (.ref t))) (h : EA (TW t c ns) ta ρ [.int m]) (h1 : 0 < m) (h2 : m < 1000000000) : Ed (TW t c ns) (tCall (spT 2 P_draw R_draw) [] E (tCons (tVar i) ta)) ρ (IntP fun r => 0 ≤ r ∧ r < m) :=
  ed_tc h0 h (fun ds e => by subst e; exact ⟨rfl, m, rfl, h1, h2⟩) fun ds d e ⟨m', r, e1, e2, e3, e4⟩ => by
    subst e
    cases e1
    exact ⟨r, e2, e3, e4⟩
theorem e_size {m : Int} (h0 : ρ[i]? = some (.v (.ref t))) (h : EA (TW t c ns) ta ρ [.int m]) (h1 : 1 ≤ m) (h2 : m ≤ 100) : Ed (TW t c ns) (tCall (spT 2 P_size R_size) [] E (tCons (tVar i) ta)) ρ (IntP fun r => 1 ≤ r ∧ r ≤ m) :=
  ed_tc h0 h (fun ds e => by subst e; exact ⟨rfl, m, rfl, h1, h2⟩) fun ds d e ⟨m', r, e1, e2, e3, e4⟩ => by
    subst e
    cases e1
    exact ⟨r, e2, e3, e4⟩
theorem e_inks {a b : Int} (h0 : ρ[i]? = some (.v (.ref t))) (h : EA (TW t c ns) ta ρ [.int a, .int b]) (h1 : 1 ≤ a ∧ a ≤ 100 ∧ 1 ≤ b ∧ b ≤ 100) : Ed (TW t c ns) (tCall (spT 3 P_inks R_inks) [] E (tCons (tVar i) ta)) ρ (fun d => ∃ l : List Int, d = inksD l ∧ (l.length : Int) = a ∧ ∀ i ∈ l, InkOk i) :=
  ed_tc h0 h (fun ds e => by subst e; exact ⟨rfl, a, b, rfl, h1⟩) fun ds d e ⟨a', b', l, e1, e2, e3, e4⟩ => by
    subst e
    cases e1
    exact ⟨l, e2, e3, e4⟩
theorem e_inked {m : Int} (h0 : ρ[i]? = some (.v (.ref t))) (h : EA (TW t c ns) ta ρ [.int m]) (h1 : 1 ≤ m) (h2 : m ≤ 100) : Ed (TW t c ns) (tCall (spT 2 P_size R_inked) [] E (tCons (tVar i) ta)) ρ (fun d => ∃ r : List (List Int), d = rowsD r ∧ RowsOk m.toNat r) :=
  ed_tc h0 h (fun ds e => by subst e; exact ⟨rfl, m, rfl, h1, h2⟩) fun ds d e ⟨m', r, e1, e2, e3⟩ => by
    subst e
    cases e1
    exact ⟨r, e2, e3⟩
theorem e_far {m : Int} (h0 : ρ[i]? = some (.v (.ref t))) (h : EA (TW t c ns) ta ρ [.int m]) (h1 : 0 ≤ m) (h2 : m ≤ 900) : Ed (TW t c ns) (tCall (spT 2 P_far R_far) [] E (tCons (tVar i) ta)) ρ (IntP Far) :=
  ed_tc h0 h (fun ds e => by subst e; exact ⟨rfl, m, rfl, h1, h2⟩) fun ds d e h => h
theorem e_mover {f : Frame} {n : Nat} (h0 : ρ[i]? = some (.v (.ref t))) (h : EA (TW t c ns) ta ρ [f.d, .int n]) (h1 : f.Ok) (h2 : n ≤ 100) : Ed (TW t c ns) (tCall (spT 3 P_mover R_mover) [] E (tCons (tVar i) ta)) ρ (fun d => ∃ m : Mover, d = m.d ∧ MoverOk n m) :=
  ed_tc h0 h (fun ds e => by subst e; exact ⟨rfl, f, n, rfl, h1, h2⟩) fun ds d e ⟨f', n', m, e1, e2, e3⟩ => by
    subst e
    have e4 : n = n' := by
      injection e1 with _ e1
      injection e1 with e1 _
      injection e1 with e1
      exact Int.ofNat.inj e1
    rw [e4]
    exact ⟨m, e2, e3⟩
end
theorem ints_of : ∀ {rs : List PyData} {p : Int → Prop}, (∀ y ∈ rs, IntP p y) → ∃ l : List Int, rs = l.map .int ∧ ∀ i ∈ l, p i
  | [], p, _ => ⟨[], rfl, fun i h => by cases h⟩
  | y :: rs, p, h => by
    obtain ⟨i, e, hi⟩ := h y List.mem_cons_self
    obtain ⟨l, el, hl⟩ := ints_of fun z hz => h z (List.mem_cons_of_mem _ hz)
    refine ⟨i :: l, by rw [e, el]; rfl, fun j hj => ?_⟩
    rcases List.mem_cons.mp hj with q | q
    · rw [q]
      exact hi
    · exact hl j q
theorem map_of {α : Type} {g : α → PyData} : ∀ {rs : List PyData} {p : α → Prop}, (∀ y ∈ rs, ∃ x, y = g x ∧ p x) → ∃ l : List α, rs = l.map g ∧ ∀ i ∈ l, p i
  | [], p, _ => ⟨[], rfl, fun i h => by cases h⟩
  | y :: rs, p, h => by
    obtain ⟨i, e, hi⟩ := h y List.mem_cons_self
    obtain ⟨l, el, hl⟩ := map_of fun z hz => h z (List.mem_cons_of_mem _ hz)
    refine ⟨i :: l, by rw [e, el]; rfl, fun j hj => ?_⟩
    rcases List.mem_cons.mp hj with q | q
    · rw [q]
      exact hi
    · exact hl j q
section
variable {P : Program} {w : World} {K : PySem.W.Frag} {mg : Str → Option Value} {base : Heap} {C D : Addr}
theorem sc_law_size : FnScope ["tape", "most"] ["tape", "most"] (defScope s_law_size) := ⟨rfl, rfl, rfl, by decide +kernel, rfl, by decide +kernel, by decide +kernel⟩
theorem c_law_size (T : Txt K mg w C D) : Cal P w K mg base 2 "_law_size" (spT 2 P_size R_size) := by
  have nd := sc_law_size.nd
  have c_law_draw := c_law_draw (P := P) (w := w) (base := base) T
  refine mkT T.f__law_size (fun _ _ _ _ _ _ us hl => match us, hl with | [_, _], _ => rfl) sc_law_size rfl (fun f cdv A outer s H E hr => ⟨_, (pss_one (ps_ret (pe_op op_add pe_int (pe_ix (ix_listK (K := K) rfl) (pe_lst (pa_cons (pe_c c_law_draw hr (by decide) (by rfl) (pa_cons (pv 0) (pa_cons (pe_callB (call_min2 (by rfl)) (by rfl) T.b_min (by decide +kernel) (pa_cons (pv 1) (pa_cons pe_int pa_nil))) pa_nil))) (pa_cons (pe_c c_law_draw hr (by decide) (by rfl) (pa_cons (pv 0) (pa_cons (pv 1) pa_nil))) (pa_cons (pe_op op_sub (pv 1) pe_int) pa_nil)))) (pe_op op_fdiv (pe_op op_mul (pe_c c_law_draw hr (by decide) (by rfl) (pa_cons (pv 0) (pa_cons pe_int pa_nil))) pe_int) pe_int) (fun _ _ => rfl))))), fun t c ns ds hn hF => ?_⟩)
  obtain ⟨m, rfl, h1, h2⟩ := hF
  refine bs_ret (ed_II (p := fun i => i = 1) (q := fun r => 0 ≤ r ∧ r < m) (ed_int rfl) (ed_pick (n := 3) (ln_cons ?_ (ln_cons ?_ (ln_cons ?_ ln_nil))) (by omega) ?_) fun i j hi hj => ⟨m, 1 + j, rfl, by rw [hi], by omega, by omega⟩)
  · refine (e_draw (m := if 6 < m then 6 else m) rfl (by walk_at "ev") ?_ ?_).mp fun d h => ?_
    · split <;> omega
    · split <;> omega
    · obtain ⟨r, e, a, b⟩ := h
      refine ⟨r, e, a, ?_⟩
      split at b <;> omega
  · exact e_draw rfl (by walk_at "ev") (by omega) (by omega)
  · exact ed_nat (i := m - 1) (by walk_at "ev") ⟨by omega, by omega⟩
  · refine ed_IC (p := fun i => 0 ≤ i ∧ i ≤ 21) (q := fun j => j = 10) (ed_IC (p := fun i => 0 ≤ i ∧ i < 8) (q := fun j => j = 3) (e_draw rfl (by walk_at "ev") (by omega) (by omega)) (ed_int rfl) (fun i j hi hj => .inl ⟨by omega, by omega⟩) fun i j hi hj => ⟨i * j, rfl, ?_⟩) (ed_int rfl) (fun i j hi hj => ⟨by omega, by omega⟩) fun i j hi hj => ⟨i / j, rfl, ?_⟩
    · subst hj
      omega
    · subst hj
      omega
theorem sc_law_frame : FnScope ["tape", "most", "gap"] ["tape", "most"] (defScope s_law_frame) := ⟨rfl, rfl, rfl, by decide +kernel, rfl, by decide +kernel, by decide +kernel⟩
theorem c_law_frame (T : Txt K mg w C D) : Cal P w K mg base 3 "_law_frame" (spT 2 P_size R_frame) := by
  have nd := sc_law_frame.nd
  have c_law_draw := c_law_draw (P := P) (w := w) (base := base) T
  have c_law_size := c_law_size (P := P) (w := w) (base := base) T
  refine mkT T.f__law_frame (fun _ _ _ _ _ _ us hl => match us, hl with | [_, _], _ => rfl) sc_law_frame rfl (fun f cdv A outer s H E hr => ⟨_, (pss_cons (ps_set (i := 2) nd rfl (by first | exact Or.inl rfl | exact Or.inr rfl) (pe_ix (ix_listK (K := K) rfl) (pe_lst (pa_cons pe_int (pa_cons (pe_c c_law_draw hr (by decide) (by rfl) (pa_cons (pv 0) (pa_cons pe_int pa_nil))) pa_nil))) (pe_c c_law_draw hr (by decide) (by rfl) (pa_cons (pv 0) (pa_cons pe_int pa_nil))) (fun _ _ => rfl))) (pss_one (ps_ret (pe_tup (pa_cons (pe_c c_law_size hr (by decide) (by rfl) (pa_cons (pv 0) (pa_cons (pv 1) pa_nil))) (pa_cons (pe_c c_law_size hr (by decide) (by rfl) (pa_cons (pv 0) (pa_cons (pv 1) pa_nil))) (pa_cons (pv 2) (pa_cons (pe_c c_law_draw hr (by decide) (by rfl) (pa_cons (pv 0) (pa_cons pe_int pa_nil))) pa_nil)))))))), fun t c ns ds hn hF => ?_⟩)
  obtain ⟨m, rfl, h1, h2⟩ := hF
  refine bs_asg (P1 := IntP fun r => 0 ≤ r ∧ r ≤ 20) (ed_pick (n := 2) (ln_cons (ed_int ⟨by omega, by omega⟩) (ln_cons ((e_draw rfl (by walk_at "ev") (by omega) (by omega)).mp fun d h => ?_) ln_nil)) (by omega) ((e_draw rfl (by walk_at "ev") (by omega) (by omega)).mp fun d h => ?_)) fun d h => ?_
  · obtain ⟨r, e, a, b⟩ := h
    exact ⟨r, e, a, by omega⟩
  · obtain ⟨r, e, a, b⟩ := h
    exact ⟨r, e, a, by omega⟩
  obtain ⟨g, rfl, g0, g1⟩ := h
  refine bs_ret (ed_tup (ea_cp (e_size rfl (by walk_at "ev") h1 h2) (ea_cp (e_size rfl (by walk_at "ev") h1 h2) (ea_cp (ee_var rfl) (ea_cp (e_draw rfl (by walk_at "ev") (by omega) (by omega)) ea_nil)))) fun ds h => ?_)
  obtain ⟨_, _, rfl, ⟨a, rfl, a1, a2⟩, _, _, rfl, ⟨b, rfl, b1, b2⟩, _, _, rfl, rfl, _, _, rfl, ⟨e, rfl, e1, e2⟩, rfl⟩ := h
  exact ⟨by simp, m, ⟨a, b, g, e⟩, rfl, rfl, a1, a2, b1, b2, g0, g1, e1, by show e ≤ 12; omega⟩
theorem sc_law_inks : FnScope ["tape", "wide", "thin", "k"] ["tape", "wide", "thin"] (defScope s_law_inks) := ⟨rfl, rfl, rfl, by decide +kernel, rfl, by decide +kernel, by decide +kernel⟩
theorem c_law_inks (T : Txt K mg w C D) : Cal P w K mg base 2 "_law_inks" (spT 3 P_inks R_inks) := by
  have nd := sc_law_inks.nd
  have c_law_draw := c_law_draw (P := P) (w := w) (base := base) T
  refine mkT T.f__law_inks (fun _ _ _ _ _ _ us hl => match us, hl with | [_, _, _], _ => rfl) sc_law_inks rfl (fun f cdv A outer s H E hr => ⟨_, (pss_one (ps_ret (pe_tupleK (K := K) rfl (by rfl) T.b_tuple (pe_lc (own := [("k", 3)]) (by rfl) nd (pi_range1 (by rfl) T.b_range (pa_cons (pv 1) pa_nil)) (blkOk_by (N := ["tape", "wide", "thin", "k"]) (sc := defScope s_law_inks) (by decide +kernel)) (fun _ _ _ _ _ => (pg_name (i := 3) nd rfl (by first | exact Or.inl rfl | exact Or.inr rfl))) (fun _ _ _ _ _ => pts_nil) (fun _ _ _ _ _ => (pe_op op_mul (pe_c c_law_draw hr (by decide) (by rfl) (pa_cons (pv 0) (pa_cons pe_int pa_nil))) (pe_callTy call_int1 (by rfl) T.b_int (by decide +kernel) (pa_cons (pe_cmpR op_gt (pe_c c_law_draw hr (by decide) (by rfl) (pa_cons (pv 0) (pa_cons (pv 2) pa_nil))) pe_int (nomark _)) pa_nil)))))))), fun t c ns ds hn hF => ?_⟩)
  obtain ⟨a, b, rfl, h1, h2, h3, h4⟩ := hF
  refine bs_ret (ed_tupleL (El.q (el_rng (js := [3]) (p := fun n => n = a) (R := IntP InkOk) (PO := fun rs => ∃ l : List Int, rs = l.map .int ∧ (l.length : Int) = a ∧ ∀ i ∈ l, InkOk i) (Ea.mp (P1 := fun x => x = [.int a]) (by walk_at "ev") fun ds e => ⟨a, e, rfl⟩) (fun n e => by omega) (by simp) (fun n i e hi => ⟨_, gd_name, ?_⟩) fun rs hl hr => ?_)) fun ds h => ?_)
  · refine ed_IC (p := fun i => 0 ≤ i ∧ i < 16) (q := fun j => j = 0 ∨ j = 1) (e_draw rfl (by walk_at "ev") (by omega) (by omega)) (ed_intB (ed_IB (p := fun _ => True) (q := fun _ => True) ((e_draw (m := b) rfl (by walk_at "ev") (by omega) (by omega)).mp fun d h => h.imp fun r h => ⟨h.1, trivial⟩) (ed_int trivial) fun i j _ _ => ⟨_, rfl⟩) ⟨0, rfl, .inl rfl⟩ ⟨1, rfl, .inr rfl⟩) (fun i j hi hj => .inl ⟨by omega, by omega⟩) fun i j hi hj => ⟨i * j, rfl, ?_⟩
    unfold InkOk
    rcases hj with rfl | rfl <;> omega
  · obtain ⟨l, e, hl2⟩ := ints_of hr
    refine ⟨l, e, ?_, hl2⟩
    rw [e, List.length_map] at hl
    exact hl
  · obtain ⟨l, e, hl, hi⟩ := h
    exact ⟨a, b, l, rfl, by rw [e]; rfl, hl, hi⟩
theorem sc_law_inked : FnScope ["tape", "most", "wide", "thin", "k"] ["tape", "most"] (defScope s_law_inked) := ⟨rfl, rfl, rfl, by decide +kernel, rfl, by decide +kernel, by decide +kernel⟩
theorem c_law_inked (T : Txt K mg w C D) : Cal P w K mg base 3 "_law_inked" (spT 2 P_size R_inked) := by
  have nd := sc_law_inked.nd
  have c_law_draw := c_law_draw (P := P) (w := w) (base := base) T
  have c_law_inks := c_law_inks (P := P) (w := w) (base := base) T
  have c_law_size := c_law_size (P := P) (w := w) (base := base) T
  refine mkT T.f__law_inked (fun _ _ _ _ _ _ us hl => match us, hl with | [_, _], _ => rfl) sc_law_inked rfl (fun f cdv A outer s H E hr => ⟨_, (pss_cons (ps_set (i := 2) nd rfl (by first | exact Or.inl rfl | exact Or.inr rfl) (pe_c c_law_size hr (by decide) (by rfl) (pa_cons (pv 0) (pa_cons (pv 1) pa_nil)))) (pss_cons (ps_set (i := 3) nd rfl (by first | exact Or.inl rfl | exact Or.inr rfl) (pe_op op_add pe_int (pe_c c_law_draw hr (by decide) (by rfl) (pa_cons (pv 0) (pa_cons pe_int pa_nil))))) (pss_one (ps_ret (pe_tupleK (K := K) rfl (by rfl) T.b_tuple (pe_lc (own := [("k", 4)]) (by rfl) nd (pi_range1 (by rfl) T.b_range (pa_cons (pe_c c_law_size hr (by decide) (by rfl) (pa_cons (pv 0) (pa_cons (pv 1) pa_nil))) pa_nil)) (blkOk_by (N := ["tape", "most", "wide", "thin", "k"]) (sc := defScope s_law_inked) (by decide +kernel)) (fun _ _ _ _ _ => (pg_name (i := 4) nd rfl (by first | exact Or.inl rfl | exact Or.inr rfl))) (fun _ _ _ _ _ => pts_nil) (fun _ _ _ _ _ => (pe_c c_law_inks hr (by decide) (by rfl) (pa_cons (pv 0) (pa_cons (pv 2) (pa_cons (pv 3) pa_nil))))))))))), fun t c ns ds hn hF => ?_⟩)
  obtain ⟨m, rfl, h1, h2⟩ := hF
  refine bs_asg (e_size rfl (by walk_at "ev") h1 h2) fun d h => ?_
  obtain ⟨a, rfl, a1, a2⟩ := h
  refine bs_asg (P1 := IntP fun r => 1 ≤ r ∧ r ≤ 4) (ed_II (p := fun i => i = 1) (ed_int rfl) (e_draw rfl (by walk_at "ev") (by omega) (by omega)) fun i j hi hj => ⟨i + j, rfl, by omega, by omega⟩) fun d h => ?_
  obtain ⟨b, rfl, b1, b2⟩ := h
  refine bs_ret (ed_tupleL (El.q (el_rng (js := [4]) (p := fun n => 1 ≤ n ∧ n ≤ m) (R := fun y => ∃ l : List Int, y = inksD l ∧ ((l.length : Int) = a ∧ ∀ i ∈ l, InkOk i)) (PO := fun rs => ∃ r : List (List Int), rs = r.map inksD ∧ RowsOk m.toNat r) (ea_consP (P := fun ds => ∃ n, ds = [.int n] ∧ 1 ≤ n ∧ n ≤ m) (e_size rfl (by walk_at "ev") h1 h2) ea_nil fun d ds ⟨r, e, q⟩ e2 => ⟨r, by rw [e, e2], q⟩) (fun n e => by omega) (by simp) (fun n i e hi => ⟨_, gd_name, e_inks rfl (by walk_at "ev") ⟨a1, by omega, b1, by omega⟩⟩) fun rs hl hr => ?_)) fun ds h => ?_)
  · obtain ⟨r, e, hr2⟩ := map_of hr
    rw [e, List.length_map] at hl
    refine ⟨r, e, by omega, by omega, a.toNat, by omega, by omega, fun row hrow => ⟨?_, (hr2 row hrow).2⟩⟩
    have := (hr2 row hrow).1
    omega
  · obtain ⟨r, e, hr⟩ := h
    exact ⟨m, r, rfl, by rw [e]; rfl, hr⟩
theorem sc_law_far : FnScope ["tape", "size"] ["tape", "size"] (defScope s_law_far) := ⟨rfl, rfl, rfl, by decide +kernel, rfl, by decide +kernel, by decide +kernel⟩
theorem c_law_far (T : Txt K mg w C D) : Cal P w K mg base 2 "_law_far" (spT 2 P_far R_far) := by
  have nd := sc_law_far.nd
  have c_law_draw := c_law_draw (P := P) (w := w) (base := base) T
  refine mkT T.f__law_far (fun _ _ _ _ _ _ us hl => match us, hl with | [_, _], _ => rfl) sc_law_far rfl (fun f cdv A outer s H E hr => ⟨_, (pss_one (ps_ret (pe_ix (ix_listK (K := K) rfl) (pe_lst (pa_cons (pe_op op_sub (pe_c c_law_draw hr (by decide) (by rfl) (pa_cons (pv 0) (pa_cons (pe_op op_add (pv 1) pe_int) pa_nil))) pe_int) (pa_cons (pe_op op_sub (pe_c c_law_draw hr (by decide) (by rfl) (pa_cons (pv 0) (pa_cons pe_int pa_nil))) pe_int) pa_nil))) (pe_op op_fdiv (pe_c c_law_draw hr (by decide) (by rfl) (pa_cons (pv 0) (pa_cons pe_int pa_nil))) pe_int) (fun _ _ => rfl)))), fun t c ns ds hn hF => ?_⟩)
  obtain ⟨m, rfl, h1, h2⟩ := hF
  refine bs_ret (ed_pick (n := 2) (ln_cons ?_ (ln_cons ?_ ln_nil)) (by omega) ?_)
  · exact ed_II (p := fun i => 0 ≤ i ∧ i < m + 16) (q := fun j => j = 8) (e_draw rfl (by walk_at "ev") (by omega) (by omega)) (ed_int rfl) fun i j hi hj => ⟨i - j, rfl, by unfold Far; omega⟩
  · exact ed_II (p := fun i => 0 ≤ i ∧ i < 2001) (q := fun j => j = 1000) (e_draw rfl (by walk_at "ev") (by omega) (by omega)) (ed_int rfl) fun i j hi hj => ⟨i - j, rfl, by unfold Far; omega⟩
  · refine ed_IC (p := fun i => 0 ≤ i ∧ i < 8) (q := fun j => j = 7) (e_draw rfl (by walk_at "ev") (by omega) (by omega)) (ed_int rfl) (fun i j hi hj => ⟨by omega, by omega⟩) fun i j hi hj => ⟨i / j, rfl, ?_⟩
    subst hj
    omega
theorem sc_law_mover : FnScope ["tape", "frame", "shapes", "shape"] ["tape", "frame", "shapes"] (defScope s_law_mover) := ⟨rfl, rfl, rfl, by decide +kernel, rfl, by decide +kernel, by decide +kernel⟩
theorem c_law_mover (T : Txt K mg w C D) : Cal P w K mg base 3 "_law_mover" (spT 3 P_mover R_mover) := by
  have nd := sc_law_mover.nd
  have c_law_draw := c_law_draw (P := P) (w := w) (base := base) T
  have c_law_far := c_law_far (P := P) (w := w) (base := base) T
  refine mkT T.f__law_mover (fun _ _ _ _ _ _ us hl => match us, hl with | [_, _, _], _ => rfl) sc_law_mover rfl (fun f cdv A outer s H E hr => ⟨_, (pss_cons (ps_set (i := 3) nd rfl (by first | exact Or.inl rfl | exact Or.inr rfl) pe_non) (pss_cons (ps_if (PW.pt (pw_and (pt_cmpR op_gt (pv 2) pe_int (nomark _)) (pw_and1 (pt_cmpR op_gt (pe_c c_law_draw hr (by decide) (by rfl) (pa_cons (pv 0) (pa_cons pe_int pa_nil))) pe_int (nomark _))))) (pss_one (ps_set (i := 3) nd rfl (by first | exact Or.inl rfl | exact Or.inr rfl) (pe_c c_law_draw hr (by decide) (by rfl) (pa_cons (pv 0) (pa_cons (pv 2) pa_nil))))) pss_nil) (pss_one (ps_ret (pe_tup (pa_cons (pv 3) (pa_cons (pe_c c_law_far hr (by decide) (by rfl) (pa_cons (pv 0) (pa_cons (pe_ix (ix_tupK (K := K) rfl) (pv 1) pe_int (fun _ _ => rfl)) pa_nil))) (pa_cons (pe_c c_law_far hr (by decide) (by rfl) (pa_cons (pv 0) (pa_cons (pe_ix (ix_tupK (K := K) rfl) (pv 1) pe_int (fun _ _ => rfl)) pa_nil))) (pa_cons (pe_c c_law_draw hr (by decide) (by rfl) (pa_cons (pv 0) (pa_cons pe_int pa_nil))) (pa_cons (pe_c c_law_draw hr (by decide) (by rfl) (pa_cons (pv 0) (pa_cons pe_int pa_nil))) pa_nil)))))))))), fun t c ns ds hn hF => ?_⟩)
  obtain ⟨f', n, rfl, ok, hn2⟩ := hF
  refine bs_asgE ee_non ?_
  refine bs_cut (fun ρ' => ∃ s, ShapeOk n s ∧ ρ' = [.v (.ref t), .d f'.d, .d (.int (n : Int)), .d (shapeD s)]) ?_ fun ρ' ⟨s2, hs, e⟩ => ?_
  · by_cases h0 : 0 < n
    · refine bs_ifPZ (R := fun _ => True) (Et.mp (et_andP (a := decide ((n : Int) > 0)) (R := fun _ => True) (et_test (by walk_at "ev")) fun _ => et_testP (ed_IB (p := fun _ => True) (q := fun _ => True) (P := fun d => ∃ b, d = .bool b) ((e_draw (m := 8) rfl (by walk_at "ev") (by omega) (by omega)).mp fun d h => h.imp fun r h => ⟨h.1, trivial⟩) (ed_int trivial) fun i j _ _ => ⟨_, rfl⟩) fun d h => h.imp fun b e => ⟨e, trivial⟩) fun _ _ => trivial) (fun _ => ?_) fun _ => bs_next ⟨none, fun k z => (by cases z), rfl⟩
      refine bs_asgPZ (e_draw (m := (n : Int)) rfl (by walk_at "ev") (by omega) (by omega)) fun d h => ?_
      obtain ⟨r, rfl, r0, r1⟩ := h
      obtain ⟨k, rfl⟩ := Int.eq_ofNat_of_zero_le r0
      exact ⟨some k, fun k' z => by
        have z := Option.some.inj z
        omega, rfl⟩
    · obtain rfl : n = 0 := by omega
      exact bs_ifZ (b := false) (Et.is (et_and (b := false) (by walk_at "ev") fun z => by cases z) (by rfl)) (fun z => by cases z) fun _ => bs_next ⟨none, fun k z => (by cases z), rfl⟩
  · subst e
    have fw : 0 ≤ f'.wide ∧ f'.wide ≤ 900 ∧ 0 ≤ f'.high ∧ f'.high ≤ 900 := by
      obtain ⟨w1, w2, h1, h2, _⟩ := ok
      omega
    refine bs_ret (ed_tup (ea_cp (ee_var rfl) (ea_cp (e_far rfl (by walk_at "ev") fw.1 fw.2.1) (ea_cp (e_far rfl (by walk_at "ev") fw.2.2.1 fw.2.2.2) (ea_cp (e_draw rfl (by walk_at "ev") (by omega) (by omega)) (ea_cp (e_draw rfl (by walk_at "ev") (by omega) (by omega)) ea_nil))))) fun ds h => ?_)
    obtain ⟨_, _, rfl, rfl, _, _, rfl, ⟨x, rfl, hx⟩, _, _, rfl, ⟨y, rfl, hy⟩, _, _, rfl, ⟨r, rfl, r1, r2⟩, _, _, rfl, ⟨u, rfl, u1, u2⟩, rfl⟩ := h
    exact ⟨by simp, f', n, ⟨s2, x, y, r, u⟩, rfl, rfl, hs, hx, hy, r1, by show r ≤ 3; omega, u1, by show u ≤ 3; omega⟩
end
end Gw
set_option Elab.async false
set_option linter.all false
set_option maxRecDepth 100000
set_option maxHeartbeats 800000
namespace Gw
open PySem PySem.Spec PyProof.Rows L2
/- one step of the evaluation; walk_at "ev": to its end -/
local macro_rules | `(tactic| walk_at "ev1") => `(tactic| first
  | exact ee_int | exact ee_bl | exact ee_str | exact ee_non | exact ee_var rfl | exact eo_none | exact ea_nil
  | refine' ea_cons ?_ ?_ | refine' ee_II ?_ ?_ | refine' ee_IB ?_ ?_ | refine' ee_UI ?_ | refine' ee_IC ?_ ?_ ?_
  | refine' et_test ?_ | refine' et_B ?_ | refine' et_not ?_ | refine' et_and ?_ (fun _ => ?_) | refine' et_or ?_ (fun _ => ?_)
  | refine' ee_andV ?_ (fun _ => ?_) | refine' ee_orV ?_ (fun _ => ?_) | refine' ee_notV ?_
  | refine' ee_isN ?_ | refine' ee_notN ?_ | refine' ee_eqD ?_ ?_ ?_ | refine' ee_neD ?_ ?_ ?_
  | refine' ee_ixT ?_ ?_ ?_ | refine' ee_lenT ?_ | refine' ee_isi ?_ ?_ | refine' ee_tup ?_ ?_ | refine' eo_some ?_ | refine' ee_slT ?_ ?_ ?_
  | exact ki_ii | exact ki_ib | exact ki_tt | exact ki_ss | (show atI _ _ = some _; first | rfl | assumption) | (show scalD _ _ = true; rfl) | exact Nat.le_of_ble_eq_true rfl)
local macro_rules | `(tactic| walk_at "ev") => `(tactic| repeat' walk_at "ev1")
abbrev P_deed (ds : List PyData) : Prop := ∃ (f : Frame) (s : Stand), ds = [f.d, s.d] ∧ f.Ok ∧ s.Ok
abbrev R_deed (s : Stand) (d : PyData) : Prop := ∃ x : Deed, d = x.d ∧ x.Ok s
/-- what is drawn for a stand -/
abbrev R_deed' (ds : List PyData) (d : PyData) : Prop := ∀ (f : Frame) (s : Stand), ds = [f.d, s.d] → s.Ok → R_deed s d
abbrev P_timed (ds : List PyData) : Prop := ∃ (f : Frame) (s : Stand) (m : Int), ds = [f.d, s.d, .int m] ∧ f.Ok ∧ s.Ok ∧ 0 ≤ m ∧ m ≤ 60
abbrev R_timed (ds rs : List PyData) : Prop := ∃ (f : Frame) (m : Int) (l : Timed), (∃ sd, ds = [f.d, sd, .int m]) ∧ rs = timedD l ∧ (l.length : Int) ≤ m ∧ l.Pairwise (fun x y => x.1 ≤ y.1) ∧ (∀ x ∈ l, 0 ≤ x.1 ∧ x.1 < f.ticks) ∧ ∀ s : Stand, ds = [f.d, s.d, .int m] → s.Ok → ∀ x ∈ l, x.2.Ok s
section
variable {t c : Addr} {ns : List Int} {ρ : List Sl} {ta : TA} {E : XK} {i : Nat}
theorem e_stand {f : Frame} {n : Int} (h0 : ρ[i]? = some (.v (.ref t))) (h : EA (TW t c ns) ta ρ [f.d, .int n]) (h1 : f.Ok) (h2 : 0 ≤ n) (h3 : n ≤ 12) : Ed (TW t c ns) (tCall (spT 3 P_stand R_stand) [] E (tCons (tVar i) ta)) ρ (fun d => ∃ s : Stand, d = s.d ∧ s.Ok) :=
  ed_tc h0 h (fun ds e => by subst e; exact ⟨rfl, f, n, rfl, h1, h2, h3⟩) fun ds d e h => h
theorem e_deed {f : Frame} {s : Stand} (h0 : ρ[i]? = some (.v (.ref t))) (h : EA (TW t c ns) ta ρ [f.d, s.d]) (h1 : f.Ok) (h2 : s.Ok) : Ed (TW t c ns) (tCall (spT 3 P_deed R_deed') [] E (tCons (tVar i) ta)) ρ (R_deed s) :=
  ed_tc h0 h (fun ds e => by subst e; exact ⟨rfl, f, s, rfl, h1, h2⟩) fun ds d e h => h f s e h2
end
theorem shaped_tup {ds : List PyData} (h : ∀ d ∈ ds, d.canLay0 = true ∧ d.depth ≤ 8) : SeqAt.shaped (.tuple ds) = true := by
  obtain ⟨h1, h2⟩ := lay_depth h
  unfold SeqAt.shaped
  simp only [PyData.canLay0, PyData.depth, h1, Bool.true_and]
  exact decide_eq_true (by omega)
theorem ee_eqTT {W : Wd} {K : PySem.W.Frag} {ρ : List Sl} {te tu : TE} {ds es : List PyData} (h1 : Ee W te ρ (.tuple ds)) (h2 : Ee W tu ρ (.tuple es)) (s1 : SeqAt.shaped (.tuple ds) = true) (s2 : SeqAt.shaped (.tuple es) = true) : Ee W (tOp (rEqD K) te tu) ρ (.bool (PyData.eqv (.tuple ds) (.tuple es))) := ee_op h1 h2 fun x y H Q I t1 t2 k =>
  ⟨_, _, t1.dp, t2.dp, s1, s2, k _ H _ (Wd.refl W H) (.bl _) rfl⟩
theorem eqv_nilT : ∀ ds : List PyData, PyData.eqv (.tuple ds) (.tuple []) = ds.isEmpty
  | [] => by simp [PyData.eqv, PyData.eqvAll]
  | d :: r => by simp [PyData.eqv, PyData.eqvAll]
theorem lay_mover (m : List Mover) : ∀ d ∈ m.map Mover.d, d.canLay0 = true ∧ d.depth ≤ 8 := by
  intro d hd
  obtain ⟨x, _, rfl⟩ := List.mem_map.mp hd
  obtain ⟨s, a, b, r, u⟩ := x
  unfold Mover.d
  cases s <;> refine ⟨by simp [PyData.canLay0, PyData.canLayAll0, shapeD], by simp [PyData.depth, PyData.depthAll, shapeD]⟩
section
variable {P : Program} {w : World} {K : PySem.W.Frag} {mg : Str → Option Value} {base : Heap} {C D : Addr}
theorem sc_law_stand : FnScope ["tape", "frame", "movers_most", "floor", "shift", "shapes", "book", "k", "movers"] ["tape", "frame", "movers_most"] (defScope s_law_stand) := ⟨rfl, rfl, rfl, by decide +kernel, rfl, by decide +kernel, by decide +kernel⟩
theorem c_law_stand (T : Txt K mg w C D) : Cal P w K mg base 4 "_law_stand" (spT 3 P_stand R_stand) := by
  have nd := sc_law_stand.nd
  have c_law_draw := c_law_draw (P := P) (w := w) (base := base) T
  have c_law_far := c_law_far (P := P) (w := w) (base := base) T
  have c_law_inked := c_law_inked (P := P) (w := w) (base := base) T
  have c_law_mover := c_law_mover (P := P) (w := w) (base := base) T
  refine mkT T.f__law_stand (fun _ _ _ _ _ _ us hl => match us, hl with | [_, _, _], _ => rfl) sc_law_stand rfl (fun f cdv A outer s H E hr => ⟨_, (pss_cons (ps_set (i := 3) nd rfl (by first | exact Or.inl rfl | exact Or.inr rfl) (pe_c c_law_inked hr (by decide) (by rfl) (pa_cons (pv 0) (pa_cons pe_int pa_nil)))) (pss_cons (ps_set (i := 4) nd rfl (by first | exact Or.inl rfl | exact Or.inr rfl) (pe_tup (pa_cons (pe_c c_law_far hr (by decide) (by rfl) (pa_cons (pv 0) (pa_cons pe_int pa_nil))) (pa_cons (pe_c c_law_far hr (by decide) (by rfl) (pa_cons (pv 0) (pa_cons pe_int pa_nil))) pa_nil)))) (pss_cons (ps_set (i := 5) nd rfl (by first | exact Or.inl rfl | exact Or.inr rfl) (pe_ix (ix_listK (K := K) rfl) (pe_lst (pa_cons (pe_c c_law_draw hr (by decide) (by rfl) (pa_cons (pv 0) (pa_cons pe_int pa_nil))) (pa_cons (pe_c c_law_draw hr (by decide) (by rfl) (pa_cons (pv 0) (pa_cons pe_int pa_nil))) pa_nil))) (pe_op op_fdiv (pe_c c_law_draw hr (by decide) (by rfl) (pa_cons (pv 0) (pa_cons pe_int pa_nil))) pe_int) (fun _ _ => rfl))) (pss_cons (ps_set (i := 6) nd rfl (by first | exact Or.inl rfl | exact Or.inr rfl) (pe_tupleK (K := K) rfl (by rfl) T.b_tuple (pe_lc (own := [("k", 7)]) (by rfl) nd (pi_range1 (by rfl) T.b_range (pa_cons (pv 5) pa_nil)) (blkOk_by (N := ["tape", "frame", "movers_most", "floor", "shift", "shapes", "book", "k", "movers"]) (sc := defScope s_law_stand) (by decide +kernel)) (fun _ _ _ _ _ => (pg_name (i := 7) nd rfl (by first | exact Or.inl rfl | exact Or.inr rfl))) (fun _ _ _ _ _ => pts_nil) (fun _ _ _ _ _ => (pe_c c_law_inked hr (by decide) (by rfl) (pa_cons (pv 0) (pa_cons pe_int pa_nil))))))) (pss_cons (ps_set (i := 8) nd rfl (by first | exact Or.inl rfl | exact Or.inr rfl) (pe_tupleK (K := K) rfl (by rfl) T.b_tuple (pe_lc (own := [("k", 7)]) (by rfl) nd (pi_range1 (by rfl) T.b_range (pa_cons (pe_c c_law_draw hr (by decide) (by rfl) (pa_cons (pv 0) (pa_cons (pe_op op_add (pv 2) pe_int) pa_nil))) pa_nil)) (blkOk_by (N := ["tape", "frame", "movers_most", "floor", "shift", "shapes", "book", "k", "movers"]) (sc := defScope s_law_stand) (by decide +kernel)) (fun _ _ _ _ _ => (pg_name (i := 7) nd rfl (by first | exact Or.inl rfl | exact Or.inr rfl))) (fun _ _ _ _ _ => pts_nil) (fun _ _ _ _ _ => (pe_c c_law_mover hr (by decide) (by rfl) (pa_cons (pv 0) (pa_cons (pv 1) (pa_cons (pe_callB (call_lenK (K := K) rfl) (by rfl) T.b_len (by decide +kernel) (pa_cons (pv 6) pa_nil)) pa_nil)))))))) (pss_one (ps_ret (pe_tup (pa_cons (pv 3) (pa_cons (pv 4) (pa_cons (pv 6) (pa_cons (pv 8) (pa_cons (pe_tupleK (K := K) rfl (by rfl) T.b_tuple (pe_lc (own := [("k", 7)]) (by rfl) nd (pi_range1 (by rfl) T.b_range (pa_cons pe_int pa_nil)) (blkOk_by (N := ["tape", "frame", "movers_most", "floor", "shift", "shapes", "book", "k", "movers"]) (sc := defScope s_law_stand) (by decide +kernel)) (fun _ _ _ _ _ => (pg_name (i := 7) nd rfl (by first | exact Or.inl rfl | exact Or.inr rfl))) (fun _ _ _ _ _ => pts_nil) (fun _ _ _ _ _ => (pe_c c_law_draw hr (by decide) (by rfl) (pa_cons (pv 0) (pa_cons pe_int pa_nil)))))) pa_nil))))))))))))), fun t c ns ds hn hF => ?_⟩)
  obtain ⟨f', n, rfl, ok, h0, h1⟩ := hF
  refine bs_asg (e_inked (m := 16) rfl (by walk_at "ev") (by omega) (by omega)) fun d h => ?_
  obtain ⟨fl, rfl, hfl⟩ := h
  refine bs_asg (P1 := fun d => ∃ x y, d = .tuple [.int x, .int y] ∧ Far x ∧ Far y) (ed_tup (ea_cp (e_far (m := 9) rfl (by walk_at "ev") (by omega) (by omega)) (ea_cp (e_far (m := 9) rfl (by walk_at "ev") (by omega) (by omega)) ea_nil)) fun ds h => ?_) fun d h => ?_
  · obtain ⟨_, _, rfl, ⟨x, rfl, hx⟩, _, _, rfl, ⟨y, rfl, hy⟩, rfl⟩ := h
    exact ⟨by simp, x, y, rfl, hx, hy⟩
  obtain ⟨sx, sy, rfl, hsx, hsy⟩ := h
  refine bs_asg (P1 := IntP fun r => 0 ≤ r ∧ r ≤ 8) (ed_pick (n := 2) (ln_cons ((e_draw (m := 4) rfl (by walk_at "ev") (by omega) (by omega)).mp fun d h => h.imp fun r h => ⟨h.1, h.2.1, by omega⟩) (ln_cons ((e_draw (m := 9) rfl (by walk_at "ev") (by omega) (by omega)).mp fun d h => h.imp fun r h => ⟨h.1, h.2.1, by omega⟩) ln_nil)) (by omega)
    (ed_IC (p := fun i => 0 ≤ i ∧ i < 4) (q := fun j => j = 3) (e_draw (m := 4) rfl (by walk_at "ev") (by omega) (by omega)) (ed_int rfl) (fun i j hi hj => ⟨by omega, by omega⟩) fun i j hi hj => ⟨i / j, rfl, by subst hj; omega⟩)) fun d h => ?_
  obtain ⟨sh, rfl, sh0, sh1⟩ := h
  refine bs_asg (P1 := fun d => ∃ b : List (List (List Int)), d = bookD b ∧ (b.length : Int) = sh ∧ ∀ r ∈ b, RowsOk 8 r) (ed_tupleL (El.q (el_rng (js := [7]) (p := fun n => n = sh) (R := fun y => ∃ r : List (List Int), y = rowsD r ∧ RowsOk 8 r) (PO := fun rs => ∃ b : List (List (List Int)), rs = b.map rowsD ∧ (b.length : Int) = sh ∧ ∀ r ∈ b, RowsOk 8 r) (Ea.mp (P1 := fun x => x = [.int sh]) (by walk_at "ev") fun ds e => ⟨sh, e, rfl⟩) (fun n e => by omega) (by simp) (fun n i e hi => ⟨_, gd_name, e_inked (m := 8) rfl (by walk_at "ev") (by omega) (by omega)⟩) fun rs hl hr => ?_)) fun ds h => ?_) fun d h => ?_
  · obtain ⟨b, e, hb⟩ := map_of hr
    rw [e, List.length_map] at hl
    exact ⟨b, e, hl, hb⟩
  · obtain ⟨b, e, hb⟩ := h
    exact ⟨b, by rw [e]; rfl, hb⟩
  obtain ⟨bk, rfl, hbl, hbk⟩ := h
  refine bs_asg (P1 := fun d => ∃ m : List Mover, d = moversD m ∧ m.length ≤ 12 ∧ ∀ x ∈ m, MoverOk bk.length x) (ed_tupleL (El.q (el_rng (js := [7]) (p := fun k => 0 ≤ k ∧ k ≤ n) (R := fun y => ∃ m : Mover, y = m.d ∧ MoverOk bk.length m) (PO := fun rs => ∃ m : List Mover, rs = m.map Mover.d ∧ m.length ≤ 12 ∧ ∀ x ∈ m, MoverOk bk.length x)
      (ea_consP (P := fun ds => ∃ k, ds = [.int k] ∧ 0 ≤ k ∧ k ≤ n) (e_draw (m := n + 1) rfl (by walk_at "ev") (by omega) (by omega)) ea_nil fun d ds h e2 => h.imp fun r h => ⟨by rw [h.1, e2], h.2.1, by omega⟩) (fun k e => by omega) (by simp) (fun k i e hi => ⟨_, gd_name, ?_⟩) fun rs hl hr => ?_)) fun ds h => ?_) fun d h => ?_
  · refine e_mover (f := f') (n := bk.length) rfl (ea_cons (ee_var rfl) (ea_cons (Ed.is (ee_lenT (ds := bk.map rowsD) (ee_var rfl)) (by rw [List.length_map])) ea_nil)) ok (by omega)
  · obtain ⟨m, e, hm⟩ := map_of hr
    rw [e, List.length_map] at hl
    exact ⟨m, e, by omega, hm⟩
  · obtain ⟨m, e, hm⟩ := h
    exact ⟨m, by rw [e]; rfl, hm⟩
  obtain ⟨mv, rfl, hml, hmv⟩ := h
  refine bs_ret (ed_tup (ea_cp (ee_var rfl) (ea_cp (ee_var rfl) (ea_cp (ee_var rfl) (ea_cp (ee_var rfl) (ea_cp (P1 := fun d => ∃ l : List Int, d = inksD l ∧ l.length = 16 ∧ ∀ h ∈ l, 0 ≤ h ∧ h ≤ 63) (ed_tupleL (El.q (el_rng (js := [7]) (p := fun n => n = 16) (R := IntP fun h => 0 ≤ h ∧ h ≤ 63) (PO := fun rs => ∃ l : List Int, rs = l.map .int ∧ l.length = 16 ∧ ∀ h ∈ l, 0 ≤ h ∧ h ≤ 63) (Ea.mp (P1 := fun x => x = [.int 16]) (by walk_at "ev") fun ds e => ⟨16, e, rfl⟩) (fun n e => by omega) (by simp) (fun n i e hi => ⟨_, gd_name, (e_draw (m := 64) rfl (by walk_at "ev") (by omega) (by omega)).mp fun d h => h.imp fun r h => ⟨h.1, h.2.1, by omega⟩⟩) fun rs hl hr => ?_)) fun ds h => ?_) ea_nil))))) fun ds h => ?_)
  · obtain ⟨l, e, hl2⟩ := ints_of hr
    rw [e, List.length_map] at hl
    exact ⟨l, e, by omega, hl2⟩
  · obtain ⟨l, e, hl⟩ := h
    exact ⟨l, by rw [e]; rfl, hl⟩
  · obtain ⟨_, _, rfl, rfl, _, _, rfl, rfl, _, _, rfl, rfl, _, _, rfl, rfl, _, _, rfl, ⟨l, rfl, hl1, hl2⟩, rfl⟩ := h
    exact ⟨by simp, ⟨fl, sx, sy, bk, mv, l⟩, rfl, hfl, hsx, hsy, by show bk.length ≤ 8; omega, hbk, hml, hmv, hl1, hl2⟩
theorem sc_law_deed : FnScope ["tape", "frame", "stand", "way", "some", "number", "mover"] ["tape", "frame", "stand"] (defScope s_law_deed) := ⟨rfl, rfl, rfl, by decide +kernel, rfl, by decide +kernel, by decide +kernel⟩
theorem c_law_deed (T : Txt K mg w C D) : Cal P w K mg base 4 "_law_deed" (spT 3 P_deed R_deed') := by
  have nd := sc_law_deed.nd
  have c_law_draw := c_law_draw (P := P) (w := w) (base := base) T
  have c_law_far := c_law_far (P := P) (w := w) (base := base) T
  have c_law_mover := c_law_mover (P := P) (w := w) (base := base) T
  refine mkT T.f__law_deed (fun _ _ _ _ _ _ us hl => match us, hl with | [_, _, _], _ => rfl) sc_law_deed rfl (fun f cdv A outer s H E hr => ⟨_, (pss_cons (ps_set (i := 3) nd rfl (by first | exact Or.inl rfl | exact Or.inr rfl) (pe_c c_law_draw hr (by decide) (by rfl) (pa_cons (pv 0) (pa_cons pe_int pa_nil)))) (pss_cons (ps_if (PW.pt (pw_or (pt_cmpR op_lt (pv 3) pe_int (nomark _)) (pw_or1 (pt_cmpR (op_eqK (K := K) rfl (by exact hr.units)) (pe_ix (ix_tupK (K := K) rfl) (pv 2) pe_int (fun _ _ => rfl)) (pe_tup pa_nil) (nomark _))))) (pss_cons (ps_set (i := 4) nd rfl (by first | exact Or.inl rfl | exact Or.inr rfl) (pe_lst (pa_cons (pe_tup (pa_cons pe_str (pa_cons (pe_c c_law_far hr (by decide) (by rfl) (pa_cons (pv 0) (pa_cons pe_int pa_nil))) (pa_cons (pe_c c_law_far hr (by decide) (by rfl) (pa_cons (pv 0) (pa_cons pe_int pa_nil))) pa_nil)))) (pa_cons (pe_tup (pa_cons pe_str (pa_cons (pe_c c_law_draw hr (by decide) (by rfl) (pa_cons (pv 0) (pa_cons pe_int pa_nil))) (pa_cons (pe_c c_law_draw hr (by decide) (by rfl) (pa_cons (pv 0) (pa_cons pe_int pa_nil))) pa_nil)))) pa_nil)))) (pss_one (ps_ret (pe_ix (ix_listK (K := K) rfl) (pv 4) (pe_op op_mod (pv 3) pe_int) (fun _ _ => rfl))))) pss_nil) (pss_cons (ps_set (i := 5) nd rfl (by first | exact Or.inl rfl | exact Or.inr rfl) (pe_c c_law_draw hr (by decide) (by rfl) (pa_cons (pv 0) (pa_cons (pe_callB (call_lenK (K := K) rfl) (by rfl) T.b_len (by decide +kernel) (pa_cons (pe_ix (ix_tupK (K := K) rfl) (pv 2) pe_int (fun _ _ => rfl)) pa_nil)) pa_nil)))) (pss_cons (ps_set (i := 6) nd rfl (by first | exact Or.inl rfl | exact Or.inr rfl) (pe_c c_law_mover hr (by decide) (by rfl) (pa_cons (pv 0) (pa_cons (pv 1) (pa_cons (pe_callB (call_lenK (K := K) rfl) (by rfl) T.b_len (by decide +kernel) (pa_cons (pe_ix (ix_tupK (K := K) rfl) (pv 2) pe_int (fun _ _ => rfl)) pa_nil)) pa_nil))))) (pss_cons (ps_if (pt_cmpR op_lt (pv 3) pe_int (nomark _)) (pss_one (ps_ret (pe_tup (pa_cons pe_str (pa_cons (pv 5) (pa_cons (pe_ix (ix_tupK (K := K) rfl) (pv 6) pe_int (fun _ _ => rfl)) (pa_cons (pe_ix (ix_tupK (K := K) rfl) (pv 6) pe_int (fun _ _ => rfl)) pa_nil))))))) pss_nil) (pss_one (ps_ret (pe_ix (ix_listK (K := K) rfl) (pe_lst (pa_cons (pe_tup (pa_cons pe_str (pa_cons (pv 5) (pa_cons (pe_ix (ix_tupK (K := K) rfl) (pv 6) pe_int (fun _ _ => rfl)) pa_nil)))) (pa_cons (pe_tup (pa_cons pe_str (pa_cons (pv 5) (pa_cons (pe_ix (ix_tupK (K := K) rfl) (pv 6) pe_int (fun _ _ => rfl)) pa_nil)))) (pa_cons (pe_tup (pa_cons pe_str (pa_cons (pv 5) (pa_cons (pe_ix (ix_tupK (K := K) rfl) (pv 6) pe_int (fun _ _ => rfl)) pa_nil)))) pa_nil)))) (pe_op op_sub (pv 3) pe_int) (fun _ _ => rfl))))))))), fun t c ns ds hn hF => ?_⟩)
  obtain ⟨f', s', rfl, ok, ok2⟩ := hF
  have hm := ok2.m1
  have hb := ok2.b1
  have post : ∀ {d : PyData}, R_deed s' d → R_deed' [f'.d, s'.d] d := fun {d} h f2 s2 e o2 => by
    obtain ⟨x, e1, h1⟩ := h
    refine ⟨x, e1, ?_⟩
    injection e with _ e
    injection e with e _
    have e3 : s'.movers.length = s2.movers.length ∧ s'.book.length = s2.book.length := by
      unfold Stand.d at e
      injection e with e
      injection e with _ e
      injection e with _ e
      injection e with ea e
      injection e with eb _
      have l1 : (s'.book.map rowsD).length = (s2.book.map rowsD).length := by
        unfold bookD at ea
        injection ea with ea
        rw [ea]
      have l2 : (s'.movers.map Mover.d).length = (s2.movers.map Mover.d).length := by
        unfold moversD at eb
        injection eb with eb
        rw [eb]
      rw [List.length_map, List.length_map] at l1 l2
      exact ⟨l2, l1⟩
    cases x with
    | shift x y => exact h1
    | pot i x => exact h1
    | move n x y => exact ⟨by rw [← e3.1]; exact h1.1, h1.2⟩
    | shape n x => exact ⟨by rw [← e3.1]; exact h1.1, by rw [← e3.2]; exact h1.2⟩
    | rank n x => exact ⟨by rw [← e3.1]; exact h1.1, h1.2⟩
    | turn n x => exact ⟨by rw [← e3.1]; exact h1.1, h1.2⟩
  refine bs_asg (e_draw (m := 8) rfl (by walk_at "ev") (by omega) (by omega)) fun d h => ?_
  obtain ⟨way, rfl, w0, w1⟩ := h
  refine bs_ifC (b := decide (way < 2) || (s'.movers.map Mover.d).isEmpty) (Et.is (et_or (by walk_at "ev") fun _ => et_test (ee_eqTT (ds := s'.movers.map Mover.d) (es := []) (ee_ixT (ee_var rfl) ee_int rfl) (ee_tup ea_nil) (shaped_tup (lay_mover _)) (shaped_tup fun d h => by cases h))) ?_) (fun e => ?_) (fun e => bs_skip ?_)
  · rw [eqv_nilT]
  · refine bs_ass ?_
    refine bs_asgL (L1 := ListN 2 (R_deed s')) (el_lst (P1 := ListN 2 (R_deed s')) (ln_cons (ed_tup (ea_cp (ee_str (x := "shift")) (ea_cp (e_far (m := 9) rfl (by walk_at "ev") (by omega) (by omega)) (ea_cp (e_far (m := 9) rfl (by walk_at "ev") (by omega) (by omega)) ea_nil))) fun ds h => ?_) (ln_cons (ed_tup (ea_cp (ee_str (x := "pot")) (ea_cp (e_draw (m := 16) rfl (by walk_at "ev") (by omega) (by omega)) (ea_cp (e_draw (m := 64) rfl (by walk_at "ev") (by omega) (by omega)) ea_nil))) fun ds h => ?_) ln_nil)) fun ds h => ⟨by rw [h.1]; omega, h⟩) fun ds h => ?_
    · obtain ⟨_, _, rfl, rfl, _, _, rfl, ⟨x, rfl, hx⟩, _, _, rfl, ⟨y, rfl, hy⟩, rfl⟩ := h
      exact ⟨by simp, .shift x y, rfl, hx, hy⟩
    · obtain ⟨_, _, rfl, rfl, _, _, rfl, ⟨x, rfl, x0, x1⟩, _, _, rfl, ⟨y, rfl, y0, y1⟩, rfl⟩ := h
      obtain ⟨k, rfl⟩ := Int.eq_ofNat_of_zero_le x0
      exact ⟨by simp, .pot k y, rfl, by show k < 16; omega, y0, by omega⟩
    · obtain ⟨d, e1, e2⟩ := pick_at h (i := way % 2) (by omega) (by omega)
      exact bs_retS (bs_ret (Ed.of (ee_ixL (K := K) (eq_var rfl rfl) (ee_IC (g := fun i j => i % j) (ee_var rfl) (ee_int (i := 2)) (by decide)) e1) (post e2)))
  · rw [Bool.or_eq_false_iff] at e
    have hw2 := of_decide_eq_false e.1
    have hne : 0 < s'.movers.length := by
      cases hq : s'.movers with
      | nil =>
        rw [hq] at e
        exact absurd e.2 (by decide)
      | cons a l => simp
    refine bs_asg (e_draw (m := (s'.movers.length : Int)) rfl (ea_cons (Ed.is (ee_lenT (ds := s'.movers.map Mover.d) (ee_ixT (ee_var rfl) ee_int rfl)) (by rw [List.length_map])) ea_nil) (by omega) (by omega)) fun d h => ?_
    obtain ⟨k, rfl, k0, k1⟩ := h
    obtain ⟨n, rfl⟩ := Int.eq_ofNat_of_zero_le k0
    refine bs_asg (e_mover (f := f') (n := s'.book.length) rfl (ea_cons (ee_var rfl) (ea_cons (Ed.is (ee_lenT (ds := s'.book.map rowsD) (ee_ixT (ee_var rfl) ee_int rfl)) (by rw [List.length_map])) ea_nil)) ok (by omega)) fun d h => ?_
    obtain ⟨m, rfl, mok⟩ := h
    obtain ⟨sp, x, y, r, u⟩ := m
    obtain ⟨a1, a2, a3, a4, a5, a6, a7⟩ := mok
    have hn : n < s'.movers.length := by omega
    refine bs_ifC (b := decide (way < 5)) (by walk_at "ev") (fun e5 => ?_) (fun e5 => bs_skip ?_)
    · refine bs_retS (bs_ret (Ed.of (d := .tuple [.str "move", .int n, .int x, .int y]) (by walk_at "ev") (post ⟨.move n x y, rfl, hn, a2, a3⟩)))
    · have e5 := of_decide_eq_false e5
      have hl : ListN 3 (R_deed s') [.tuple [.str "shape", .int n, shapeD sp], .tuple [.str "rank", .int n, .int r], .tuple [.str "turn", .int n, .int u]] := ⟨rfl, fun d hd => by
        rcases List.mem_cons.mp hd with q | q
        · exact ⟨.shape n sp, q, hn, a1⟩
        · rcases List.mem_cons.mp q with q | q
          · exact ⟨.rank n r, q, hn, a4, a5⟩
          · exact ⟨.turn n u, List.mem_singleton.mp q, hn, a6, a7⟩⟩
      obtain ⟨d, e1, e2⟩ := pick_at hl (i := way - 5) (by omega) (by omega)
      refine bs_ret (Ed.of (ee_ixL (K := K) (El.q (el_lst (P1 := fun l => l = [.tuple [.str "shape", .int n, shapeD sp], .tuple [.str "rank", .int n, .int r], .tuple [.str "turn", .int n, .int u]]) (by walk_at "ev") fun ds e => by subst e; exact ⟨by simp, rfl⟩)) (ee_II (g := fun i j => i - j) (ee_var rfl) (ee_int (i := 5))) e1) (post e2))
end
end Gw
set_option Elab.async false
set_option linter.all false
set_option maxRecDepth 100000
set_option maxHeartbeats 800000
namespace Gw
open PySem PySem.Spec PyProof.Rows L2
/- one step of the evaluation; walk_at "ev": to its end -/
local macro_rules | `(tactic| walk_at "ev1") => `(tactic| first
  | exact ee_int | exact ee_bl | exact ee_str | exact ee_non | exact ee_var rfl | exact eo_none | exact ea_nil
  | refine' ea_cons ?_ ?_ | refine' ee_II ?_ ?_ | refine' ee_IB ?_ ?_ | refine' ee_UI ?_ | refine' ee_IC ?_ ?_ ?_
  | refine' et_test ?_ | refine' et_B ?_ | refine' et_not ?_ | refine' et_and ?_ (fun _ => ?_) | refine' et_or ?_ (fun _ => ?_)
  | refine' ee_andV ?_ (fun _ => ?_) | refine' ee_orV ?_ (fun _ => ?_) | refine' ee_notV ?_
  | refine' ee_isN ?_ | refine' ee_notN ?_ | refine' ee_eqD ?_ ?_ ?_ | refine' ee_neD ?_ ?_ ?_
  | refine' ee_ixT ?_ ?_ ?_ | refine' ee_lenT ?_ | refine' ee_isi ?_ ?_ | refine' ee_tup ?_ ?_ | refine' eo_some ?_ | refine' ee_slT ?_ ?_ ?_
  | exact ki_ii | exact ki_ib | exact ki_tt | exact ki_ss | (show atI _ _ = some _; first | rfl | assumption) | (show scalD _ _ = true; rfl) | exact Nat.le_of_ble_eq_true rfl)
local macro_rules | `(tactic| walk_at "ev") => `(tactic| repeat' walk_at "ev1")
abbrev R_times (ds rs : List PyData) : Prop := ∀ (f : Frame) (s : Stand) (m : Int), ds = [f.d, s.d, .int m] → s.Ok → ∃ l : Timed, rs = timedD l ∧ (l.length : Int) ≤ m ∧ l.Pairwise (fun x y => x.1 ≤ y.1) ∧ ∀ x ∈ l, 0 ≤ x.1 ∧ x.1 < f.ticks ∧ x.2.Ok s
theorem deed_d {s t : Stand} (h : s.d = t.d) {x : Deed} (h1 : x.Ok s) : x.Ok t := by
  have e3 : s.movers.length = t.movers.length ∧ s.book.length = t.book.length := by
    unfold Stand.d at h
    injection h with e
    injection e with _ e
    injection e with _ e
    injection e with ea e
    injection e with eb _
    have l1 : (s.book.map rowsD).length = (t.book.map rowsD).length := by
      unfold bookD at ea
      injection ea with ea
      rw [ea]
    have l2 : (s.movers.map Mover.d).length = (t.movers.map Mover.d).length := by
      unfold moversD at eb
      injection eb with eb
      rw [eb]
    rw [List.length_map, List.length_map] at l1 l2
    exact ⟨l2, l1⟩
  cases x with
  | shift x y => exact h1
  | pot i x => exact h1
  | move n x y => exact ⟨by rw [← e3.1]; exact h1.1, h1.2⟩
  | shape n x => exact ⟨by rw [← e3.1]; exact h1.1, by rw [← e3.2]; exact h1.2⟩
  | rank n x => exact ⟨by rw [← e3.1]; exact h1.1, h1.2⟩
  | turn n x => exact ⟨by rw [← e3.1]; exact h1.1, h1.2⟩
theorem frame_d {f g : Frame} (h : f.d = g.d) : f = g := by
  obtain ⟨a, b, c, d⟩ := f
  obtain ⟨a', b', c', d'⟩ := g
  unfold Frame.d at h
  injection h with e
  injection e with e1 e
  injection e with e2 e
  injection e with e3 e
  injection e with e4 _
  injection e1 with e1
  injection e2 with e2
  injection e3 with e3
  injection e4 with e4
  have e1 : a = a' := e1
  have e2 : b = b' := e2
  have e3 : c = c' := e3
  have e4 : d = d' := e4
  rw [e1, e2, e3, e4]
section
variable {t c : Addr} {ns : List Int} {ρ : List Sl} {ta : TA} {E : XK} {i : Nat}
theorem e_timed {f : Frame} {s : Stand} {m : Int} (h0 : ρ[i]? = some (.v (.ref t))) (h : EA (TW t c ns) ta ρ [f.d, s.d, .int m]) (h1 : f.Ok) (h2 : s.Ok) (h3 : 0 ≤ m) (h4 : m ≤ 60) : El (TW t c ns) (tCall (spTL 4 P_timed R_times) [] E (tCons (tVar i) ta)) ρ
    (fun rs => ∃ l : Timed, rs = timedD l ∧ (l.length : Int) ≤ m ∧ l.Pairwise (fun x y => x.1 ≤ y.1) ∧ ∀ x ∈ l, 0 ≤ x.1 ∧ x.1 < f.ticks ∧ x.2.Ok s) :=
  el_tc h0 h (fun ds e => by subst e; exact ⟨rfl, f, s, m, rfl, h1, h2, h3, h4⟩) fun ds d e h => h f s m e h2
end
/-! ### sorted of pairs -/
def pairD (q : Int × Int) : PyData := .tuple [.int q.1, .int q.2]
theorem pair_of {H : Hp} {v : V} {q : Int × Int} (h : Tp H v (pairD q)) : ∃ t, v = .ref t ∧ H t = some (.tup [.int q.1, .int q.2]) := by
  obtain ⟨a, xs, e, ea, r⟩ := h.tup_of
  cases r with
  | cons a1 r =>
    cases r with
    | cons a2 r =>
      cases r
      rw [a1.int_of, a2.int_of] at ea
      exact ⟨a, e, ea⟩
def kOf (H : Hp) (v : V) : Int × Int := match v with
  | .ref t => match H t with
    | some (.tup [.int a, .int b]) => (a, b)
    | _ => (0, 0)
  | _ => (0, 0)
theorem kOf_pair {H : Hp} {v : V} {q : Int × Int} (h : Tp H v (pairD q)) : kOf H v = q := by
  obtain ⟨t, rfl, e⟩ := pair_of h
  unfold kOf
  simp only [e]
theorem pairs_k {H : Hp} : ∀ {vs : List V} {ps : List (Int × Int)}, TpA H vs (ps.map pairD) → vs.map (kOf H) = ps ∧ (∀ x ∈ vs, Tp H x (pairD (kOf H x)))
  | [], [], _ => ⟨rfl, fun x h => by cases h⟩
  | v :: vs, p :: ps, .cons a r => by
    obtain ⟨h1, h2⟩ := pairs_k (vs := vs) (ps := ps) r
    have e := kOf_pair a
    refine ⟨by rw [List.map_cons, e, h1], fun x hx => ?_⟩
    rcases List.mem_cons.mp hx with q | q
    · rw [q, e]
      exact a
    · exact h2 x q
theorem tpa_k {H : Hp} : ∀ {vs : List V}, (∀ x ∈ vs, Tp H x (pairD (kOf H x))) → TpA H vs ((vs.map (kOf H)).map pairD)
  | [], _ => .nil
  | v :: vs, h => .cons (h v List.mem_cons_self) (tpa_k fun x hx => h x (List.mem_cons_of_mem _ hx))
theorem El.mp {W : Wd} {ρ : List Sl} {te : TE} {P P' : PL} (h : El W te ρ P) (hp : ∀ ds, P ds → P' ds) : El W te ρ P' := fun B σ H Q A k => h B σ H Q A fun p vs ds H' r np e tp q => k p vs ds H' r np e tp (hp ds q)
theorem el_sort {W : Wd} {K : PySem.W.Frag} {ρ : List Sl} {te : TE} {P : List (Int × Int) → Prop} (h : El W te ρ (fun ds => ∃ ps : List (Int × Int), ds = ps.map pairD ∧ P ps)) :
    El W (tCB (rSortedPO K) (tCons te tNil)) ρ (fun rs => ∃ ps qs : List (Int × Int), rs = qs.map pairD ∧ P ps ∧ qs.Perm ps ∧ qs.Pairwise (fun x y => x.1 ≤ y.1)) := fun B σ H Q A k => h B σ H _ A fun p vs ds H1 r1 np e tp q => by
  obtain ⟨ps, rfl, pp⟩ := q
  obtain ⟨e1, e2⟩ := pairs_k tp
  refine ⟨p, vs, kOf H1, rfl, SqL.of e, fun x hx => pair_of (e2 x hx), fun ys z srt stb hz => ?_⟩
  have hp := stb.perm
  have ty := tpa_k (H := H1) (vs := ys) fun x hx => e2 x (hp.mem_iff.mp hx)
  refine k z ys _ _ (Wd.trans r1 (Wd.new hz)) (Wd.back A.i r1 hz) upd_same (ty.mono (Wd.tup (W := W) (Wd.new hz))) ⟨ps, ys.map (kOf H1), rfl, pp, ?_, ?_⟩
  · rw [← e1]
    exact hp.map _
  · rw [List.pairwise_map]
    refine srt.imp fun {a b} hab => ?_
    have := SrtO.lexB_no.mp hab
    omega
section
variable {P : Program} {w : World} {K : PySem.W.Frag} {mg : Str → Option Value} {base : Heap} {C D : Addr}
theorem sc_law_timed : FnScope ["tape", "frame", "stand", "most", "ticks", "found", "k", "places", "tick"] ["tape", "frame", "stand", "most"] (defScope s_law_timed) := ⟨rfl, rfl, rfl, by decide +kernel, rfl, by decide +kernel, by decide +kernel⟩
theorem c_law_timed (T : Txt K mg w C D) : Cal P w K mg base 5 "_law_timed" (spTL 4 P_timed R_times) := by
  have nd := sc_law_timed.nd
  have c_law_deed := c_law_deed (P := P) (w := w) (base := base) T
  have c_law_draw := c_law_draw (P := P) (w := w) (base := base) T
  refine mkTL T.f__law_timed (fun _ _ _ _ _ _ us hl => match us, hl with | [_, _, _, _], _ => rfl) sc_law_timed rfl (fun f cdv A outer s H E hr => ⟨_, (pss_cons (ps_set (i := 4) nd rfl (by first | exact Or.inl rfl | exact Or.inr rfl) (pe_op op_mul (pe_ix (ix_tupK (K := K) rfl) (pv 1) pe_int (fun _ _ => rfl)) (pe_op op_add (pe_ix (ix_tupK (K := K) rfl) (pv 1) pe_int (fun _ _ => rfl)) (pe_ix (ix_tupK (K := K) rfl) (pv 1) pe_int (fun _ _ => rfl))))) (pss_cons (ps_set (i := 5) nd rfl (by first | exact Or.inl rfl | exact Or.inr rfl) (pe_lc (own := [("k", 6)]) (by rfl) nd (pi_range1 (by rfl) T.b_range (pa_cons (pe_c c_law_draw hr (by decide) (by rfl) (pa_cons (pv 0) (pa_cons (pe_op op_add (pv 3) pe_int) pa_nil))) pa_nil)) (blkOk_by (N := ["tape", "frame", "stand", "most", "ticks", "found", "k", "places", "tick"]) (sc := defScope s_law_timed) (by decide +kernel)) (fun _ _ _ _ _ => (pg_name (i := 6) nd rfl (by first | exact Or.inl rfl | exact Or.inr rfl))) (fun _ _ _ _ _ => pts_nil) (fun _ _ _ _ _ => (pe_tup (pa_cons (pe_c c_law_draw hr (by decide) (by rfl) (pa_cons (pv 0) (pa_cons (pv 4) pa_nil))) (pa_cons (pe_c c_law_deed hr (by decide) (by rfl) (pa_cons (pv 0) (pa_cons (pv 1) (pa_cons (pv 2) pa_nil)))) pa_nil)))))) (pss_cons (ps_set (i := 7) nd rfl (by first | exact Or.inl rfl | exact Or.inr rfl) (pe_callB (cr_sortK (K := K) rfl) (by rfl) T.b_sorted (by decide +kernel) (pa_cons (pe_lc (own := [("k", 6)]) (by rfl) nd (pi_range1 (by rfl) T.b_range (pa_cons (pe_callB (call_lenK (K := K) rfl) (by rfl) T.b_len (by decide +kernel) (pa_cons (pv 5) pa_nil)) pa_nil)) (blkOk_by (N := ["tape", "frame", "stand", "most", "ticks", "found", "k", "places", "tick"]) (sc := defScope s_law_timed) (by decide +kernel)) (fun _ _ _ _ _ => (pg_name (i := 6) nd rfl (by first | exact Or.inl rfl | exact Or.inr rfl))) (fun _ _ _ _ _ => pts_nil) (fun _ _ _ _ _ => (pe_tup (pa_cons (pe_ix (ix_tupK (K := K) rfl) (pe_ix (ix_listK (K := K) rfl) (pv 5) (pv 6) (fun _ _ => rfl)) pe_int (fun _ _ => rfl)) (pa_cons (pv 6) pa_nil))))) pa_nil))) (pss_one (ps_ret (pe_lc (own := [("tick", 8), ("k", 6)]) (by rfl) nd (pi_listK (K := K) rfl (pv 7)) (blkOk_by (N := ["tape", "frame", "stand", "most", "ticks", "found", "k", "places", "tick"]) (sc := defScope s_law_timed) (by decide +kernel)) (fun _ _ _ _ _ => (pg_tupK (K := K) (n := 2) rfl (by rfl) (pgs_cons (pg_name (i := 8) nd rfl (by first | exact Or.inl rfl | exact Or.inr rfl)) (pgs_cons (pg_name (i := 6) nd rfl (by first | exact Or.inl rfl | exact Or.inr rfl)) pgs_nil)))) (fun _ _ _ _ _ => pts_nil) (fun _ _ _ _ _ => (pe_ix (ix_listK (K := K) rfl) (pv 5) (pv 6) (fun _ _ => rfl))))))))), fun t c ns ds hn hF => ?_⟩)
  obtain ⟨f', s', m, rfl, ok, ok2, h0, h1⟩ := hF
  have htk := ticks_le ok
  have htk1 : 0 < f'.ticks := by
    obtain ⟨w1, w2, h1, h2, g1, g2, m1, m2⟩ := ok
    unfold Frame.ticks
    exact Int.mul_pos (by omega) (by omega)
  have hCM : CMul f'.high (f'.wide + f'.gap) := by
    obtain ⟨w1, w2, h1, h2, g1, g2, m1, m2⟩ := ok
    exact .inl ⟨by omega, by omega⟩
  refine bs_asgE (d := .int f'.ticks) (ee_IC (g := fun i j => i * j) (ee_ixT (K := K) (d := .int f'.high) (ee_var rfl) (ee_int (i := 1)) rfl) (ee_II (g := fun i j => i + j) (ee_ixT (K := K) (d := .int f'.wide) (ee_var rfl) (ee_int (i := 0)) rfl) (ee_ixT (K := K) (d := .int f'.gap) (ee_var rfl) (ee_int (i := 2)) rfl)) hCM) ?_
  refine bs_asgL (L1 := fun rs => ∃ l : Timed, rs = timedD l ∧ (l.length : Int) ≤ m ∧ ∀ x ∈ l, 0 ≤ x.1 ∧ x.1 < f'.ticks ∧ x.2.Ok s') (el_rng (js := [6]) (p := fun k => 0 ≤ k ∧ k ≤ m) (R := fun y => ∃ x : Int × Deed, y = .tuple [.int x.1, x.2.d] ∧ (0 ≤ x.1 ∧ x.1 < f'.ticks ∧ x.2.Ok s'))
      (ea_consP (P := fun ds => ∃ k, ds = [.int k] ∧ 0 ≤ k ∧ k ≤ m) (e_draw (m := m + 1) rfl (by walk_at "ev") (by omega) (by omega)) ea_nil fun d ds h e2 => h.imp fun r h => ⟨by rw [h.1, e2], h.2.1, by omega⟩) (fun k e => by omega) (by simp) (fun k i e hi => ⟨_, gd_name, ?_⟩) fun rs hl hr => ?_) fun ds h => ?_
  · refine ed_tup (ea_cp (e_draw (m := f'.ticks) rfl (by walk_at "ev") htk1 (by omega)) (ea_cp (e_deed (f := f') (s := s') rfl (by walk_at "ev") ok ok2) ea_nil)) fun ds h => ?_
    obtain ⟨_, _, rfl, ⟨x, rfl, x0, x1⟩, _, _, rfl, ⟨d, rfl, dok⟩, rfl⟩ := h
    exact ⟨by simp, (x, d), rfl, x0, x1, dok⟩
  · obtain ⟨l, e, hl2⟩ := map_of hr
    rw [e, List.length_map] at hl
    exact ⟨l, e, hl.2, hl2⟩
  obtain ⟨l, rfl, hlen, hl⟩ := h
  have hll : (timedD l).length = l.length := timedD_len l
  have hgl : ∀ {i : Nat}, i < l.length → ∃ x, l[i]? = some x ∧ (timedD l)[i]? = some (.tuple [.int x.1, x.2.d]) := fun {i} hi => ⟨l[i], List.getElem?_eq_getElem hi, timed_at (List.getElem?_eq_getElem hi)⟩
  let tk : Nat → Int := fun i => match l[i]? with
    | some x => x.1
    | none => 0
  let ps : List (Int × Int) := (List.range l.length).map fun i => (tk i, (i : Int))
  refine bs_asgL (el_sort (P := fun q => q = ps) (te := _) ?_) fun ds h => ?_
  · have E := el_lcE (js := [6]) (W := TW t c ns) (te := tTup (tCons (tOp (rIxT K) (tOp (rIxL K) (tVar 5) (tVar 6)) (tC (.int 0))) (tCons (tVar 6) tNil))) (vs := [6]) (g := gName 6) (ρ := [.v (.ref t), .d f'.d, .d s'.d, .d (.int m), .d (.int f'.ticks), .l (timedD l), .no, .no, .no]) (src_R (ta := tCons (tCB (rLenQ K) (tCons (tVar 5) tNil)) tNil) (n := (l.length : Int)) (ea_cons (ed_lenL (K := K) (eq_var (P := fun x => x = timedD l) (i := 5) rfl rfl) fun ds e => by rw [e, timedD_len]) ea_nil) (by omega)) (by omega)
      (fun i => pairD (tk i, (i : Int))) (by simp) (fun i hi => by
        obtain ⟨x, e1, e2⟩ := hgl (i := i) (by omega)
        have ha : atI (timedD l) (i : Int) = some (.tuple [.int x.1, x.2.d]) := by
          rw [atI_at (by omega) (by omega), Int.toNat_natCast]
          exact e2
        refine ⟨_, gd_name, Ed.is (ee_tup (ea_cons (ee_ixT (d := .int x.1) (ee_ixL (eq_var (i := 5) rfl rfl) (ee_var (i := 6) rfl) ha) (ee_int (i := 0)) rfl) (ea_cons (ee_var (i := 6) rfl) ea_nil))) ?_⟩
        show PyData.tuple [.int x.1, .int (i : Int)] = PyData.tuple [.int (tk i), .int (i : Int)]
        have : tk i = x.1 := by
          show (match l[i]? with
            | some x => x.1
            | none => 0) = x.1
          rw [e1]
        rw [this])
    refine fun B σ H Q A k => E B σ H Q A fun p vs ds H' r np e tp q => k p vs ds H' r np e tp ⟨ps, ?_, rfl⟩
    rw [q, Int.toNat_natCast, List.map_map]
    rfl
  obtain ⟨ps', qs, rfl, rfl, perm, asc⟩ := h
  have hmem : ∀ q ∈ qs, ∃ i x, i < l.length ∧ l[i]? = some x ∧ q = (x.1, (i : Int)) := fun q hq => by
    obtain ⟨i, hi, e⟩ := List.mem_map.mp (perm.mem_iff.mp hq)
    rw [List.mem_range] at hi
    refine ⟨i, l[i], hi, List.getElem?_eq_getElem hi, ?_⟩
    rw [← e]
    have : tk i = l[i].1 := by
      show (match l[i]? with
        | some x => x.1
        | none => 0) = _
      rw [List.getElem?_eq_getElem hi]
    rw [this]
  have hql : qs.length = l.length := by
    rw [perm.length_eq]
    show ((List.range l.length).map _).length = _
    rw [List.length_map, List.length_range]
  let out : Timed := qs.map fun q => l.getD q.2.toNat (0, .shift 0 0)
  have hout : ∀ q ∈ qs, (l.getD q.2.toNat (0, .shift 0 0)).1 = q.1 ∧ (l.getD q.2.toNat (0, .shift 0 0)) ∈ l := fun q hq => by
    obtain ⟨i, x, hi, e1, rfl⟩ := hmem q hq
    show (l.getD (Int.toNat (i : Int)) (0, .shift 0 0)).1 = x.1 ∧ _
    rw [Int.toNat_natCast, List.getD_eq_getElem?_getD, e1]
    exact ⟨rfl, List.mem_of_getElem? e1⟩
  refine bs_retL (El.mp (el_lcE (js := [8, 6]) (W := TW t c ns) (src_L (K := K) (eq_var (P := fun x => x = qs.map pairD) (i := 7) rfl rfl)) (by rw [List.length_map]; omega) (fun i => nth (timedD out) i) (by simp) (fun i hi => ?_)) fun rs e => ?_)
  · have hi' : i < qs.length := by rw [List.length_map] at hi; exact hi
    rw [nth_map (getE hi')]
    obtain ⟨j, x, hj, e1, e2⟩ := hmem _ (List.getElem_mem hi')
    refine ⟨_, gd_tup (gds_cons gd_name (gds_cons gd_name gds_nil)) rfl, ?_⟩
    have ha : atI (timedD l) (qs[i].2) = some (.tuple [.int x.1, x.2.d]) := by
      rw [e2]
      show atI (timedD l) (j : Int) = _
      rw [atI_at (by omega) (by omega), Int.toNat_natCast]
      exact timed_at e1
    refine Ed.is (ee_ixL (K := K) (eq_var (i := 5) rfl rfl) (ee_var (i := 6) rfl) ha) ?_
    have eo : out[i]? = some x := by
      show (qs.map _)[i]? = _
      rw [List.getElem?_map, List.getElem?_eq_getElem hi']
      show some (l.getD (qs[i].2).toNat (0, .shift 0 0)) = _
      rw [e2]
      show some (l.getD (Int.toNat (j : Int)) (0, .shift 0 0)) = _
      rw [Int.toNat_natCast, List.getD_eq_getElem?_getD, e1]
      rfl
    exact (nth_at (timed_at eo)).symm
  · intro f2 s2 m2 eq o2
    injection eq with ea eq
    injection eq with eb eq
    injection eq with ec _
    have ef := frame_d ea
    subst ef
    injection ec with ec
    subst ec
    refine ⟨out, ?_, ?_, ?_, fun x hx => ?_⟩
    · rw [e, List.length_map]
      have : (timedD out).length = qs.length := by
        rw [timedD_len]
        show (qs.map _).length = _
        rw [List.length_map]
      rw [← this]
      exact seqOf_nth (timedD out)
    · show ((qs.map _).length : Int) ≤ m
      rw [List.length_map, hql]
      exact hlen
    · show (qs.map _).Pairwise _
      rw [List.pairwise_map]
      refine List.Pairwise.imp_of_mem ?_ asc
      intro a b ha hb hab
      rw [(hout a ha).1, (hout b hb).1]
      exact hab
    · obtain ⟨q, hq, rfl⟩ := List.mem_map.mp hx
      obtain ⟨a1, a2, a3⟩ := hl _ (hout q hq).2
      exact ⟨a1, a2, deed_d eb a3⟩
end
end Gw
set_option Elab.async false
set_option linter.all false
set_option maxRecDepth 100000
set_option maxHeartbeats 800000
namespace Gw
open PySem PySem.Spec PyProof.Rows L2
/- one step of the evaluation; walk_at "ev": to its end -/
local macro_rules | `(tactic| walk_at "ev1") => `(tactic| first
  | exact ee_int | exact ee_bl | exact ee_str | exact ee_non | exact ee_var rfl | exact eo_none | exact ea_nil
  | refine' ea_cons ?_ ?_ | refine' ee_II ?_ ?_ | refine' ee_IB ?_ ?_ | refine' ee_UI ?_ | refine' ee_IC ?_ ?_ ?_
  | refine' et_test ?_ | refine' et_B ?_ | refine' et_not ?_ | refine' et_and ?_ (fun _ => ?_) | refine' et_or ?_ (fun _ => ?_)
  | refine' ee_andV ?_ (fun _ => ?_) | refine' ee_orV ?_ (fun _ => ?_) | refine' ee_notV ?_
  | refine' ee_isN ?_ | refine' ee_notN ?_ | refine' ee_eqD ?_ ?_ ?_ | refine' ee_neD ?_ ?_ ?_
  | refine' ee_ixT ?_ ?_ ?_ | refine' ee_lenT ?_ | refine' ee_isi ?_ ?_ | refine' ee_tup ?_ ?_ | refine' eo_some ?_ | refine' ee_slT ?_ ?_ ?_
  | exact ki_ii | exact ki_ib | exact ki_tt | exact ki_ss | (show atI _ _ = some _; first | rfl | assumption) | (show scalD _ _ = true; rfl) | exact Nat.le_of_ble_eq_true rfl)
local macro_rules | `(tactic| walk_at "ev") => `(tactic| repeat' walk_at "ev1")
local macro_rules | `(tactic| walk_at "ev1") => `(tactic| refine' ee_min2 ?_ ?_)
section
variable {W : Wd} {K : PySem.W.Frag} {ρ : List Sl} {ta tb te : TE} {t tz u : TS} {N : List Sl → Prop} {P P1 P2 R : PD} {L L1 : PL} {d : PyData} {ds : List PyData}
theorem r_bs {B H : Hp} {σ : L2.St} {D : Ends} {M : List Sl → Prop} (A : At W B H σ ρ) (h : Bs W t ρ M (fun _ => False) (fun _ => False)) (k : ∀ σ' H' ρ', At W B H' σ' ρ' → M ρ' → tz D σ' H') : tSeq t tz D σ H :=
  h B σ H { D with nx := tz D } A (fun σ' H' ρ' A' m => k σ' H' ρ' A' m) (fun _ _ _ _ _ z => z.elim) (fun _ _ _ _ _ _ _ _ z => z.elim)
theorem bs_asgLZ {i : Nat} (h : El W te ρ L1) (k : ∀ ds, L1 ds → N (ρ.set i (.l ds))) : Bs W (tAsg te (gName i)) ρ N P L := fun B σ H D A kn kr kl =>
  h B σ H _ A fun p vs ds H1 r1 np e t q => kn _ H1 _ ((A.mono r1).set (s := .l ds) ⟨p, vs, rfl, Wd.back A.iB A.r np, e, t⟩ i) (k ds q)
theorem bs_appP {i : Nat} (hi : ρ[i]? = some (.l ds)) (h1 : ∀ j es, ρ[j]? = some (.l es) → j = i) (hz : ds.length < 100000) (h : Ed W te ρ P1) (k : ∀ d, P1 d → N (ρ.set i (.l (ds ++ [d])))) :
    Bs W (tDrop (tBM K "list" rAppend (tVar i) (tCons te tNil))) ρ N P L := fun B σ H D A kn kr kl => by
  obtain ⟨o, e, l, vs, rfl, n, hl, t⟩ := A.get hi
  refine ⟨_, e, .inl ⟨rfl, vs, SqL.of hl⟩, h B σ H _ A fun v H1 d' r1 t1 p1 => ?_⟩
  have A1 := A.mono r1
  have hl1 : H1 l = some (.lst vs) := Wd.keep r1 hl (Wd.nmt A.iB n)
  exact ⟨l, vs, v, rfl, rfl, hl1, by rw [t.length]; exact small5 hz, kn σ _ _ (A1.wr e n hl1 h1 ((t.mono (Wd.tup r1)).append (.cons t1 .nil))) (k d' p1)⟩
theorem ed_eqI {p : Int → Prop} {j : Int} (ha : Ed W ta ρ (IntP p)) (hb : Ee W tb ρ (.int j)) : Ed W (tOp rEq ta tb) ρ (fun d => ∃ b, d = .bool b) := ed_op ha hb fun x y H d e Q I t1 t2 p1 p2 k => by
  obtain ⟨i, rfl, _⟩ := p1
  subst p2
  obtain ⟨h1, h2⟩ := eqD_v t1 t2 rfl
  refine ⟨h1, ?_⟩
  rw [h2]
  exact k _ H _ (Wd.refl W H) (.bl _) ⟨_, rfl⟩
theorem ed_ixTP {i : Int} (ha : Ed W ta ρ P1) (hb : Ee W tb ρ (.int i)) (h : ∀ d, P1 d → ∃ ds e, d = .tuple ds ∧ atI ds i = some e ∧ R e) : Ed W (tOp (rIxT K) ta tb) ρ R := ed_op ha hb fun x y H d e Q I t1 t2 p1 p2 k => by
  subst p2
  obtain ⟨ds, e, rfl, ea, re⟩ := h d p1
  obtain ⟨p, xs, rfl, el, r⟩ := t1.tup_of
  obtain ⟨v, ev, tv⟩ := r.atI ea
  exact ⟨p, xs, i, v, rfl, t2.int_of, SqT.of el, ev, k v H _ (Wd.refl W H) tv re⟩
end
theorem ea_cp3 {W : Wd} {ρ : List Sl} {t1 t2 t3 : TE} {d1 d2 : PyData} {p : Int → Prop} (h1 : Ee W t1 ρ d1) (h2 : Ee W t2 ρ d2) (h3 : Ed W t3 ρ (IntP p)) : Ea W (tCons t1 (tCons t2 (tCons t3 tNil))) ρ (fun ds => ∃ m : Int, ds = [d1, d2, .int m] ∧ p m) :=
  Ea.mp (ea_cp h1 (ea_cp h2 (ea_cp h3 ea_nil))) fun ds h => by
    obtain ⟨_, _, rfl, rfl, _, _, rfl, rfl, _, _, rfl, ⟨m, rfl, hm⟩, rfl⟩ := h
    exact ⟨m, rfl, hm⟩
theorem lay_deed (d : Deed) : d.d.canLay0 = true ∧ d.d.depth ≤ 8 := by
  have hs : ∀ x ∈ (["shift", "pot", "move", "shape", "rank", "turn"] : List Str), PyData.strOk x = true := by decide +kernel
  cases d with
  | shift x y => exact ⟨by simp [Deed.d, PyData.canLay0, PyData.canLayAll0, hs], by simp [Deed.d, PyData.depth, PyData.depthAll]⟩
  | pot x y => exact ⟨by simp [Deed.d, PyData.canLay0, PyData.canLayAll0, hs], by simp [Deed.d, PyData.depth, PyData.depthAll]⟩
  | move n x y => exact ⟨by simp [Deed.d, PyData.canLay0, PyData.canLayAll0, hs], by simp [Deed.d, PyData.depth, PyData.depthAll]⟩
  | shape n x => cases x <;> exact ⟨by simp [Deed.d, shapeD, PyData.canLay0, PyData.canLayAll0, hs], by simp [Deed.d, shapeD, PyData.depth, PyData.depthAll]⟩
  | rank x y => exact ⟨by simp [Deed.d, PyData.canLay0, PyData.canLayAll0, hs], by simp [Deed.d, PyData.depth, PyData.depthAll]⟩
  | turn x y => exact ⟨by simp [Deed.d, PyData.canLay0, PyData.canLayAll0, hs], by simp [Deed.d, PyData.depth, PyData.depthAll]⟩
theorem deed_depth (d : Deed) : d.d.depth ≤ 1 := by
  cases d with
  | shape n x => cases x <;> simp [Deed.d, shapeD, PyData.depth, PyData.depthAll]
  | _ => simp [Deed.d, PyData.depth, PyData.depthAll]
theorem lay_timed (l : Timed) : ∀ d ∈ timedD l, d.canLay0 = true ∧ d.depth ≤ 8 := by
  intro d hd
  obtain ⟨x, _, rfl⟩ := List.mem_map.mp hd
  have h1 := (lay_deed x.2).1
  have h2 := deed_depth x.2
  refine ⟨by simp [PyData.canLay0, PyData.canLayAll0, h1], ?_⟩
  simp only [PyData.depth, PyData.depthAll]
  omega
theorem eqv_ref {ds : List PyData} (h : ∀ d ∈ ds, d.canLay0 = true ∧ d.depth ≤ 8) : PyData.eqv (.list ds) (.list ds) = true := SeqAt.eqv_refl _ (SeqAt.canLay_of_shaped (shapedL h))
theorem lay_ints (l : List Int) : ∀ d ∈ l.map PyData.int, d.canLay0 = true ∧ d.depth ≤ 8 := by
  intro d hd
  obtain ⟨x, _, rfl⟩ := List.mem_map.mp hd
  exact ⟨by simp only [PyData.canLay0], by simp only [PyData.depth]; omega⟩
/-- two lists of the same data are == -/
theorem eq_same {K : PySem.W.Frag} {H : Hp} {a b : Addr} {us vs : List V} {ds : List PyData} {Q : VK} (ea : H a = some (.lst us)) (ra : TpA H us ds) (eb : H b = some (.lst vs)) (rb : TpA H vs ds) (h : ∀ d ∈ ds, d.canLay0 = true ∧ d.depth ≤ 8) (k : Q (.bl true) H) : rEqD K (.ref a) (.ref b) H Q :=
  ⟨.list ds, .list ds, .lst (SqL.of ea) ra.dp, .lst (SqL.of eb) rb.dp, shapedL h, shapedL h, by rw [eqv_ref h]; exact k⟩
section
variable {B H : Hp} {σ : L2.St} {ρ : List Sl} {t1 t2 t3 t4 : TE} {d1 d2 : PyData} {ds : List PyData}
theorem args4 {m : Int} (A : At W0 B H σ ρ) (hn : noL ρ = true) (E1 : Ee (WC H) t1 ρ d1) (E2 : Ee (WC H) t2 ρ d2) (E3 : Eq_ (WC H) t3 ρ (fun x => x = ds)) (E4 : Ee (WC H) t4 ρ (.int m)) (Qa : List V → Hp → Prop)
    (k : ∀ v1 v2 tl tvs H1, Same H H1 → Tp H1 v1 d1 → Tp H1 v2 d2 → H1 tl = some (.lst tvs) → TpA H1 tvs ds → Qa [v1, v2, .ref tl, .int m] H1) : (tCons t1 (tCons t2 (tCons t3 (tCons t4 tNil)))) σ H Qa :=
  E1 H σ H _ (A.here hn) fun v1 H1 x1 r1 u1 p1 => E2 H σ H1 _ ((A.here hn).mono r1) fun v2 H2 x2 r2 u2 p2 => E3 H σ H2 _ (((A.here hn).mono r1).mono r2) fun tl tvs x3 H3 r3 m3 e3 u3 p3 => E4 H σ H3 _ ((((A.here hn).mono r1).mono r2).mono r3) fun v4 H4 x4 r4 u4 p4 => by
    subst p1
    subst p2
    subst p3
    subst p4
    rw [u4.int_of]
    exact k v1 v2 tl tvs H4 (same_trans (WC.same r1) (same_trans (WC.same r2) (same_trans (WC.same r3) (WC.same r4)))) (u1.mono (Wd.tup (Wd.trans r2 (Wd.trans r3 r4)))) (u2.mono (Wd.tup (Wd.trans r3 r4))) (WC.same r4 _ _ e3) (u3.mono (Wd.tup r4))
theorem law_pic {K : PySem.W.Frag} {ta : TA} {f : Frame} {s : Stand} {l : Timed} {Q : VK} (ok : f.Ok) (ok2 : s.Ok) (tok : TOk f s l)
    (hA : ∀ Qa : List V → Hp → Prop, (∀ v1 v2 tl tvs H1, Same H H1 → Tp H1 v1 f.d → Tp H1 v2 s.d → H1 tl = some (.lst tvs) → TpA H1 tvs (timedD l) → Qa [v1, v2, .ref tl, .int f.ticks] H1) → ta σ H Qa)
    (k : ∀ z us H', Same H H' → H z = none → H' z = some (.lst us) → RowsIn H' us (picOf f s l) → Q (.ref z) H') : tOp (rIxL K) (tCall sp_law_laid [] E0 ta) (tC (.int 0)) σ H Q :=
  hA _ fun v1 v2 tl tvs H1 s1 u1 u2 e u3 => ⟨rfl, v1, v2, tl, tvs, f, s, l, rfl, ok, ok2, tok, u1, u2, e, u3, fun S R rest us H' s2 _ eS nR eR rR =>
    ⟨S, _, 0, .ref R, rfl, rfl, SqL.of eS, by rw [atI_at (by omega) (by rw [List.length_cons]; omega)]; rfl, k R us H' (same_trans s1 s2) (Wd.back (W := W0) trivial (Wd.same s1) nR) eR rR⟩⟩
end
theorem ki_ll : kitB "list" "list" = some true := by decide +kernel
section
variable {P : Program} {w : World} {K : PySem.W.Frag} {mg : Str → Option Value} {base : Heap} {x : Str} {st : Stmt} {N ps : List Str} {k : Nat} {sp : Sp}
theorem mkRok {f0 : Addr} {fd0 : FuncData} (Fd : FnP K x x st f0 fd0) (S : FnScope N ps (defScope st)) (hl : ∀ vs H Q E, sp vs H Q E → vs.length = ps.length)
    (h : ∀ (f : Addr) (cdv : Value) (A : Around) (outer : List Env) (s : Shared) (H : Hp) (E : XK), Room k (A.deeper (envOfC x (defScope st) s.heap.objs.size f cdv)) →
      ∃ t, PSs (cxOf CX0 P w K mg base N x (defScope st) f cdv A outer s H E).nox (defBody st) t ∧ ∀ vs Q, sp vs H Q E → t { nx := fun _ H' => Q .non H', rt := Q } (L2.start N vs) H) : FnOk P w K mg base CX0 (k + 1) f0 fd0 ps sp := by
  refine Fd.ok S hl (fun cdv A outer s H vs Q E hr q => ?_)
  obtain ⟨t, ht, hs⟩ := h f0 cdv A outer s H E hr
  exact ⟨t, ht.nox, hs vs Q q⟩
end
theorem e_frame6 {t c : Addr} {ns : List Int} {ρ : List Sl} {ta : TA} {E : XK} {i : Nat} (h0 : ρ[i]? = some (.v (.ref t))) (h : EA (TW t c ns) ta ρ [.int 6]) : Ed (TW t c ns) (tCall (spT 2 P_size R_frame) [] E (tCons (tVar i) ta)) ρ
    (fun d => ∃ f : Frame, d = f.d ∧ 1 ≤ f.wide ∧ f.wide ≤ 6 ∧ 1 ≤ f.high ∧ f.high ≤ 6 ∧ 0 ≤ f.gap ∧ f.gap ≤ 20 ∧ 0 ≤ f.most ∧ f.most ≤ 12) :=
  ed_tc h0 h (fun ds e => by subst e; exact ⟨rfl, 6, rfl, by omega, by omega⟩) fun ds d e ⟨m', f, e1, e2, e3⟩ => by
    subst e
    cases e1
    exact ⟨f, e2, e3⟩
def sp_law (K : PySem.W.Frag) : Sp := fun vs H Q _ => vs.length = 1 ∧ ∃ (a : Addr) (ns : List Int), vs = [.ref a] ∧ SqL K H a (ns.map V.int) ∧ ∀ H', Q (.bl true) H'
abbrev lawS (t : Addr) (f s timed total whole due k others without ahead handed found : Sl) : List Sl := [.no, .v (.ref t), f, s, timed, total, whole, due, k, others, without, ahead, handed, found]
theorem law_slots {B H C : Hp} {σ : L2.St} {t tl : Addr} {d2 d3 d5 : PyData} {ds : List PyData} {v2 v3 v5 : V} (e : Paired (SlOk B H) σ [.no, .v (.ref t), .d d2, .d d3, .l ds, .d d5, .no, .no, .no, .no, .no, .no, .no, .no])
    (h1 : σ[1]? = some (some (.ref t))) (h2 : σ[2]? = some (some v2)) (t2 : Tp H v2 d2) (h3 : σ[3]? = some (some v3)) (t3 : Tp H v3 d3) (h4 : σ[4]? = some (some (.ref tl))) (h5 : σ[5]? = some (some v5)) (t5 : Tp H v5 d5) :
    Paired (SlOk C H) σ [.no, .v (.ref t), .d d2, .d d3, .v (.ref tl), .d d5, .no, .no, .no, .no, .no, .no, .no, .no] := by
  cases e with
  | cons a0 e => cases e with
    | cons a1 e => cases e with
      | cons a2 e => cases e with
        | cons a3 e => cases e with
          | cons a4 e => cases e with
            | cons a5 e =>
              have h1 := Option.some.inj h1
              have h2 := Option.some.inj h2
              have h3 := Option.some.inj h3
              have h4 := Option.some.inj h4
              have h5 := Option.some.inj h5
              refine .cons trivial (.cons h1 (.cons ⟨v2, h2, t2⟩ (.cons ⟨v3, h3, t3⟩ (.cons h4 (.cons ⟨v5, h5, t5⟩ (pr_map e fun a b hb _ => ?_))))))
              have hb : b = .no := by simpa using hb
              subst hb
              trivial
section
variable {P : Program} {w : World} {K : PySem.W.Frag} {mg : Str → Option Value} {base : Heap} {C D : Addr}
theorem sc_law : FnScope ["script", "tape", "frame", "stand", "timed", "total", "whole", "due", "k", "others", "without", "ahead", "handed", "found"] ["script"] (defScope s_law) := ⟨rfl, rfl, rfl, by decide +kernel, rfl, by decide +kernel, by decide +kernel⟩
theorem ok_law (T : Txt K mg w C D) {f0 : Addr} {fd0 : FuncData} (Fd : FnP K "law" "law" s_law f0 fd0) : FnOk P w K mg base CX0 11 f0 fd0 ["script"] (sp_law K) := by
  have nd := sc_law.nd
  have c_law_draw := c_law_draw (P := P) (w := w) (base := base) T
  have c_law_frame := c_law_frame (P := P) (w := w) (base := base) T
  have c_law_laid := c_law_laid (P := P) (w := w) (base := base) T
  have c_law_stand := c_law_stand (P := P) (w := w) (base := base) T
  have c_law_timed := c_law_timed (P := P) (w := w) (base := base) T
  have c_slips := c_slips (P := P) (w := w) (base := base) T
  refine mkRok Fd sc_law (fun _ _ _ _ q => q.1) (fun f cdv A outer s H E hr => ⟨_, (pss_cons (ps_set (i := 1) nd rfl (by first | exact Or.inl rfl | exact Or.inr rfl) (pe_lst (pa_cons (pe_callTy (call_listK (K := K) rfl) (by rfl) T.b_list (by decide +kernel) (pa_cons (pv 0) pa_nil)) (pa_cons pe_int (pa_cons pe_int pa_nil))))) (pss_cons (ps_set (i := 2) nd rfl (by first | exact Or.inl rfl | exact Or.inr rfl) (pe_c c_law_frame hr (by decide) (by rfl) (pa_cons (pv 1) (pa_cons pe_int pa_nil)))) (pss_cons (ps_set (i := 2) nd rfl (by first | exact Or.inl rfl | exact Or.inr rfl) (pe_op (op_catK (K := K) rfl) (pe_slice (sl_tupK (K := K) rfl) (pv 2) po_none (po_some pe_int)) (pe_tup (pa_cons (pe_callB (call_min2 (by rfl)) (by rfl) T.b_min (by decide +kernel) (pa_cons (pe_ix (ix_tupK (K := K) rfl) (pv 2) pe_int (fun _ _ => rfl)) (pa_cons pe_int pa_nil))) (pa_cons (pe_ix (ix_tupK (K := K) rfl) (pv 2) pe_int (fun _ _ => rfl)) pa_nil))))) (pss_cons (ps_set (i := 3) nd rfl (by first | exact Or.inl rfl | exact Or.inr rfl) (pe_c c_law_stand hr (by decide) (by rfl) (pa_cons (pv 1) (pa_cons (pv 2) (pa_cons pe_int pa_nil))))) (pss_cons (ps_set (i := 4) nd rfl (by first | exact Or.inl rfl | exact Or.inr rfl) (pe_c c_law_timed hr (by decide) (by rfl) (pa_cons (pv 1) (pa_cons (pv 2) (pa_cons (pv 3) (pa_cons (pe_ix (ix_listK (K := K) rfl) (pe_lst (pa_cons pe_int (pa_cons pe_int pa_nil))) (pe_op op_fdiv (pe_c c_law_draw hr (by decide) (by rfl) (pa_cons (pv 1) (pa_cons pe_int pa_nil))) pe_int) (fun _ _ => rfl)) pa_nil)))))) (pss_cons (ps_if (PW.pt (pw_and (pt_cmpR (op_neK (K := K) rfl (by exact hr.units)) (pv 4) (pe_lst pa_nil) (nomark _)) (pw_and1 (pt_cmpR op_eq (pe_c c_law_draw hr (by decide) (by rfl) (pa_cons (pv 1) (pa_cons pe_int pa_nil))) pe_int (nomark _))))) (pss_one (ps_expr (pe_bm PySem.F.plainAttrs_list PySem.F.slot_list_append PySem.F.type_list_append mt_append (pv 4) (pa_cons (pe_tup (pa_cons (pe_op op_sub (pe_op op_mul (pe_ix (ix_tupK (K := K) rfl) (pv 2) pe_int (fun _ _ => rfl)) (pe_op op_add (pe_ix (ix_tupK (K := K) rfl) (pv 2) pe_int (fun _ _ => rfl)) (pe_ix (ix_tupK (K := K) rfl) (pv 2) pe_int (fun _ _ => rfl)))) pe_int) (pa_cons (pe_ix (ix_tupK (K := K) rfl) (pe_ix (ix_listK (K := K) rfl) (pv 4) (pe_c c_law_draw hr (by decide) (by rfl) (pa_cons (pv 1) (pa_cons (pe_callB (call_lenK (K := K) rfl) (by rfl) T.b_len (by decide +kernel) (pa_cons (pv 4) pa_nil)) pa_nil))) (fun _ _ => rfl)) pe_int (fun _ _ => rfl)) pa_nil))) pa_nil)))) pss_nil) (pss_cons (ps_set (i := 5) nd rfl (by first | exact Or.inl rfl | exact Or.inr rfl) (pe_op op_mul (pe_ix (ix_tupK (K := K) rfl) (pv 2) pe_int (fun _ _ => rfl)) (pe_op op_add (pe_ix (ix_tupK (K := K) rfl) (pv 2) pe_int (fun _ _ => rfl)) (pe_ix (ix_tupK (K := K) rfl) (pv 2) pe_int (fun _ _ => rfl))))) (pss_cons (ps_set (i := 6) nd rfl (by first | exact Or.inl rfl | exact Or.inr rfl) (pe_ix (ix_listK (K := K) rfl) (pe_c c_law_laid hr (by decide) (by rfl) (pa_cons (pv 2) (pa_cons (pv 3) (pa_cons (pv 4) (pa_cons (pv 5) pa_nil))))) pe_int (fun _ _ => rfl))) (pss_cons (ps_set (i := 7) nd rfl (by first | exact Or.inl rfl | exact Or.inr rfl) (pe_lst pa_nil)) (pss_cons (ps_for PassesOwn.never rfl (pi_range1 (by rfl) T.b_range (pa_cons (pe_callB (call_lenK (K := K) rfl) (by rfl) T.b_len (by decide +kernel) (pa_cons (pv 4) pa_nil)) pa_nil)) (pg_name (i := 8) nd rfl (by first | exact Or.inl rfl | exact Or.inr rfl)) (pss_cons (ps_set (i := 9) nd rfl (by first | exact Or.inl rfl | exact Or.inr rfl) (pe_op op_cat (pe_slice (sl_listK (K := K) rfl) (pv 4) po_none (po_some (pv 8))) (pe_slice (sl_listK (K := K) rfl) (pv 4) (po_some (pe_op op_add (pv 8) pe_int)) po_none))) (pss_cons (ps_set (i := 10) nd rfl (by first | exact Or.inl rfl | exact Or.inr rfl) (pe_ix (ix_listK (K := K) rfl) (pe_c c_law_laid hr (by decide) (by rfl) (pa_cons (pv 2) (pa_cons (pv 3) (pa_cons (pv 9) (pa_cons (pv 5) pa_nil))))) pe_int (fun _ _ => rfl))) (pss_cons (ps_set (i := 11) nd rfl (by first | exact Or.inl rfl | exact Or.inr rfl) (pe_ix (ix_listK (K := K) rfl) (pe_c c_law_laid hr (by decide) (by rfl) (pa_cons (pv 2) (pa_cons (pv 3) (pa_cons (pe_op op_cat (pe_lst (pa_cons (pe_tup (pa_cons pe_int (pa_cons (pe_ix (ix_tupK (K := K) rfl) (pe_ix (ix_listK (K := K) rfl) (pv 4) (pv 8) (fun _ _ => rfl)) pe_int (fun _ _ => rfl)) pa_nil))) pa_nil)) (pv 9)) (pa_cons (pv 5) pa_nil))))) pe_int (fun _ _ => rfl))) (pss_one (ps_if (PW.pt (pw_and (pt_cmpR (op_neK (K := K) rfl (by exact hr.units)) (pv 6) (pv 10) (nomark _)) (pw_and1 (pt_cmpR (op_neK (K := K) rfl (by exact hr.units)) (pv 6) (pv 11) (nomark _))))) (pss_one (ps_expr (pe_bm PySem.F.plainAttrs_list PySem.F.slot_list_append PySem.F.type_list_append mt_append (pv 7) (pa_cons (pv 8) pa_nil)))) pss_nil)))))) (pss_cons (ps_set (i := 12) nd rfl (by first | exact Or.inl rfl | exact Or.inr rfl) (pe_callTy (call_listK (K := K) rfl) (by rfl) T.b_list (by decide +kernel) (pa_cons (pv 4) pa_nil))) (pss_cons (ps_set (i := 13) nd rfl (by first | exact Or.inl rfl | exact Or.inr rfl) (pe_c c_slips hr (by decide) (by rfl) (pa_cons (pv 2) (pa_cons (pv 3) (pa_cons (pv 12) pa_nil))))) (pss_one (ps_ret (pe_and (pe_callB (call_isiW (K := K) rfl) (by rfl) T.b_isinstance (by decide +kernel) (pa_cons (pv 13) (pa_cons (pe_bltn (v := .ty "list") (by rfl) T.b_list (by decide +kernel) rfl) pa_nil))) (pe_and (pe_cmpR (op_eqK (K := K) rfl (by exact hr.units)) (pv 13) (pv 7) (nomark _)) (pe_one (pe_cmpR (op_eqK (K := K) rfl (by exact hr.units)) (pv 12) (pv 4) (nomark _))))))))))))))))))), fun vs Q q => ?_⟩)
  obtain ⟨_, a, ns, rfl, hS, q⟩ := q
  refine r_asg ?_
  refine ⟨_, rfl, a, ns.map V.int, rfl, .inl hS, fun c hc => ⟨by show 3 ≤ sizeLine; decide, fun t ht => ?_⟩⟩
  have hct : c ≠ t := fun z => by
    rw [← z, upd_same] at ht
    cases ht
  have ti : TI_ t c ns (upd (upd H c (.lst (ns.map V.int))) t (.lst [.ref c, .int 0, .int 0])) := ⟨hct, by rw [upd_ne hct, upd_same], 0, 0, by omega, upd_same⟩
  have A2 : At (TW t c ns) _ _ ((L2.start ["script", "tape", "frame", "stand", "timed", "total", "whole", "due", "k", "others", "without", "ahead", "handed", "found"] [.ref a]).set 1 (some (.ref t))) (lawS t .no .no .no .no .no .no .no .no .no .no .no .no) :=
    ⟨ti, Wd.refl _ _, .cons trivial (.cons rfl (.cons trivial (.cons trivial (.cons trivial (.cons trivial (.cons trivial (.cons trivial (.cons trivial (.cons trivial (.cons trivial (.cons trivial (.cons trivial (.cons trivial .nil)))))))))))))⟩
  show tSeq _ _ _ ((L2.start ["script", "tape", "frame", "stand", "timed", "total", "whole", "due", "k", "others", "without", "ahead", "handed", "found"] [.ref a]).set 1 (some (.ref t))) (upd (upd H c (.lst (ns.map V.int))) t (.lst [.ref c, .int 0, .int 0]))
  generalize upd (upd H c (.lst (ns.map V.int))) t (.lst [.ref c, .int 0, .int 0]) = B at A2 ti
  generalize (L2.start ["script", "tape", "frame", "stand", "timed", "total", "whole", "due", "k", "others", "without", "ahead", "handed", "found"] [.ref a]).set 1 (some (.ref t)) = σ2 at A2
  refine r_bs (M := fun ρ' => ∃ f : Frame, (1 ≤ f.wide ∧ f.wide ≤ 6 ∧ 1 ≤ f.high ∧ f.high ≤ 6 ∧ 0 ≤ f.gap ∧ f.gap ≤ 20 ∧ 0 ≤ f.most ∧ f.most ≤ 12) ∧ ρ' = lawS t (.d f.d) .no .no .no .no .no .no .no .no .no .no .no) A2 (bs_asgPZ (e_frame6 rfl (by walk_at "ev")) fun d h => ?_) fun σ3 H3 ρ3 A3 M => ?_
  · obtain ⟨f, rfl, hf⟩ := h
    exact ⟨f, hf, rfl⟩
  obtain ⟨f0, ⟨w1, w2, hh1, hh2, g1, g2, m1, m2⟩, rfl⟩ := M
  have hf' : ∃ f' : Frame, f' = ⟨f0.wide, f0.high, if 3 < f0.gap then 3 else f0.gap, f0.most⟩ := ⟨_, rfl⟩
  obtain ⟨f', hf'⟩ := hf'
  have ok : f'.Ok := by
    rw [hf']
    refine ⟨w1, by show f0.wide ≤ 40; omega, hh1, by show f0.high ≤ 40; omega, ?_, ?_, m1, m2⟩
    · show 0 ≤ if 3 < f0.gap then 3 else f0.gap
      split <;> omega
    · show (if 3 < f0.gap then 3 else f0.gap) ≤ 20
      split <;> omega
  refine r_bs (M := fun ρ' => ρ' = lawS t (.d f'.d) .no .no .no .no .no .no .no .no .no .no .no) A3 (bs_asgZ (d := f'.d) (Ed.is (ee_catT (ee_takeT (n := 2) (ds := [.int f0.wide, .int f0.high, .int f0.gap, .int f0.most]) (ee_var rfl) ee_int (by omega)) (ee_tup (ea_cons (ee_min2 (i := f0.gap) (j := 3) (ee_ixT (ee_var rfl) ee_int rfl) ee_int) (ea_cons (ee_ixT (d := .int f0.most) (ee_var rfl) ee_int rfl) ea_nil))) (Nat.le_of_ble_eq_true rfl)) (by rw [hf']; rfl)) rfl) fun σ4 H4 ρ4 A4 M => ?_
  subst M
  clear A2 A3 hf'
  refine r_bs (M := fun ρ' => ∃ s : Stand, s.Ok ∧ ρ' = lawS t (.d f'.d) (.d s.d) .no .no .no .no .no .no .no .no .no .no) A4 (bs_asgPZ (e_stand (f := f') (n := 4) rfl (by walk_at "ev") ok (by omega) (by omega)) fun d h => ?_) fun σ5 H5 ρ5 A5 M => ?_
  · obtain ⟨s, rfl, hs⟩ := h
    exact ⟨s, hs, rfl⟩
  obtain ⟨s', ok2, rfl⟩ := M
  have htk := ticks_le ok
  have htk1 : 0 < f'.ticks := by
    obtain ⟨w1, w2, h1, h2, g1, g2, m1, m2⟩ := ok
    unfold Frame.ticks
    exact Int.mul_pos (by omega) (by omega)
  have hCM : CMul f'.high (f'.wide + f'.gap) := by
    obtain ⟨w1, w2, h1, h2, g1, g2, m1, m2⟩ := ok
    exact .inl ⟨by omega, by omega⟩
  clear A4
  refine r_bs (M := fun ρ' => ∃ l : Timed, (l.length : Int) ≤ 39 ∧ l.Pairwise (fun x y => x.1 ≤ y.1) ∧ (∀ x ∈ l, 0 ≤ x.1 ∧ x.1 < f'.ticks ∧ x.2.Ok s') ∧ ρ' = lawS t (.d f'.d) (.d s'.d) (.l (timedD l)) .no .no .no .no .no .no .no .no .no) A5 (bs_asgLZ (L1 := fun rs => ∃ l : Timed, rs = timedD l ∧ (l.length : Int) ≤ 39 ∧ l.Pairwise (fun x y => x.1 ≤ y.1) ∧ ∀ x ∈ l, 0 ≤ x.1 ∧ x.1 < f'.ticks ∧ x.2.Ok s')
    (el_tc (P1 := fun ds => ∃ m : Int, ds = [f'.d, s'.d, .int m] ∧ (m = 6 ∨ m = 39)) rfl (ea_cp3 (ee_var rfl) (ee_var rfl) (ed_pick (n := 2) (ln_cons (ed_int (.inl rfl)) (ln_cons (ed_int (.inr rfl)) ln_nil)) (by omega) (ed_IC (p := fun i => 0 ≤ i ∧ i < 4) (q := fun j => j = 3) (e_draw (m := 4) rfl (by walk_at "ev") (by omega) (by omega)) (ed_int rfl) (fun i j hi hj => ⟨by omega, by omega⟩) fun i j hi hj => ⟨i / j, rfl, by subst hj; omega⟩)))
      (fun ds h => ?_) fun ds rs h hr => ?_) fun ds h => ?_) fun σ6 H6 ρ6 A6 M => ?_
  · obtain ⟨m, rfl, hm⟩ := h
    exact ⟨rfl, f', s', m, rfl, ok, ok2, by omega, by omega⟩
  · obtain ⟨m, rfl, hm⟩ := h
    obtain ⟨l, e, h1, h2, h3⟩ := hr f' s' m rfl ok2
    exact ⟨l, e, by omega, h2, h3⟩
  · obtain ⟨l, rfl, h1, h2, h3⟩ := h
    exact ⟨l, h1, h2, h3, rfl⟩
  obtain ⟨l0, hl1, hl2, hl3, rfl⟩ := M
  clear A5
  refine r_bs (M := fun ρ' => ∃ l : Timed, TOk f' s' l ∧ ρ' = lawS t (.d f'.d) (.d s'.d) (.l (timedD l)) .no .no .no .no .no .no .no .no .no) A6 ?_ fun σ7 H7 ρ7 A7 M => ?_
  · have tok0 : TOk f' s' l0 := ⟨hl2, fun x hx => (hl3 x hx).1, fun x hx => (hl3 x hx).2.1, fun x hx => (hl3 x hx).2.2, by omega⟩
    by_cases h0 : l0 = []
    · refine bs_ifZ (b := false) (Et.is (et_and (a := !PyData.eqv (.list (timedD l0)) (.list [])) (b := false) (et_test (ee_neLL (eq_var rfl rfl) el_nil.q (shapedL (lay_timed l0)) shaped_nil)) fun z => ?_) ?_) (fun z => by cases z) fun _ => bs_next ⟨l0, tok0, rfl⟩
      · rw [eqv_nil, h0] at z
        cases z
      · rw [Bool.and_false]
    · obtain ⟨n, hn⟩ : ∃ n, l0.length = n + 1 := by
        cases hq : l0 with
        | nil => exact absurd hq h0
        | cons x l => exact ⟨l.length, rfl⟩
      refine bs_ifPZ (R := fun _ => True) (Et.mp (et_andP (a := !PyData.eqv (.list (timedD l0)) (.list [])) (R := fun _ => True) (et_test (ee_neLL (eq_var rfl rfl) el_nil.q (shapedL (lay_timed l0)) shaped_nil)) fun _ => et_testP (P := fun d => ∃ b, d = .bool b) (ed_eqI (e_draw (m := 3) rfl (by walk_at "ev") (by omega) (by omega)) ee_int) fun d h => h.imp fun b e => ⟨e, trivial⟩) fun _ _ => trivial) (fun _ => ?_) fun _ => bs_next ⟨l0, tok0, rfl⟩
      refine bs_appP (i := 4) (ds := timedD l0) (P1 := fun d => ∃ x ∈ l0, d = .tuple [.int (f'.ticks - 1), x.2.d]) rfl (fun j es z => ?_) (by rw [timedD_len]; omega)
        (ed_tup (ea_cp (P1 := fun d => d = .int (f'.ticks - 1)) (ee_II (g := fun i j => i - j) (i := f'.ticks) (j := 1) (ee_IC (g := fun i j => i * j) (ee_ixT (K := K) (d := .int f'.high) (ee_var rfl) (ee_int (i := 1)) rfl) (ee_II (g := fun i j => i + j) (ee_ixT (K := K) (d := .int f'.wide) (ee_var rfl) (ee_int (i := 0)) rfl) (ee_ixT (K := K) (d := .int f'.gap) (ee_var rfl) (ee_int (i := 2)) rfl)) hCM) ee_int) (ea_cp (P1 := fun d => ∃ x ∈ l0, d = x.2.d) (ed_ixTP (P1 := fun d => ∃ x ∈ l0, d = .tuple [.int x.1, x.2.d]) (ed_ixL (K := K) (eq_var (P := fun x => x = timedD l0) rfl rfl) (e_draw (m := (l0.length : Int)) rfl (ea_cons (ed_lenL (eq_var (P := fun x => x = timedD l0) rfl rfl) fun ds e => by rw [e, timedD_len]) ea_nil) (by omega) (by omega)) fun ds e h1 h2 => ?_) ee_int fun d h => ?_) ea_nil)) fun ds h => ?_) fun d h => ?_
      · rcases j with _ | _ | _ | _ | _ | _ | _ | _ | _ | _ | _ | _ | _ | _ | j <;> first | rfl | cases z
      · obtain ⟨i, rfl, i0, i1⟩ := h2
        subst h1
        have hi : i.toNat < l0.length := by omega
        refine ⟨i, _, rfl, ?_, l0[i.toNat], List.getElem_mem hi, rfl⟩
        rw [atI_at i0 (by rw [timedD_len]; exact i1)]
        exact timed_at (List.getElem?_eq_getElem hi)
      · obtain ⟨x, hx, rfl⟩ := h
        exact ⟨_, _, rfl, rfl, x, hx, rfl⟩
      · obtain ⟨_, _, rfl, rfl, _, _, rfl, ⟨x, hx, rfl⟩, rfl⟩ := h
        exact ⟨by simp, x, hx, rfl⟩
      · obtain ⟨x, hx, rfl⟩ := h
        have hx3 := hl3 x hx
        refine ⟨l0 ++ [(f'.ticks - 1, x.2)], ⟨?_, ?_, ?_, ?_, ?_⟩, ?_⟩
        · rw [List.pairwise_append]
          refine ⟨hl2, List.pairwise_singleton _ _, fun y hy z hz => ?_⟩
          rw [List.mem_singleton.mp hz]
          have := (hl3 y hy).2.1
          show y.1 ≤ f'.ticks - 1
          omega
        · intro y hy
          rcases List.mem_append.mp hy with h | h
          · exact (hl3 y h).1
          · rw [List.mem_singleton.mp h]
            show 0 ≤ f'.ticks - 1
            omega
        · intro y hy
          rcases List.mem_append.mp hy with h | h
          · exact (hl3 y h).2.1
          · rw [List.mem_singleton.mp h]
            show f'.ticks - 1 < f'.ticks
            omega
        · intro y hy
          rcases List.mem_append.mp hy with h | h
          · exact (hl3 y h).2.2
          · rw [List.mem_singleton.mp h]
            exact hx3.2.2
        · rw [List.length_append]
          simp
          omega
        · unfold timedD
          rw [List.map_append]
          rfl
  obtain ⟨l, tok, rfl⟩ := M
  clear A6
  refine r_bs (M := fun ρ' => ρ' = lawS t (.d f'.d) (.d s'.d) (.l (timedD l)) (.d (.int f'.ticks)) .no .no .no .no .no .no .no .no) A7 (bs_asgZ (d := .int f'.ticks) (ee_IC (g := fun i j => i * j) (ee_ixT (K := K) (d := .int f'.high) (ee_var rfl) (ee_int (i := 1)) rfl) (ee_II (g := fun i j => i + j) (ee_ixT (K := K) (d := .int f'.wide) (ee_var rfl) (ee_int (i := 0)) rfl) (ee_ixT (K := K) (d := .int f'.gap) (ee_var rfl) (ee_int (i := 2)) rfl)) hCM) rfl) fun σ8 H8 ρ8 A8 M => ?_
  subst M
  obtain ⟨o, e4, tl, tvs, rfl, nB, et, tt⟩ := A8.get (i := 4) (s := .l (timedD l)) rfl
  have A9 : At W0 H8 H8 σ8 (lawS t (.d f'.d) (.d s'.d) (.v (.ref tl)) (.d (.int f'.ticks)) .no .no .no .no .no .no .no .no) := by
    refine ⟨trivial, Wd.refl _ _, ?_⟩
    have e := A8.e
    obtain ⟨o2, e2', v2, rfl, t2⟩ := A8.get (i := 2) (s := .d f'.d) rfl
    obtain ⟨o3, e3', v3, rfl, t3⟩ := A8.get (i := 3) (s := .d s'.d) rfl
    obtain ⟨o5, e5', v5, rfl, t5⟩ := A8.get (i := 5) (s := .d (.int f'.ticks)) rfl
    have e1' := A8.vv (i := 1) rfl
    exact law_slots e e1' e2' t2 e3' t3 e4 e5' t5
  have hlen := tt.length
  have hl2 := timedD_len l
  have hl3 := tok.len
  clear A8 A7
  refine r_asg (law_pic ok ok2 tok (args4 A9 rfl (ee_var (i := 2) rfl) (ee_var (i := 3) rfl) (eq_raw (i := 4) rfl et tt) (ee_var (i := 5) rfl)) fun Wh us H10 s10 nW eW rW => ?_)
  have A10 : At W0 H10 H10 _ (lawS t (.d f'.d) (.d s'.d) (.v (.ref tl)) (.d (.int f'.ticks)) (.v (.ref Wh)) .no .no .no .no .no .no .no) := ((A9.sm s10).setV (.ref Wh) 6).rb rfl
  have et1 := s10 _ _ et
  have tt1 := tt.mono (same_tup s10)
  clear A9
  refine r_asg ?_
  refine ⟨by decide, fun F hF => ?_⟩
  have A11 : At W0 H10 _ _ (lawS t (.d f'.d) (.d s'.d) (.v (.ref tl)) (.d (.int f'.ticks)) (.v (.ref Wh)) (.v (.ref F)) .no .no .no .no .no .no) := (A10.sm (same_new (o := .lst []) hF)).setV (.ref F) 7
  refine r_cut (fun σ' H' => At W0 H10 H' σ' (lawS t (.d f'.d) (.d s'.d) (.v (.ref tl)) (.d (.int f'.ticks)) (.v (.ref Wh)) (.v (.ref F)) .no .no .no .no .no .no) ∧ H' F = some (.lst ((slipsTo f' s' l l.length).map V.int))) (fun nx kn => ?_) (fun σ12 H12 M => ?_)
  · refine r_for ?_
    refine r_cons ?_
    refine ⟨_, A11.vv (i := 4) rfl, tl, tvs, rfl, .inl (SqL.of (A11.sB _ _ et1)), (tvs.length : Int), rfl, by omega, by omega, for_it (walk_range (lo := 0) (n := (tvs.length : Int).toNat)) (fun i σ' H' => At W0 H10 H' σ' (lawS t (.d f'.d) (.d s'.d) (.v (.ref tl)) (.d (.int f'.ticks)) (.v (.ref Wh)) (.v (.ref F)) .no .no .no .no .no .no) ∧ H' F = some (.lst ((slipsTo f' s' l i).map V.int))) ⟨A11, upd_same⟩ (fun i σ' H' _ _ => trivial) (fun i y σ4 H4 H5 hi p Y => ?_) (fun σ' H' p => ?_)⟩
    · obtain ⟨rfl, rfl⟩ := Y
      obtain ⟨A4, eF⟩ := p
      have hi' : i < l.length := by omega
      have ex := List.getElem?_eq_getElem hi'
      show tSeq _ _ _ (σ4.set 8 (some (.int (0 + (i : Int))))) H5
      rw [Int.zero_add]
      have A5 : At W0 H10 H5 (σ4.set 8 (some (.int (i : Int)))) (lawS t (.d f'.d) (.d s'.d) (.v (.ref tl)) (.d (.int f'.ticks)) (.v (.ref Wh)) (.v (.ref F)) (.d (.int (i : Int))) .no .no .no .no .no) := A4.setD (.int (i : Int)) 8
      have et5 := A5.sB _ _ et1
      have tt5 := tt1.mono (same_tup A5.sB)
      generalize σ4.set 8 (some (.int (i : Int))) = σ5 at A5
      have EL := el_catL (el_take (K := K) (ρ := lawS t (.d f'.d) (.d s'.d) (.v (.ref tl)) (.d (.int f'.ticks)) (.v (.ref Wh)) (.v (.ref F)) (.d (.int (i : Int))) .no .no .no .no .no) (eq_raw (C0 := H5) (i := 4) rfl et5 tt5) (ee_var (i := 8) rfl) (by omega)).q
        (el_drop (K := K) (eq_raw (i := 4) rfl et5 tt5) (ee_II (g := fun i j => i + j) (ee_var (i := 8) rfl) (ee_int (i := 1))) (by omega)).q (by rw [List.length_take, List.length_drop]; omega)
      refine r_asg (EL H5 _ H5 _ (A5.here rfl) fun O vO dO H6 r6 nO eO tO qO => ?_)
      rw [Int.toNat_natCast, show ((i : Int) + 1).toNat = i + 1 by omega, timedD_others] at qO
      subst qO
      have s6 := WC.same r6
      have A6 : At W0 H10 H6 _ (lawS t (.d f'.d) (.d s'.d) (.v (.ref tl)) (.d (.int f'.ticks)) (.v (.ref Wh)) (.v (.ref F)) (.d (.int (i : Int))) (.v (.ref O)) .no .no .no .no) := (A5.sm s6).setV (.ref O) 9
      clear EL
      refine r_asg (law_pic ok ok2 (tok.others i) (args4 A6 rfl (ee_var (i := 2) rfl) (ee_var (i := 3) rfl) (eq_raw (i := 9) rfl eO tO) (ee_var (i := 5) rfl)) fun O2 us2 H7 s7 n7 e7 r7 => ?_)
      have A7 : At W0 H10 H7 _ (lawS t (.d f'.d) (.d s'.d) (.v (.ref tl)) (.d (.int f'.ticks)) (.v (.ref Wh)) (.v (.ref F)) (.d (.int (i : Int))) (.v (.ref O)) (.v (.ref O2)) .no .no .no) := (A6.sm s7).setV (.ref O2) 10
      have s57 := same_trans s6 s7
      have et7 := s57 _ _ et5
      have tt7 := tt5.mono (same_tup s57)
      have eO7 := s7 _ _ eO
      have tO7 := tO.mono (same_tup s7)
      have hx : atI (timedD l) (i : Int) = some (.tuple [.int l[i].1, l[i].2.d]) := by
        rw [atI_at (by omega) (by omega), Int.toNat_natCast]
        exact timed_at ex
      have hd : deedAt l i = l[i].2 := by
        unfold deedAt
        rw [ex]
      have EL2 := el_catL (el_lst (ρ := lawS t (.d f'.d) (.d s'.d) (.v (.ref tl)) (.d (.int f'.ticks)) (.v (.ref Wh)) (.v (.ref F)) (.d (.int (i : Int))) (.v (.ref O)) (.v (.ref O2)) .no .no .no) (P1 := fun x => x = [.tuple [.int 0, l[i].2.d]]) (P := fun x => x = [.tuple [.int 0, l[i].2.d]])
          (ea_cons (ee_tup (ea_cons (W := WC H7) ee_int (ea_cons (ee_ixT (K := K) (ee_ixL (K := K) (eq_raw (C0 := H7) (i := 4) rfl et7 tt7) (ee_var (i := 8) rfl) hx) (ee_int (i := 1)) rfl) ea_nil)) (by simp)) ea_nil) fun ds e => by subst e; exact ⟨by simp, rfl⟩).q
        (eq_raw (i := 9) rfl eO7 tO7) (by rw [timedD_len]; have := (tok.others i).len; simp; omega)
      have ea : [PyData.tuple [.int 0, l[i].2.d]] ++ timedD (others l i) = timedD (ahead l i) := by
        unfold ahead
        rw [hd]
        rfl
      rw [ea] at EL2
      refine r_asg (law_pic ok ok2 (tok.ahead ok hi') (args4 A7 rfl (ee_var (i := 2) rfl) (ee_var (i := 3) rfl) EL2.q (ee_var (i := 5) rfl)) fun O3 us3 H8' s8 n8 e8 r8 => ?_)
      have A8 : At W0 H10 H8' _ (lawS t (.d f'.d) (.d s'.d) (.v (.ref tl)) (.d (.int f'.ticks)) (.v (.ref Wh)) (.v (.ref F)) (.d (.int (i : Int))) (.v (.ref O)) (.v (.ref O2)) (.v (.ref O3)) .no .no) := (A7.sm s8).setV (.ref O3) 11
      have eF8 := s8 _ _ (s57 _ _ eF)
      refine r_if (two_ne (A8.vv (i := 6) rfl) (A8.vv (i := 10) rfl) (A8.vv (i := 11) rfl) (A8.sB _ _ eW) (rW.mono A8.sB) (s8 _ _ e7) (r7.mono s8) e8 r8 ?_)
      have le9 : Le (lawS t (.d f'.d) (.d s'.d) (.v (.ref tl)) (.d (.int f'.ticks)) (.v (.ref Wh)) (.v (.ref F)) (.d (.int (i : Int))) (.v (.ref O)) (.v (.ref O2)) (.v (.ref O3)) .no .no) (lawS t (.d f'.d) (.d s'.d) (.v (.ref tl)) (.d (.int f'.ticks)) (.v (.ref Wh)) (.v (.ref F)) .no .no .no .no .no .no) :=
        .cons (.inr rfl) (.cons (.inr rfl) (.cons (.inr rfl) (.cons (.inr rfl) (.cons (.inr rfl) (.cons (.inr rfl) (.cons (.inr rfl) (.cons (.inr rfl) (.cons (.inl rfl) (.cons (.inl rfl) (.cons (.inl rfl) (.cons (.inl rfl) (.cons (.inr rfl) (.cons (.inr rfl) .nil)))))))))))))
      show if slipB f' s' l i = true then _ else _
      by_cases hb : slipB f' s' l i = true
      · rw [if_pos hb]
        obtain ⟨v5, e5, t5⟩ := A8.var (i := 8) rfl
        rw [t5.int_of] at e5
        refine r_dropZ ?_
        refine ⟨_, A8.vv (i := 7) rfl, .inl ⟨rfl, _, SqL.of eF8⟩, _, e5, F, _, _, rfl, rfl, eF8, ?_, ?_, ?_⟩
        · rw [List.length_map]
          have := slipsTo_len f' s' l i
          exact small5 (by omega)
        · exact (A8.upd rfl (Wd.back (W := W0) trivial (Wd.refl W0 _) hF) eF8 (fun xs => by simp)).le le9
        · rw [upd_same, slipsTo_succ, if_pos hb, List.map_append]
          rfl
      · rw [if_neg hb]
        refine ⟨A8.le le9, ?_⟩
        rw [slipsTo_succ, if_neg hb, List.append_nil]
        exact eF8
    · rw [Int.toNat_natCast, hlen, hl2] at p
      exact kn _ _ p
  · obtain ⟨A12, eF⟩ := M
    have et12 := A12.sB _ _ et1
    have tt12 := tt1.mono (same_tup A12.sB)
    refine r_asg ?_
    refine ⟨_, A12.vv (i := 4) rfl, tl, tvs, rfl, .inl (SqL.of et12), fun hd hhd => ?_⟩
    have s13 : Same H12 (upd H12 hd (.lst tvs)) := same_new hhd
    have A13 : At W0 H10 _ _ (lawS t (.d f'.d) (.d s'.d) (.v (.ref tl)) (.d (.int f'.ticks)) (.v (.ref Wh)) (.v (.ref F)) .no .no .no .no (.v (.ref hd)) .no) := (A12.sm s13).setV (.ref hd) 12
    have eh : upd H12 hd (.lst tvs) hd = some (.lst tvs) := upd_same
    have et13 := s13 _ _ et12
    have tt13 := tt12.mono (same_tup s13)
    have eF13 := s13 _ _ eF
    show tSeq _ _ _ (σ12.set 12 (some (.ref hd))) (upd H12 hd (.lst tvs))
    generalize upd H12 hd (.lst tvs) = H13 at *
    generalize σ12.set 12 (some (.ref hd)) = σ13 at *
    refine r_asg (args3 A13 rfl (ee_var (i := 2) rfl) (ee_var (i := 3) rfl) (eq_raw (i := 12) rfl eh tt13) _ fun v1 v2 tl2 tvs2 H14 s14 u1 u2 e14 t14 => ⟨rfl, v1, v2, tl2, tvs2, f', s', l, rfl, ok, ok2, tok, u1, u2, e14, t14, fun z H15 s15 nz ez => ?_⟩)
    have s135 := same_trans s14 s15
    have A15 : At W0 H10 H15 _ (lawS t (.d f'.d) (.d s'.d) (.v (.ref tl)) (.d (.int f'.ticks)) (.v (.ref Wh)) (.v (.ref F)) .no .no .no .no (.v (.ref hd)) (.v (.ref z))) := (A13.sm s135).setV (.ref z) 13
    have eF15 := s135 _ _ eF13
    have et15 := s135 _ _ et13
    have eh15 := s135 _ _ eh
    have tt15 := tt13.mono (same_tup s135)
    refine r_ret ?_
    refine ⟨_, A15.vv (i := 13) rfl, .ref z, .ty "list", _, _, true, rfl, .ty "list", .base (.lst ez), kit_ty ki_ll, true, rfl, ?_⟩
    rw [if_pos rfl]
    refine ⟨_, A15.vv (i := 13) rfl, _, A15.vv (i := 7) rfl, eq_same ez (TpA.of_ints (ns := slipsTo f' s' l l.length)) eF15 (TpA.of_ints (ns := slipsTo f' s' l l.length)) (lay_ints _) ⟨true, rfl, ?_⟩⟩
    rw [if_pos rfl]
    exact ⟨_, A15.vv (i := 12) rfl, _, A15.vv (i := 4) rfl, eq_same eh15 tt15 et15 tt15 (lay_timed l) (q H15)⟩
end
end Gw
set_option Elab.async false
set_option linter.all false
set_option maxRecDepth 100000
set_option maxHeartbeats 0
namespace Gw
open PySem PySem.Spec PyProof.Rows L2
theorem facts {P : Program} {w : World} {K : PySem.W.Frag} {h : Heap} {mg : Str → Option Value} {f : Addr} (X : K.In h) (G : h.Ns mainGlobals mg) (hfa : mg ("law" : Str) = some (.ref f)) (c : SaysY fac fnl tab exx w K) :
    ∃ fd : FuncData, (∀ (s : Shared) (v : Value), BindsTo s fd ⟨[v], []⟩ [("script", v)]) ∧ ∀ base : Heap, K.In base → base.Ns mainGlobals mg → FnOk P w K mg base CX0 11 f fd ["script"] (sp_law K) := by
  have T := txt_of X G c
  obtain ⟨f', fd, Fd, hm⟩ := T.f_law.ex
  have e := hfa.symm.trans hm
  cases e
  have b := FunD.bindsA (ps := ["script"]) Fd fun _ _ _ _ _ _ us hl => match us, hl with | [_], _ => rfl
  exact ⟨fd, fun s v => b s [v] rfl, fun base _ _ => ok_law T Fd⟩
end Gw
open PySem PySem.W PySem.Calls PyProof.Rows
theorem PySem.Challenge.cw_glowrow_k20_whole_slips_holds : PySem.Challenge.rw_glowrow_k20_whole_slips.Holds := by
  w_on; o_law
  refine HandSHeadRun.head_any (r := OpenLaw.row PySem.Challenge.rw_glowrow_k20_whole_slips) (q := Gw.vw) (H := Gw.hk) (ob := Gw.ob) (M := 4000) (loose := Gw.loo) (d := HandSHeadRun.topDef (OpenLaw.row PySem.Challenge.rw_glowrow_k20_whole_slips).prog 74) (kwd := []) Gw.ob_eq
    (by kernel_rfl) (fun s => by kernel_rfl) Gw.run (by kernel_rfl) (by kernel_rfl) (by kernel_rfl) (by rfl) (by first | assumption | decide +kernel) (by decide +kernel) ⟨rfl, rfl, rfl, rfl, rfl, by decide +kernel⟩ ?hw ?hc
  case hw => w_witness2
  case hc =>
    refine L2.walk_ofE (l := PySem.Challenge.rw_glowrow_k20_whole_slips) (n := 63) (k := 11) (x := "script") (CX := L2.CX0) rfl (by decide) (by kernel_rfl) ⟨rfl, by decide, by decide⟩ ?F (fun _ _ _ _ z => z)
    intro w mg fa h Y G hmg0
    obtain ⟨K, KX, c⟩ := Y
    have hmg : mg ("law" : PySem.Str) = some (.ref fa) := by
      have e : (HandSHeadRun.topDef (OpenLaw.row PySem.Challenge.rw_glowrow_k20_whole_slips).prog 74).name = ("law" : PySem.Str) := by kernel_rfl
      rw [← e]
      exact hmg0
    obtain ⟨fd, hb, hF⟩ := Gw.facts (P := (PySem.Challenge.rw_glowrow_k20_whole_slips).prog) (w := w) KX G hmg c
    exact ⟨K, fd, Gw.sp_law K, KX, hb, fun H a ns hl _ hS => ⟨rfl, a, ns, rfl, hS, fun _ => rfl⟩, hF⟩
