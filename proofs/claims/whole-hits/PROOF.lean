import PyProof.Rows.All
import Wide.All
import OpenK.AllK
import Wide.FinOn
import HandS.ForMost
import HandS.HeadHook1
import HandS.TupAny
import HandS.Walk
import HandS.Rev
import HandS.Deep
import HandS.Steps
import HandS.Conv
import HandS.RevTup
import KE.DataMinMax
import HandS.NoneIn
import HandS.DictComp
import HandS.SetKeys
import PyProof.DictMoreH
import KE.KDictLaws
import HandS.Iter
import KE.KDictList
import KE.KRevIter
import PyProof.ReprRoads
import HandS.FStrTup
import HandS.Base
import HandS.Call
import HandS.Ends
import HandS.HeadEnd
import HandS.Words
import KE.KStateDown
import HandS.Head0
import HandS.Head1
import HandS.Head2
import PySem.Challenge.RW_chartspec_k63_whole_hits_outside_the_dam
set_option Elab.async false
set_option linter.all false
set_option maxRecDepth 100000
set_option maxHeartbeats 4000000
set_option pp.maxSteps 200
namespace Cs
open PySem PySem.Spec PyProof.Rows L2
def topS (i : Nat) : Stmt := PySem.Challenge.pw_chartspec_k63_whole_hits_outside_the_dam.main.body.getD i (.Pass ⟨0, 0, 0, 0⟩)
def fdOf (K : PySem.W.Frag) (a : Addr) : FuncData := match K.lookup a with
  | some ⟨_, _, .func fd, _⟩ => fd
  | _ => PySem.W.fnOf "" "" { posonlyargs := [], args := [], vararg := none, kwonlyargs := [], kw_defaults := [], kwarg := none, defaults := [] } [] { kind := .function, names := [], isGenerator := false, isCoroutine := false } .none .none .none .none none .none .none
abbrev s_contains : Stmt := topS 1
abbrev n_contains : List Str := ["rectangle", "x", "y", "left", "top", "width", "height"]
abbrev p_contains : List Str := ["rectangle", "x", "y"]
theorem sc_contains : FnScope n_contains p_contains (defScope s_contains) := ⟨rfl, rfl, rfl, by decide +kernel, rfl, by decide +kernel, by decide +kernel⟩
abbrev s_common : Stmt := topS 2
abbrev n_common : List Str := ["first", "second", "left", "top", "right", "lower"]
abbrev p_common : List Str := ["first", "second"]
theorem sc_common : FnScope n_common p_common (defScope s_common) := ⟨rfl, rfl, rfl, by decide +kernel, rfl, by decide +kernel, by decide +kernel⟩
abbrev s_hull : Stmt := topS 3
abbrev n_hull : List Str := ["rectangles", "left", "top", "right", "lower", "box"]
abbrev p_hull : List Str := ["rectangles"]
theorem sc_hull : FnScope n_hull p_hull (defScope s_hull) := ⟨rfl, rfl, rfl, by decide +kernel, rfl, by decide +kernel, by decide +kernel⟩
abbrev s_glyph_width : Stmt := topS 10
abbrev n_glyph_width : List Str := ["character"]
abbrev p_glyph_width : List Str := ["character"]
theorem sc_glyph_width : FnScope n_glyph_width p_glyph_width (defScope s_glyph_width) := ⟨rfl, rfl, rfl, by decide +kernel, rfl, by decide +kernel, by decide +kernel⟩
abbrev s_text_width : Stmt := topS 11
abbrev n_text_width : List Str := ["text", "character"]
abbrev p_text_width : List Str := ["text"]
theorem sc_text_width : FnScope n_text_width p_text_width (defScope s_text_width) := ⟨rfl, rfl, rfl, by decide +kernel, rfl, by decide +kernel, by decide +kernel⟩
abbrev s_inked : Stmt := topS 12
abbrev n_inked : List Str := ["text", "x", "y", "left", "character", "width"]
abbrev p_inked : List Str := ["text", "x", "y"]
theorem sc_inked : FnScope n_inked p_inked (defScope s_inked) := ⟨rfl, rfl, rfl, by decide +kernel, rfl, by decide +kernel, by decide +kernel⟩
abbrev s_around : Stmt := topS 14
abbrev n_around : List Str := ["shape", "points", "text", "columns", "rows", "left", "top", "x", "y", "radius", "width"]
abbrev p_around : List Str := ["shape", "points", "text"]
theorem sc_around : FnScope n_around p_around (defScope s_around) := ⟨rfl, rfl, rfl, by decide +kernel, rfl, by decide +kernel, by decide +kernel⟩
abbrev s_line_covers : Stmt := topS 15
abbrev n_line_covers : List Str := ["ends", "x", "y", "x1", "y1", "x2", "y2", "apart"]
abbrev p_line_covers : List Str := ["ends", "x", "y"]
theorem sc_line_covers : FnScope n_line_covers p_line_covers (defScope s_line_covers) := ⟨rfl, rfl, rfl, by decide +kernel, rfl, by decide +kernel, by decide +kernel⟩
abbrev s_polyline_covers : Stmt := topS 16
abbrev n_polyline_covers : List Str := ["points", "x", "y", "k"]
abbrev p_polyline_covers : List Str := ["points", "x", "y"]
theorem sc_polyline_covers : FnScope n_polyline_covers p_polyline_covers (defScope s_polyline_covers) := ⟨rfl, rfl, rfl, by decide +kernel, rfl, by decide +kernel, by decide +kernel⟩
abbrev s_covers : Stmt := topS 17
abbrev n_covers : List Str := ["shape", "points", "text", "x", "y", "across", "along", "box"]
abbrev p_covers : List Str := ["shape", "points", "text", "x", "y"]
theorem sc_covers : FnScope n_covers p_covers (defScope s_covers) := ⟨rfl, rfl, rfl, by decide +kernel, rfl, by decide +kernel, by decide +kernel⟩
abbrev s_identity : Stmt := topS 19
abbrev n_identity : List Str := ["primitive"]
abbrev p_identity : List Str := ["primitive"]
theorem sc_identity : FnScope n_identity p_identity (defScope s_identity) := ⟨rfl, rfl, rfl, by decide +kernel, rfl, by decide +kernel, by decide +kernel⟩
abbrev s_page_of : Stmt := topS 20
abbrev n_page_of : List Str := ["scene"]
abbrev p_page_of : List Str := ["scene"]
theorem sc_page_of : FnScope n_page_of p_page_of (defScope s_page_of) := ⟨rfl, rfl, rfl, by decide +kernel, rfl, by decide +kernel, by decide +kernel⟩
abbrev s_reach : Stmt := topS 21
abbrev n_reach : List Str := ["primitive", "whole"]
abbrev p_reach : List Str := ["primitive"]
theorem sc_reach : FnScope n_reach p_reach (defScope s_reach) := ⟨rfl, rfl, rfl, by decide +kernel, rfl, by decide +kernel, by decide +kernel⟩
abbrev s_visible_part : Stmt := topS 22
abbrev n_visible_part : List Str := ["scene", "primitive", "box"]
abbrev p_visible_part : List Str := ["scene", "primitive"]
theorem sc_visible_part : FnScope n_visible_part p_visible_part (defScope s_visible_part) := ⟨rfl, rfl, rfl, by decide +kernel, rfl, by decide +kernel, by decide +kernel⟩
abbrev s_paint_of : Stmt := topS 23
abbrev n_paint_of : List Str := ["primitive", "x", "y", "color"]
abbrev p_paint_of : List Str := ["primitive", "x", "y"]
theorem sc_paint_of : FnScope n_paint_of p_paint_of (defScope s_paint_of) := ⟨rfl, rfl, rfl, by decide +kernel, rfl, by decide +kernel, by decide +kernel⟩
abbrev s_hits : Stmt := topS 26
abbrev n_hits : List Str := ["scene", "x", "y", "item"]
abbrev p_hits : List Str := ["scene", "x", "y"]
theorem sc_hits : FnScope n_hits p_hits (defScope s_hits) := ⟨rfl, rfl, rfl, by decide +kernel, rfl, by decide +kernel, by decide +kernel⟩
abbrev s_color_at : Stmt := topS 27
abbrev n_color_at : List Str := ["scene", "x", "y", "item", "color"]
abbrev p_color_at : List Str := ["scene", "x", "y"]
theorem sc_color_at : FnScope n_color_at p_color_at (defScope s_color_at) := ⟨rfl, rfl, rfl, by decide +kernel, rfl, by decide +kernel, by decide +kernel⟩
abbrev s_merged_order : Stmt := topS 29
abbrev n_merged_order : List Str := ["scene", "patch", "gone", "known", "new", "name", "primitive"]
abbrev p_merged_order : List Str := ["scene", "patch"]
theorem sc_merged_order : FnScope n_merged_order p_merged_order (defScope s_merged_order) := ⟨rfl, rfl, rfl, by decide +kernel, rfl, by decide +kernel, by decide +kernel⟩
abbrev s_touched : Stmt := topS 30
abbrev n_touched : List Str := ["patch", "primitive"]
abbrev p_touched : List Str := ["patch"]
theorem sc_touched : FnScope n_touched p_touched (defScope s_touched) := ⟨rfl, rfl, rfl, by decide +kernel, rfl, by decide +kernel, by decide +kernel⟩
abbrev s_by_identity : Stmt := topS 32
abbrev n_by_identity : List Str := ["scene", "primitive"]
abbrev p_by_identity : List Str := ["scene"]
theorem sc_by_identity : FnScope n_by_identity p_by_identity (defScope s_by_identity) := ⟨rfl, rfl, rfl, by decide +kernel, rfl, by decide +kernel, by decide +kernel⟩
abbrev s_kept_names : Stmt := topS 33
abbrev n_kept_names : List Str := ["first", "second", "other", "primitive"]
abbrev p_kept_names : List Str := ["first", "second"]
theorem sc_kept_names : FnScope n_kept_names p_kept_names (defScope s_kept_names) := ⟨rfl, rfl, rfl, by decide +kernel, rfl, by decide +kernel, by decide +kernel⟩
abbrev s_moved : Stmt := topS 34
abbrev n_moved : List Str := ["first", "second", "before", "after", "places", "k"]
abbrev p_moved : List Str := ["first", "second"]
theorem sc_moved : FnScope n_moved p_moved (defScope s_moved) := ⟨rfl, rfl, rfl, by decide +kernel, rfl, by decide +kernel, by decide +kernel⟩
abbrev s_damage : Stmt := topS 35
abbrev n_damage : List Str := ["first", "second", "still", "name", "parts", "scene", "primitive", "box", "boxes"]
abbrev p_damage : List Str := ["first", "second"]
theorem sc_damage : FnScope n_damage p_damage (defScope s_damage) := ⟨rfl, rfl, rfl, by decide +kernel, rfl, by decide +kernel, by decide +kernel⟩
abbrev s_diff : Stmt := topS 36
abbrev n_diff : List Str := ["first", "second", "old", "new", "removed", "put", "order", "whole", "name", "primitive"]
abbrev p_diff : List Str := ["first", "second"]
theorem sc_diff : FnScope n_diff p_diff (defScope s_diff) := ⟨rfl, rfl, rfl, by decide +kernel, rfl, by decide +kernel, by decide +kernel⟩
abbrev s_l_tape : Stmt := topS 38
abbrev n_l_tape : List Str := ["_law_script", "_law_total", "_law_cell"]
abbrev p_l_tape : List Str := ["_law_script"]
theorem sc_l_tape : FnScope n_l_tape p_l_tape (defScope s_l_tape) := ⟨rfl, rfl, rfl, by decide +kernel, rfl, by decide +kernel, by decide +kernel⟩
abbrev s_l_draw : Stmt := topS 39
abbrev n_l_draw : List Str := ["_law_tape_here", "_law_many", "_law_place", "_law_number"]
abbrev p_l_draw : List Str := ["_law_tape_here", "_law_many"]
theorem sc_l_draw : FnScope n_l_draw p_l_draw (defScope s_l_draw) := ⟨rfl, rfl, rfl, by decide +kernel, rfl, by decide +kernel, by decide +kernel⟩
abbrev s_l_holds : Stmt := topS 40
abbrev n_l_holds : List Str := ["_law_one", "_law_x", "_law_y"]
abbrev p_l_holds : List Str := ["_law_one", "_law_x", "_law_y"]
theorem sc_l_holds : FnScope n_l_holds p_l_holds (defScope s_l_holds) := ⟨rfl, rfl, rfl, by decide +kernel, rfl, by decide +kernel, by decide +kernel⟩
abbrev s_l_sign_width : Stmt := topS 41
abbrev n_l_sign_width : List Str := ["_law_sign"]
abbrev p_l_sign_width : List Str := ["_law_sign"]
theorem sc_l_sign_width : FnScope n_l_sign_width p_l_sign_width (defScope s_l_sign_width) := ⟨rfl, rfl, rfl, by decide +kernel, rfl, by decide +kernel, by decide +kernel⟩
abbrev s_l_width : Stmt := topS 42
abbrev n_l_width : List Str := ["_law_text", "_law_total", "_law_sign"]
abbrev p_l_width : List Str := ["_law_text"]
theorem sc_l_width : FnScope n_l_width p_l_width (defScope s_l_width) := ⟨rfl, rfl, rfl, by decide +kernel, rfl, by decide +kernel, by decide +kernel⟩
abbrev s_l_inked : Stmt := topS 43
abbrev n_l_inked : List Str := ["_law_text", "_law_x", "_law_y", "_law_left", "_law_sign", "_law_width_here"]
abbrev p_l_inked : List Str := ["_law_text", "_law_x", "_law_y"]
theorem sc_l_inked : FnScope n_l_inked p_l_inked (defScope s_l_inked) := ⟨rfl, rfl, rfl, by decide +kernel, rfl, by decide +kernel, by decide +kernel⟩
abbrev s_l_around : Stmt := topS 44
abbrev n_l_around : List Str := ["_law_shape", "_law_points", "_law_text", "_law_size", "_law_across", "_law_down", "_law_width_here", "_law_left", "_law_k"]
abbrev p_l_around : List Str := ["_law_shape", "_law_points", "_law_text"]
theorem sc_l_around : FnScope n_l_around p_l_around (defScope s_l_around) := ⟨rfl, rfl, rfl, by decide +kernel, rfl, by decide +kernel, by decide +kernel⟩
abbrev s_l_on_line : Stmt := topS 45
abbrev n_l_on_line : List Str := ["_law_ends", "_law_x", "_law_y", "_law_wide", "_law_high"]
abbrev p_l_on_line : List Str := ["_law_ends", "_law_x", "_law_y"]
theorem sc_l_on_line : FnScope n_l_on_line p_l_on_line (defScope s_l_on_line) := ⟨rfl, rfl, rfl, by decide +kernel, rfl, by decide +kernel, by decide +kernel⟩
abbrev s_l_covers : Stmt := topS 46
abbrev n_l_covers : List Str := ["_law_shape", "_law_points", "_law_text", "_law_x", "_law_y", "_law_last", "_law_k", "_law_end", "_law_rectangle"]
abbrev p_l_covers : List Str := ["_law_shape", "_law_points", "_law_text", "_law_x", "_law_y"]
theorem sc_l_covers : FnScope n_l_covers p_l_covers (defScope s_l_covers) := ⟨rfl, rfl, rfl, by decide +kernel, rfl, by decide +kernel, by decide +kernel⟩
abbrev s_l_paint : Stmt := topS 47
abbrev n_l_paint : List Str := ["_law_item", "_law_x", "_law_y", "_law_color_here"]
abbrev p_l_paint : List Str := ["_law_item", "_law_x", "_law_y"]
theorem sc_l_paint : FnScope n_l_paint p_l_paint (defScope s_l_paint) := ⟨rfl, rfl, rfl, by decide +kernel, rfl, by decide +kernel, by decide +kernel⟩
abbrev s_l_word : Stmt := topS 48
abbrev n_l_word : List Str := ["_law_tape_here", "_law_signs", "_law_word_here", "_law_k"]
abbrev p_l_word : List Str := ["_law_tape_here"]
theorem sc_l_word : FnScope n_l_word p_l_word (defScope s_l_word) := ⟨rfl, rfl, rfl, by decide +kernel, rfl, by decide +kernel, by decide +kernel⟩
abbrev s_l_color : Stmt := topS 49
abbrev n_l_color : List Str := ["_law_tape_here", "_law_number", "_law_digits", "_law_k"]
abbrev p_l_color : List Str := ["_law_tape_here"]
theorem sc_l_color : FnScope n_l_color p_l_color (defScope s_l_color) := ⟨rfl, rfl, rfl, by decide +kernel, rfl, by decide +kernel, by decide +kernel⟩
abbrev s_l_form : Stmt := topS 50
abbrev n_l_form : List Str := ["_law_tape_here", "_law_room", "_law_x", "_law_y", "_law_kind", "_law_points", "_law_k"]
abbrev p_l_form : List Str := ["_law_tape_here", "_law_room"]
theorem sc_l_form : FnScope n_l_form p_l_form (defScope s_l_form) := ⟨rfl, rfl, rfl, by decide +kernel, rfl, by decide +kernel, by decide +kernel⟩
abbrev s_l_clip : Stmt := topS 51
abbrev n_l_clip : List Str := ["_law_tape_here", "_law_room"]
abbrev p_l_clip : List Str := ["_law_tape_here", "_law_room"]
theorem sc_l_clip : FnScope n_l_clip p_l_clip (defScope s_l_clip) := ⟨rfl, rfl, rfl, by decide +kernel, rfl, by decide +kernel, by decide +kernel⟩
abbrev s_l_identity : Stmt := topS 52
abbrev n_l_identity : List Str := ["_law_tape_here", "_law_plot", "_law_role", "_law_key"]
abbrev p_l_identity : List Str := ["_law_tape_here"]
theorem sc_l_identity : FnScope n_l_identity p_l_identity (defScope s_l_identity) := ⟨rfl, rfl, rfl, by decide +kernel, rfl, by decide +kernel, by decide +kernel⟩
abbrev s_l_new_identity : Stmt := topS 53
abbrev n_l_new_identity : List Str := ["_law_tape_here", "_law_taken", "_law_one"]
abbrev p_l_new_identity : List Str := ["_law_tape_here", "_law_taken"]
theorem sc_l_new_identity : FnScope n_l_new_identity p_l_new_identity (defScope s_l_new_identity) := ⟨rfl, rfl, rfl, by decide +kernel, rfl, by decide +kernel, by decide +kernel⟩
abbrev s_l_primitive : Stmt := topS 54
abbrev n_l_primitive : List Str := ["_law_tape_here", "_law_who", "_law_room", "_law_form_here", "_law_fill", "_law_stroke"]
abbrev p_l_primitive : List Str := ["_law_tape_here", "_law_who", "_law_room"]
theorem sc_l_primitive : FnScope n_l_primitive p_l_primitive (defScope s_l_primitive) := ⟨rfl, rfl, rfl, by decide +kernel, rfl, by decide +kernel, by decide +kernel⟩
abbrev s_l_identities : Stmt := topS 55
abbrev n_l_identities : List Str := ["_law_items", "_law_item"]
abbrev p_l_identities : List Str := ["_law_items"]
theorem sc_l_identities : FnScope n_l_identities p_l_identities (defScope s_l_identities) := ⟨rfl, rfl, rfl, by decide +kernel, rfl, by decide +kernel, by decide +kernel⟩
abbrev s_l_scene : Stmt := topS 56
abbrev n_l_scene : List Str := ["_law_tape_here", "_law_width_here", "_law_height", "_law_room", "_law_many", "_law_items", "_law_k"]
abbrev p_l_scene : List Str := ["_law_tape_here", "_law_width_here", "_law_height", "_law_room", "_law_many"]
theorem sc_l_scene : FnScope n_l_scene p_l_scene (defScope s_l_scene) := ⟨rfl, rfl, rfl, by decide +kernel, rfl, by decide +kernel, by decide +kernel⟩
abbrev s_l_changed_item : Stmt := topS 57
abbrev n_l_changed_item : List Str := ["_law_tape_here", "_law_item", "_law_room", "_law_part", "_law_at"]
abbrev p_l_changed_item : List Str := ["_law_tape_here", "_law_item", "_law_room"]
theorem sc_l_changed_item : FnScope n_l_changed_item p_l_changed_item (defScope s_l_changed_item) := ⟨rfl, rfl, rfl, by decide +kernel, rfl, by decide +kernel, by decide +kernel⟩
abbrev s_l_turned_items : Stmt := topS 58
abbrev n_l_turned_items : List Str := ["_law_tape_here", "_law_items", "_law_turn", "_law_one"]
abbrev p_l_turned_items : List Str := ["_law_tape_here", "_law_items"]
theorem sc_l_turned_items : FnScope n_l_turned_items p_l_turned_items (defScope s_l_turned_items) := ⟨rfl, rfl, rfl, by decide +kernel, rfl, by decide +kernel, by decide +kernel⟩
abbrev s_l_next_scene : Stmt := topS 59
abbrev n_l_next_scene : List Str := ["_law_tape_here", "_law_scene_here", "_law_room", "_law_items", "_law_item", "_law_fate", "_law_k", "_law_one", "_law_size"]
abbrev p_l_next_scene : List Str := ["_law_tape_here", "_law_scene_here", "_law_room"]
theorem sc_l_next_scene : FnScope n_l_next_scene p_l_next_scene (defScope s_l_next_scene) := ⟨rfl, rfl, rfl, by decide +kernel, rfl, by decide +kernel, by decide +kernel⟩
abbrev s_l_hits : Stmt := topS 60
abbrev n_l_hits : List Str := ["_law_scene_here", "_law_x", "_law_y", "_law_found", "_law_item"]
abbrev p_l_hits : List Str := ["_law_scene_here", "_law_x", "_law_y"]
theorem sc_l_hits : FnScope n_l_hits p_l_hits (defScope s_l_hits) := ⟨rfl, rfl, rfl, by decide +kernel, rfl, by decide +kernel, by decide +kernel⟩
abbrev s_l_law : Stmt := topS 61
abbrev n_l_law : List Str := ["_law_script", "_law_tape_here", "_law_width_here", "_law_height", "_law_first", "_law_second", "_law_patch", "_law_names", "_law_y", "_law_x", "_law_found", "_law_one"]
abbrev p_l_law : List Str := ["_law_script"]
theorem sc_l_law : FnScope n_l_law p_l_law (defScope s_l_law) := ⟨rfl, rfl, rfl, by decide +kernel, rfl, by decide +kernel, by decide +kernel⟩
/-- a def of the text as it stands behind the top -/
structure DefOk (K : PySem.W.Frag) (mg : Str → Option Value) (x : Str) (st : Stmt) : Prop where
  fn : Fun K x x st (He.ga K x) (fdOf K (He.ga K x))
  mg : mg x = some (.ref (He.ga K x))
structure Txt (K : PySem.W.Frag) (mg : Str → Option Value) : Prop where
  contains : DefOk K mg "contains" s_contains
  common : DefOk K mg "common" s_common
  hull : DefOk K mg "hull" s_hull
  glyph_width : DefOk K mg "glyph_width" s_glyph_width
  text_width : DefOk K mg "text_width" s_text_width
  inked : DefOk K mg "inked" s_inked
  around : DefOk K mg "around" s_around
  line_covers : DefOk K mg "line_covers" s_line_covers
  polyline_covers : DefOk K mg "polyline_covers" s_polyline_covers
  covers : DefOk K mg "covers" s_covers
  identity : DefOk K mg "identity" s_identity
  page_of : DefOk K mg "page_of" s_page_of
  reach : DefOk K mg "reach" s_reach
  visible_part : DefOk K mg "visible_part" s_visible_part
  paint_of : DefOk K mg "paint_of" s_paint_of
  hits : DefOk K mg "hits" s_hits
  color_at : DefOk K mg "color_at" s_color_at
  merged_order : DefOk K mg "merged_order" s_merged_order
  touched : DefOk K mg "touched" s_touched
  by_identity : DefOk K mg "by_identity" s_by_identity
  kept_names : DefOk K mg "kept_names" s_kept_names
  moved : DefOk K mg "moved" s_moved
  damage : DefOk K mg "damage" s_damage
  diff : DefOk K mg "diff" s_diff
  l_tape : DefOk K mg "_law_tape" s_l_tape
  l_draw : DefOk K mg "_law_draw" s_l_draw
  l_holds : DefOk K mg "_law_holds" s_l_holds
  l_sign_width : DefOk K mg "_law_sign_width" s_l_sign_width
  l_width : DefOk K mg "_law_width" s_l_width
  l_inked : DefOk K mg "_law_inked" s_l_inked
  l_around : DefOk K mg "_law_around" s_l_around
  l_on_line : DefOk K mg "_law_on_line" s_l_on_line
  l_covers : DefOk K mg "_law_covers" s_l_covers
  l_paint : DefOk K mg "_law_paint" s_l_paint
  l_word : DefOk K mg "_law_word" s_l_word
  l_color : DefOk K mg "_law_color" s_l_color
  l_form : DefOk K mg "_law_form" s_l_form
  l_clip : DefOk K mg "_law_clip" s_l_clip
  l_identity : DefOk K mg "_law_identity" s_l_identity
  l_new_identity : DefOk K mg "_law_new_identity" s_l_new_identity
  l_primitive : DefOk K mg "_law_primitive" s_l_primitive
  l_identities : DefOk K mg "_law_identities" s_l_identities
  l_scene : DefOk K mg "_law_scene" s_l_scene
  l_changed_item : DefOk K mg "_law_changed_item" s_l_changed_item
  l_turned_items : DefOk K mg "_law_turned_items" s_l_turned_items
  l_next_scene : DefOk K mg "_law_next_scene" s_l_next_scene
  l_hits : DefOk K mg "_law_hits" s_l_hits
  l_law : DefOk K mg "law" s_l_law
  c_HEIGHT : ∃ t, mg "HEIGHT" = some (.int 7 t)
  c_ONE : ∃ t, mg "ONE" = some (.str "!'.:i|" t)
  c_TWO : ∃ t, mg "TWO" = some (.str "(),;[]`jl" t)
  c_THREE : ∃ t, mg "THREE" = some (.str " \"*-/1<>I\\^frt{}" t)
  c_FOUR : ∃ t, mg "FOUR" = some (.str "$023456789=?J_abcdeghknopqsuvxyz" t)
  c_WHITE : ∃ t, mg "WHITE" = some (.str "#ffffff" t)
  b_max : mg "max" = none
  b_min : mg "min" = none
  b_abs : mg "abs" = none
  b_len : mg "len" = none
  b_sum : mg "sum" = none
  b_int : mg "int" = none
  b_str : mg "str" = none
  b_list : mg "list" = none
  b_tuple : mg "tuple" = none
  b_range : mg "range" = none
  b_reversed : mg "reversed" = none
  b_repr : mg "repr" = none
section
variable {K : PySem.W.Frag} {mg : Str → Option Value}
theorem bd_contains (T : Txt K mg) : Binds K (fdOf K (He.ga K "contains")) p_contains [] := T.contains.fn.binds fun _ _ _ _ _ _ us hl => match us, hl with | [_, _, _], _ => rfl
theorem bd_common (T : Txt K mg) : Binds K (fdOf K (He.ga K "common")) p_common [] := T.common.fn.binds fun _ _ _ _ _ _ us hl => match us, hl with | [_, _], _ => rfl
theorem bd_hull (T : Txt K mg) : Binds K (fdOf K (He.ga K "hull")) p_hull [] := T.hull.fn.binds fun _ _ _ _ _ _ us hl => match us, hl with | [_], _ => rfl
theorem bd_glyph_width (T : Txt K mg) : Binds K (fdOf K (He.ga K "glyph_width")) p_glyph_width [] := T.glyph_width.fn.binds fun _ _ _ _ _ _ us hl => match us, hl with | [_], _ => rfl
theorem bd_text_width (T : Txt K mg) : Binds K (fdOf K (He.ga K "text_width")) p_text_width [] := T.text_width.fn.binds fun _ _ _ _ _ _ us hl => match us, hl with | [_], _ => rfl
theorem bd_inked (T : Txt K mg) : Binds K (fdOf K (He.ga K "inked")) p_inked [] := T.inked.fn.binds fun _ _ _ _ _ _ us hl => match us, hl with | [_, _, _], _ => rfl
theorem bd_around (T : Txt K mg) : Binds K (fdOf K (He.ga K "around")) p_around [] := T.around.fn.binds fun _ _ _ _ _ _ us hl => match us, hl with | [_, _, _], _ => rfl
theorem bd_line_covers (T : Txt K mg) : Binds K (fdOf K (He.ga K "line_covers")) p_line_covers [] := T.line_covers.fn.binds fun _ _ _ _ _ _ us hl => match us, hl with | [_, _, _], _ => rfl
theorem bd_polyline_covers (T : Txt K mg) : Binds K (fdOf K (He.ga K "polyline_covers")) p_polyline_covers [] := T.polyline_covers.fn.binds fun _ _ _ _ _ _ us hl => match us, hl with | [_, _, _], _ => rfl
theorem bd_covers (T : Txt K mg) : Binds K (fdOf K (He.ga K "covers")) p_covers [] := T.covers.fn.binds fun _ _ _ _ _ _ us hl => match us, hl with | [_, _, _, _, _], _ => rfl
theorem bd_identity (T : Txt K mg) : Binds K (fdOf K (He.ga K "identity")) p_identity [] := T.identity.fn.binds fun _ _ _ _ _ _ us hl => match us, hl with | [_], _ => rfl
theorem bd_page_of (T : Txt K mg) : Binds K (fdOf K (He.ga K "page_of")) p_page_of [] := T.page_of.fn.binds fun _ _ _ _ _ _ us hl => match us, hl with | [_], _ => rfl
theorem bd_reach (T : Txt K mg) : Binds K (fdOf K (He.ga K "reach")) p_reach [] := T.reach.fn.binds fun _ _ _ _ _ _ us hl => match us, hl with | [_], _ => rfl
theorem bd_visible_part (T : Txt K mg) : Binds K (fdOf K (He.ga K "visible_part")) p_visible_part [] := T.visible_part.fn.binds fun _ _ _ _ _ _ us hl => match us, hl with | [_, _], _ => rfl
theorem bd_paint_of (T : Txt K mg) : Binds K (fdOf K (He.ga K "paint_of")) p_paint_of [] := T.paint_of.fn.binds fun _ _ _ _ _ _ us hl => match us, hl with | [_, _, _], _ => rfl
theorem bd_hits (T : Txt K mg) : Binds K (fdOf K (He.ga K "hits")) p_hits [] := T.hits.fn.binds fun _ _ _ _ _ _ us hl => match us, hl with | [_, _, _], _ => rfl
theorem bd_color_at (T : Txt K mg) : Binds K (fdOf K (He.ga K "color_at")) p_color_at [] := T.color_at.fn.binds fun _ _ _ _ _ _ us hl => match us, hl with | [_, _, _], _ => rfl
theorem bd_merged_order (T : Txt K mg) : Binds K (fdOf K (He.ga K "merged_order")) p_merged_order [] := T.merged_order.fn.binds fun _ _ _ _ _ _ us hl => match us, hl with | [_, _], _ => rfl
theorem bd_touched (T : Txt K mg) : Binds K (fdOf K (He.ga K "touched")) p_touched [] := T.touched.fn.binds fun _ _ _ _ _ _ us hl => match us, hl with | [_], _ => rfl
theorem bd_by_identity (T : Txt K mg) : Binds K (fdOf K (He.ga K "by_identity")) p_by_identity [] := T.by_identity.fn.binds fun _ _ _ _ _ _ us hl => match us, hl with | [_], _ => rfl
theorem bd_kept_names (T : Txt K mg) : Binds K (fdOf K (He.ga K "kept_names")) p_kept_names [] := T.kept_names.fn.binds fun _ _ _ _ _ _ us hl => match us, hl with | [_, _], _ => rfl
theorem bd_moved (T : Txt K mg) : Binds K (fdOf K (He.ga K "moved")) p_moved [] := T.moved.fn.binds fun _ _ _ _ _ _ us hl => match us, hl with | [_, _], _ => rfl
theorem bd_damage (T : Txt K mg) : Binds K (fdOf K (He.ga K "damage")) p_damage [] := T.damage.fn.binds fun _ _ _ _ _ _ us hl => match us, hl with | [_, _], _ => rfl
theorem bd_diff (T : Txt K mg) : Binds K (fdOf K (He.ga K "diff")) p_diff [] := T.diff.fn.binds fun _ _ _ _ _ _ us hl => match us, hl with | [_, _], _ => rfl
theorem bd_l_tape (T : Txt K mg) : Binds K (fdOf K (He.ga K "_law_tape")) p_l_tape [] := T.l_tape.fn.binds fun _ _ _ _ _ _ us hl => match us, hl with | [_], _ => rfl
theorem bd_l_draw (T : Txt K mg) : Binds K (fdOf K (He.ga K "_law_draw")) p_l_draw [] := T.l_draw.fn.binds fun _ _ _ _ _ _ us hl => match us, hl with | [_, _], _ => rfl
theorem bd_l_holds (T : Txt K mg) : Binds K (fdOf K (He.ga K "_law_holds")) p_l_holds [] := T.l_holds.fn.binds fun _ _ _ _ _ _ us hl => match us, hl with | [_, _, _], _ => rfl
theorem bd_l_sign_width (T : Txt K mg) : Binds K (fdOf K (He.ga K "_law_sign_width")) p_l_sign_width [] := T.l_sign_width.fn.binds fun _ _ _ _ _ _ us hl => match us, hl with | [_], _ => rfl
theorem bd_l_width (T : Txt K mg) : Binds K (fdOf K (He.ga K "_law_width")) p_l_width [] := T.l_width.fn.binds fun _ _ _ _ _ _ us hl => match us, hl with | [_], _ => rfl
theorem bd_l_inked (T : Txt K mg) : Binds K (fdOf K (He.ga K "_law_inked")) p_l_inked [] := T.l_inked.fn.binds fun _ _ _ _ _ _ us hl => match us, hl with | [_, _, _], _ => rfl
theorem bd_l_around (T : Txt K mg) : Binds K (fdOf K (He.ga K "_law_around")) p_l_around [] := T.l_around.fn.binds fun _ _ _ _ _ _ us hl => match us, hl with | [_, _, _], _ => rfl
theorem bd_l_on_line (T : Txt K mg) : Binds K (fdOf K (He.ga K "_law_on_line")) p_l_on_line [] := T.l_on_line.fn.binds fun _ _ _ _ _ _ us hl => match us, hl with | [_, _, _], _ => rfl
theorem bd_l_covers (T : Txt K mg) : Binds K (fdOf K (He.ga K "_law_covers")) p_l_covers [] := T.l_covers.fn.binds fun _ _ _ _ _ _ us hl => match us, hl with | [_, _, _, _, _], _ => rfl
theorem bd_l_paint (T : Txt K mg) : Binds K (fdOf K (He.ga K "_law_paint")) p_l_paint [] := T.l_paint.fn.binds fun _ _ _ _ _ _ us hl => match us, hl with | [_, _, _], _ => rfl
theorem bd_l_word (T : Txt K mg) : Binds K (fdOf K (He.ga K "_law_word")) p_l_word [] := T.l_word.fn.binds fun _ _ _ _ _ _ us hl => match us, hl with | [_], _ => rfl
theorem bd_l_color (T : Txt K mg) : Binds K (fdOf K (He.ga K "_law_color")) p_l_color [] := T.l_color.fn.binds fun _ _ _ _ _ _ us hl => match us, hl with | [_], _ => rfl
theorem bd_l_form (T : Txt K mg) : Binds K (fdOf K (He.ga K "_law_form")) p_l_form [] := T.l_form.fn.binds fun _ _ _ _ _ _ us hl => match us, hl with | [_, _], _ => rfl
theorem bd_l_clip (T : Txt K mg) : Binds K (fdOf K (He.ga K "_law_clip")) p_l_clip [] := T.l_clip.fn.binds fun _ _ _ _ _ _ us hl => match us, hl with | [_, _], _ => rfl
theorem bd_l_identity (T : Txt K mg) : Binds K (fdOf K (He.ga K "_law_identity")) p_l_identity [] := T.l_identity.fn.binds fun _ _ _ _ _ _ us hl => match us, hl with | [_], _ => rfl
theorem bd_l_new_identity (T : Txt K mg) : Binds K (fdOf K (He.ga K "_law_new_identity")) p_l_new_identity [] := T.l_new_identity.fn.binds fun _ _ _ _ _ _ us hl => match us, hl with | [_, _], _ => rfl
theorem bd_l_primitive (T : Txt K mg) : Binds K (fdOf K (He.ga K "_law_primitive")) p_l_primitive [] := T.l_primitive.fn.binds fun _ _ _ _ _ _ us hl => match us, hl with | [_, _, _], _ => rfl
theorem bd_l_identities (T : Txt K mg) : Binds K (fdOf K (He.ga K "_law_identities")) p_l_identities [] := T.l_identities.fn.binds fun _ _ _ _ _ _ us hl => match us, hl with | [_], _ => rfl
theorem bd_l_scene (T : Txt K mg) : Binds K (fdOf K (He.ga K "_law_scene")) p_l_scene [] := T.l_scene.fn.binds fun _ _ _ _ _ _ us hl => match us, hl with | [_, _, _, _, _], _ => rfl
theorem bd_l_changed_item (T : Txt K mg) : Binds K (fdOf K (He.ga K "_law_changed_item")) p_l_changed_item [] := T.l_changed_item.fn.binds fun _ _ _ _ _ _ us hl => match us, hl with | [_, _, _], _ => rfl
theorem bd_l_turned_items (T : Txt K mg) : Binds K (fdOf K (He.ga K "_law_turned_items")) p_l_turned_items [] := T.l_turned_items.fn.binds fun _ _ _ _ _ _ us hl => match us, hl with | [_, _], _ => rfl
theorem bd_l_next_scene (T : Txt K mg) : Binds K (fdOf K (He.ga K "_law_next_scene")) p_l_next_scene [] := T.l_next_scene.fn.binds fun _ _ _ _ _ _ us hl => match us, hl with | [_, _, _], _ => rfl
theorem bd_l_hits (T : Txt K mg) : Binds K (fdOf K (He.ga K "_law_hits")) p_l_hits [] := T.l_hits.fn.binds fun _ _ _ _ _ _ us hl => match us, hl with | [_, _, _], _ => rfl
theorem bd_l_law (T : Txt K mg) : Binds K (fdOf K (He.ga K "law")) p_l_law [] := T.l_law.fn.binds fun _ _ _ _ _ _ us hl => match us, hl with | [_], _ => rfl
end
end Cs

namespace Cs
open PySem PySem.Spec PyProof.Rows L2

/-! ### what may happen to the heap -/
abbrev Rl := Hp → Hp → Prop
class Rel (R : Rl) : Prop where
  refl : ∀ H, R H H
  trans : ∀ {H1 H2 H3 : Hp}, R H1 H2 → R H2 H3 → R H1 H3
  new : ∀ {H : Hp} {p : Addr} {o : HO}, H p = none → R H (upd H p o)
  tup : ∀ {H H' : Hp} {a : Addr} {xs : List V}, R H H' → H a = some (.tup xs) → H' a = some (.tup xs)
  back : ∀ {H H' : Hp} {p : Addr}, R H H' → H' p = none → H p = none
  upds : ∀ {H H' : Hp} {p : Addr} {o : HO}, R H H' → H p = none → R H (upd H' p o)
theorem same_mut {H H' : Hp} {p : Addr} {o : HO} (e : Same H H') (h : H p = none) : Same H (upd H' p o) := fun a u ha => by
  rw [upd_ne (ne_of_none ha h)]
  exact e a u ha
theorem same_new {H : Hp} {p : Addr} {o : HO} (h : H p = none) : Same H (upd H p o) := fun a u e => by
  rw [upd_ne (ne_of_none e h)]
  exact e
instance : Rel Same where
  refl := Same.refl
  trans := Same.trans
  new := same_new
  tup := fun r h => r _ _ h
  back := fun r h => Same.free r h
  upds := same_mut
/-- the tuples stay -/
def KT (H H' : Hp) : Prop := ∀ a xs, H a = some (.tup xs) → H' a = some (.tup xs)
theorem kt_of {R : Rl} [Rel R] {H H' : Hp} (e : R H H') : KT H H' := fun _ _ h => Rel.tup e h
theorem kt_upd {H : Hp} {p : Addr} {xs : List V} {o : HO} (h : H p = some (.lst xs)) : KT H (upd H p o) := fun a ys ha => by
  rw [upd_ne (ne_of ha h (fun z => nomatch z))]
  exact ha
theorem KT.trans {H H1 H2 : Hp} (a : KT H H1) (b : KT H1 H2) : KT H H2 := fun x xs h => b x xs (a x xs h)
section
variable (R : Rl)
/-- an expression gives v; gives something that P tells; a test; arguments; a block (it gives back, or it goes on) -/
def Ev (te : TE) (σ : L2.St) (H : Hp) (v : V) : Prop := ∀ H1, R H H1 → ∀ Q : VK, (∀ H2, R H1 H2 → Q v H2) → te σ H1 Q
def EvP (te : TE) (σ : L2.St) (H : Hp) (P : V → Hp → Prop) : Prop := ∀ H1, R H H1 → ∀ Q : VK, (∀ v H2, R H1 H2 → P v H2 → Q v H2) → te σ H1 Q
def EvT (tt : TT) (σ : L2.St) (H : Hp) (b : Bool) : Prop := ∀ H1, R H H1 → ∀ Q : Bool → Hp → Prop, (∀ H2, R H1 H2 → Q b H2) → tt σ H1 Q
def EvA (ta : TA) (σ : L2.St) (H : Hp) (vs : List V) : Prop := ∀ H1, R H H1 → ∀ Q : List V → Hp → Prop, (∀ H2, R H1 H2 → Q vs H2) → ta σ H1 Q
def EvO (to : TO) (σ : L2.St) (H : Hp) (o : Option Int) : Prop := ∀ H1, R H H1 → ∀ Q : Option Int → Hp → Prop, (∀ H2, R H1 H2 → Q o H2) → to σ H1 Q
def RV (r : R2) (x y : V) (H : Hp) (z : V) : Prop := ∀ H1, R H H1 → ∀ Q : VK, (∀ H2, R H1 H2 → Q z H2) → r x y H1 Q
def RU (r : V → Hp → VK → Prop) (x : V) (H : Hp) (z : V) : Prop := ∀ H1, R H H1 → ∀ Q : VK, (∀ H2, R H1 H2 → Q z H2) → r x H1 Q
def RC (r : List V → Hp → VK → Prop) (vs : List V) (H : Hp) (z : V) : Prop := ∀ H1, R H H1 → ∀ Q : VK, (∀ H2, R H1 H2 → Q z H2) → r vs H1 Q
def EvS (ts : TS) (σ : L2.St) (H : Hp) (φ : V → Hp → Prop) (ψ : L2.St → Hp → Prop) : Prop := ∀ H1, R H H1 → ∀ D : Ends, (∀ v H2, R H1 H2 → φ v H2 → D.rt v H2) → (∀ σ' H2, R H1 H2 → ψ σ' H2 → D.nx σ' H2) → ts D σ H1
end
/-- it never goes on -/
abbrev Out : L2.St → Hp → Prop := fun _ _ => False
/-- a new tuple -/
def NewT (xs : List V) : V → Hp → Prop := fun v H => ∃ p, v = .ref p ∧ H p = some (.tup xs)
def NewL (xs : List V) : V → Hp → Prop := fun v H => ∃ p, v = .ref p ∧ H p = some (.lst xs)

section
variable {R : Rl} [Rel R] {K : PySem.W.Frag} {σ : L2.St} {H H' : Hp} {ta tb tc te : TE} {t u : TT} {x y z v : V} {r r' : R2} {P P' : V → Hp → Prop}
theorem Ev.p (h : Ev R te σ H v) : EvP R te σ H (fun x _ => x = v) := fun H1 e Q q => h H1 e Q fun H2 e2 => q v H2 e2 rfl
theorem Ev.pT {a : Addr} {xs : List V} (h : Ev R te σ H (.ref a)) (ha : H a = some (.tup xs)) : EvP R te σ H (NewT xs) := fun H1 e Q q => h H1 e Q fun H2 e2 => q _ H2 e2 ⟨a, rfl, Rel.tup (Rel.trans e e2) ha⟩
theorem EvP.imp (h : EvP R te σ H P) (k : ∀ v H2, R H H2 → P v H2 → P' v H2) : EvP R te σ H P' := fun H1 e Q q => h H1 e Q fun v H2 e2 p => q v H2 e2 (k v H2 (Rel.trans e e2) p)
theorem Ev.mono (e : R H H') (h : Ev R te σ H v) : Ev R te σ H' v := fun H1 a Q q => h H1 (Rel.trans e a) Q q
theorem EvP.mono (e : R H H') (h : EvP R te σ H P) : EvP R te σ H' P := fun H1 a Q q => h H1 (Rel.trans e a) Q q
theorem ev_var {i : Nat} (h : σ[i]? = some (some v)) : Ev R (tVar i) σ H v := fun H1 _ _ q => ⟨v, h, q H1 (Rel.refl H1)⟩
theorem ev_c : Ev R (tC v) σ H v := fun H1 _ _ q => q H1 (Rel.refl H1)
theorem ev_op (ha : Ev R ta σ H x) (hb : Ev R tb σ H y) (hr : RV R r x y H z) : Ev R (tOp r ta tb) σ H z := fun H1 e Q q =>
  ha H1 e _ fun H2 e2 => hb H2 (Rel.trans e e2) _ fun H3 e3 => hr H3 (Rel.trans (Rel.trans e e2) e3) Q fun H4 e4 => q H4 (Rel.trans (Rel.trans e2 e3) e4)
theorem ev_un {r : V → Hp → VK → Prop} (ha : Ev R ta σ H x) (hr : RU R r x H z) : Ev R (tUn r ta) σ H z := fun H1 e Q q =>
  ha H1 e _ fun H2 e2 => hr H2 (Rel.trans e e2) Q fun H3 e3 => q H3 (Rel.trans e2 e3)
theorem rv_I0 {g : Int → Int → V} {i j : Int} : RV R (rI0 g) (.int i) (.int j) H (g i j) := fun H1 _ _ q => ⟨i, j, rfl, rfl, q H1 (Rel.refl H1)⟩
theorem rv_I {C : Int → Int → Prop} {g : Int → Int → V} {i j : Int} (hc : C i j) : RV R (rI C g) (.int i) (.int j) H (g i j) := fun H1 _ _ q => ⟨i, j, rfl, rfl, hc, q H1 (Rel.refl H1)⟩
theorem ru_neg {i : Int} : RU R (rU fun i => .int (-i)) (.int i) H (.int (-i)) := fun H1 _ _ q => ⟨i, rfl, q H1 (Rel.refl H1)⟩
theorem rv_eq (h : scal x y = true) : RV R rEq x y H (.bl (decide (x = y))) := fun H1 _ _ q => ⟨h, q H1 (Rel.refl H1)⟩
theorem rv_ne (h : scal x y = true) : RV R rNe x y H (.bl (!decide (x = y))) := fun H1 _ _ q => ⟨h, q H1 (Rel.refl H1)⟩
theorem rv_isN : RV R rIsN x .non H (.bl (decide (x = .non))) := fun H1 _ _ q => ⟨rfl, q H1 (Rel.refl H1)⟩
theorem rv_notN : RV R rNotN x .non H (.bl (!decide (x = .non))) := fun H1 _ _ q => ⟨rfl, q H1 (Rel.refl H1)⟩
theorem rv_inS {c : Nat} {w : Str} : RV R rInS (.str ⟨#[c]⟩) (.str w) H (.bl (decide (c ∈ w.cps.toList))) := fun H1 _ _ q => ⟨c, w, rfl, rfl, q H1 (Rel.refl H1)⟩
/-- t[i] -/
theorem rv_ixT {p : Addr} {xs : List V} {i : Int} (h : H p = some (.tup xs)) (ha : atI xs i = some v) : RV R (rIxT K) (.ref p) (.int i) H v := fun H1 e _ q => ⟨p, xs, i, v, rfl, rfl, SqT.of (Rel.tup e h), ha, q H1 (Rel.refl H1)⟩
theorem rv_ixS {w : Str} {i : Int} {c : Nat} (h : w.length ≤ sizeLine) (ha : atI w.cps.toList i = some c) : RV R rIxS (.str w) (.int i) H (.str ⟨#[c]⟩) := fun H1 _ _ q => ⟨w, i, c, rfl, rfl, h, ha, q H1 (Rel.refl H1)⟩
/-- texts glued -/
def rCatS : R2 := fun x y H Q => ∃ i j, x = .str i ∧ y = .str j ∧ i.length + j.length ≤ sizeLine ∧ Q (.str (i ++ j)) H
theorem op_catS {X : Cx} : OpR X (binaryOp .Add) rCatS := op_add_str
theorem rv_catS {i j : Str} (h : i.length + j.length ≤ sizeLine) : RV R rCatS (.str i) (.str j) H (.str (i ++ j)) := fun H1 _ _ q => ⟨i, j, rfl, rfl, h, q H1 (Rel.refl H1)⟩
/-! tests -/
theorem et_test {b : Bool} (h : Ev R te σ H (.bl b)) : EvT R (tTest te) σ H b := fun H1 e _ q => h H1 e _ fun H2 e2 => ⟨b, rfl, q H2 e2⟩
theorem et_B {b : Bool} (h : Ev R te σ H (.bl b)) : EvT R (tB te) σ H b := fun H1 e _ q => h H1 e _ fun H2 e2 => ⟨b, rfl, q H2 e2⟩
theorem et_and {a b : Bool} (h1 : EvT R t σ H a) (h2 : a = true → EvT R u σ H b) : EvT R (tAnd t u) σ H (a && b) := fun H1 e Q q => h1 H1 e _ fun H2 e2 => by
  cases a with
  | true => exact h2 rfl H2 (Rel.trans e e2) Q fun H3 e3 => q H3 (Rel.trans e2 e3)
  | false => exact q H2 e2
theorem et_or {a b : Bool} (h1 : EvT R t σ H a) (h2 : a = false → EvT R u σ H b) : EvT R (tOr t u) σ H (a || b) := fun H1 e Q q => h1 H1 e _ fun H2 e2 => by
  cases a with
  | true => exact q H2 e2
  | false => exact h2 rfl H2 (Rel.trans e e2) Q fun H3 e3 => q H3 (Rel.trans e2 e3)
theorem et_not {a : Bool} (h1 : EvT R t σ H a) : EvT R (tNot t) σ H (!a) := fun H1 e _ q => h1 H1 e _ fun H2 e2 => q H2 e2
theorem et_is {a b : Bool} (h : EvT R t σ H a) (e : a = b) : EvT R t σ H b := e ▸ h
theorem ev_is {w : V} (h : Ev R te σ H v) (e : v = w) : Ev R te σ H w := e ▸ h
theorem ev_andV {a b : Bool} (h1 : Ev R ta σ H (.bl a)) (h2 : a = true → Ev R tb σ H (.bl b)) : Ev R (tAndV ta tb) σ H (.bl (a && b)) := fun H1 e Q q => h1 H1 e _ fun H2 e2 => ⟨a, rfl, by
  cases a with
  | true => exact h2 rfl H2 (Rel.trans e e2) Q fun H3 e3 => q H3 (Rel.trans e2 e3)
  | false => exact q H2 e2⟩
theorem ev_chain {a b : Bool} (h1 : Ev R ta σ H x) (h2 : Ev R tb σ H y) (hr : RV R r x y H (.bl a)) (h3 : a = true → Ev R tc σ H z) (hr' : a = true → RV R r' y z H (.bl b)) : Ev R (tChain r r' ta tb tc) σ H (.bl (a && b)) := fun H1 e Q q =>
  h1 H1 e _ fun H2 e2 => h2 H2 (Rel.trans e e2) _ fun H3 e3 => hr H3 (Rel.trans (Rel.trans e e2) e3) _ fun H4 e4 => ⟨a, rfl, by
    have e14 := Rel.trans (Rel.trans e2 e3) e4
    cases a with
    | true => exact h3 rfl H4 (Rel.trans e e14) _ fun H5 e5 => hr' rfl H5 (Rel.trans (Rel.trans e e14) e5) Q fun H6 e6 => q H6 (Rel.trans (Rel.trans e14 e5) e6)
    | false => exact q H4 e14⟩
/-! arguments -/
theorem ea_nil : EvA R tNil σ H [] := fun H1 _ _ q => q H1 (Rel.refl H1)
theorem ea_cons {tr : TA} {vs : List V} (h : Ev R ta σ H x) (hr : EvA R tr σ H vs) : EvA R (tCons ta tr) σ H (x :: vs) := fun H1 e _ q =>
  h H1 e _ fun H2 e2 => hr H2 (Rel.trans e e2) _ fun H3 e3 => q H3 (Rel.trans e2 e3)
theorem ep_tup {ta : TA} {vs : List V} (h : EvA R ta σ H vs) (hl : vs.length ≤ sizeLine) : EvP R (tTup ta) σ H (NewT vs) := fun H1 e _ q =>
  h H1 e _ fun H2 e2 => ⟨hl, fun p hp => q _ _ (Rel.trans e2 (Rel.new hp)) ⟨p, rfl, upd_same⟩⟩
theorem ep_lst {ta : TA} {vs : List V} (h : EvA R ta σ H vs) (hl : vs.length ≤ sizeLine) : EvP R (tLst ta) σ H (NewL vs) := fun H1 e _ q =>
  h H1 e _ fun H2 e2 => ⟨hl, fun p hp => q _ _ (Rel.trans e2 (Rel.new hp)) ⟨p, rfl, upd_same⟩⟩
theorem ev_cb {r : List V → Hp → VK → Prop} {ta : TA} {vs : List V} (h : EvA R ta σ H vs) (hr : RC R r vs H z) : Ev R (tCB r ta) σ H z := fun H1 e Q q =>
  h H1 e _ fun H2 e2 => hr H2 (Rel.trans e e2) Q fun H3 e3 => q H3 (Rel.trans e2 e3)
/-- a call's promise, at all heaps that may come -/
def SpV (R : Rl) (sp : Sp) (vs : List V) (H : Hp) (P : V → Hp → Prop) : Prop := ∀ H1, R H H1 → ∀ Q : VK, (∀ v H2, R H1 H2 → P v H2 → Q v H2) → ∀ E : XK, sp vs H1 Q E
theorem ep_call {sp : Sp} {vs : List V} {E : XK} {ta : TA} (h : EvA R ta σ H vs) (hs : SpV R sp vs H P) : EvP R (tCall sp [] E ta) σ H P := fun H1 e Q q =>
  h H1 e _ fun H2 e2 => by
    rw [List.append_nil]
    exact hs H2 (Rel.trans e e2) Q (fun v H3 e3 p => q v H3 (Rel.trans e2 e3) p) E
theorem ev_call {sp : Sp} {vs : List V} {E : XK} {ta : TA} (h : EvA R ta σ H vs) (hs : SpV R sp vs H (fun x _ => x = v)) : Ev R (tCall sp [] E ta) σ H v := fun H1 e Q q =>
  ep_call h hs H1 e Q fun w H2 e2 p => by
    rw [p]
    exact q H2 e2
/-- the first operand an object that P tells -/
theorem ep_opL (ha : EvP R ta σ H P) (k : ∀ x H1, R H H1 → P x H1 → EvP R (tOp r (tC x) tb) σ H1 P') : EvP R (tOp r ta tb) σ H P' := fun H1 e Q q =>
  ha H1 e _ fun x H2 e2 p => k x H2 (Rel.trans e e2) p H2 (Rel.refl H2) Q fun v H3 e3 p' => q v H3 (Rel.trans e2 e3) p'
theorem ev_opL (ha : EvP R ta σ H P) (k : ∀ x H1, R H H1 → P x H1 → Ev R (tOp r (tC x) tb) σ H1 z) : Ev R (tOp r ta tb) σ H z := fun H1 e Q q =>
  ha H1 e _ fun x H2 e2 p => k x H2 (Rel.trans e e2) p H2 (Rel.refl H2) Q fun H3 e3 => q H3 (Rel.trans e2 e3)
theorem ep_opR (ha : Ev R ta σ H x) (hb : EvP R tb σ H P) (k : ∀ y H1, R H H1 → P y H1 → EvP R (tOp r (tC x) (tC y)) σ H1 P') : EvP R (tOp r ta tb) σ H P' := fun H1 e Q q =>
  ha H1 e _ fun H2 e2 => hb H2 (Rel.trans e e2) _ fun y H3 e3 p => k y H3 (Rel.trans (Rel.trans e e2) e3) p H3 (Rel.refl H3) Q fun v H4 e4 p' => q v H4 (Rel.trans (Rel.trans e2 e3) e4) p'
theorem ev_opR (ha : Ev R ta σ H x) (hb : EvP R tb σ H P) (k : ∀ y H1, R H H1 → P y H1 → RV R r x y H1 z) : Ev R (tOp r ta tb) σ H z := fun H1 e Q q =>
  ha H1 e _ fun H2 e2 => hb H2 (Rel.trans e e2) _ fun y H3 e3 p => k y H3 (Rel.trans (Rel.trans e e2) e3) p H3 (Rel.refl H3) Q fun H4 e4 => q H4 (Rel.trans (Rel.trans e2 e3) e4)
/-- arguments of which one is an object that P tells: the others are read behind it -/
def EvAP (R : Rl) (ta : TA) (σ : L2.St) (H : Hp) (P : List V → Hp → Prop) : Prop := ∀ H1, R H H1 → ∀ Q : List V → Hp → Prop, (∀ vs H2, R H1 H2 → P vs H2 → Q vs H2) → ta σ H1 Q
theorem EvA.p {ta : TA} {vs : List V} (h : EvA R ta σ H vs) {P : List V → Hp → Prop} (k : ∀ H1, R H H1 → P vs H1) : EvAP R ta σ H P := fun H1 e Q q => h H1 e Q fun H2 e2 => q vs H2 e2 (k H2 (Rel.trans e e2))
theorem eap_cons {tr : TA} {P : V → Hp → Prop} {P' : List V → Hp → Prop} (h : EvP R ta σ H P) (hr : ∀ x H1, R H H1 → P x H1 → EvAP R tr σ H1 (fun vs H2 => P' (x :: vs) H2)) : EvAP R (tCons ta tr) σ H P' := fun H1 e Q q =>
  h H1 e _ fun x H2 e2 p => hr x H2 (Rel.trans e e2) p H2 (Rel.refl H2) _ fun vs H3 e3 p' => q _ H3 (Rel.trans e2 e3) p'
theorem eap_one {P : V → Hp → Prop} (h : EvP R ta σ H P) : EvAP R (tCons ta tNil) σ H (fun vs H2 => ∃ x, vs = [x] ∧ P x H2) := fun H1 e Q q =>
  h H1 e _ fun x H2 e2 p => q _ H2 e2 ⟨x, rfl, p⟩
theorem ep_cbP {r : List V → Hp → VK → Prop} {ta : TA} {PA : List V → Hp → Prop} (h : EvAP R ta σ H PA) (hr : ∀ vs H1, R H H1 → PA vs H1 → ∀ Q : VK, (∀ v H2, R H1 H2 → P v H2 → Q v H2) → r vs H1 Q) : EvP R (tCB r ta) σ H P := fun H1 e Q q =>
  h H1 e _ fun vs H2 e2 p => hr vs H2 (Rel.trans e e2) p Q fun v H3 e3 p' => q v H3 (Rel.trans e2 e3) p'
theorem ep_callP {sp : Sp} {E : XK} {ta : TA} {PA : List V → Hp → Prop} (h : EvAP R ta σ H PA) (hr : ∀ vs H1, R H H1 → PA vs H1 → ∀ Q : VK, (∀ v H2, R H1 H2 → P v H2 → Q v H2) → sp vs H1 Q E) : EvP R (tCall sp [] E ta) σ H P := fun H1 e Q q =>
  h H1 e _ fun vs H2 e2 p => by
    rw [List.append_nil]
    exact hr vs H2 (Rel.trans e e2) p Q fun v H3 e3 p' => q v H3 (Rel.trans e2 e3) p'
theorem ep_tupP {ta : TA} {PA : List V → Hp → Prop} (h : EvAP R ta σ H PA) (hl : ∀ vs H1, PA vs H1 → vs.length ≤ sizeLine) (k : ∀ vs H1 p, R H H1 → PA vs H1 → H1 p = none → P (.ref p) (upd H1 p (.tup vs))) : EvP R (tTup ta) σ H P := fun H1 e Q q =>
  h H1 e _ fun vs H2 e2 pa => ⟨hl vs H2 pa, fun p hp => q _ _ (Rel.trans e2 (Rel.new hp)) (k vs H2 p (Rel.trans e e2) pa hp)⟩
/-- P stays true -/
def Stay (R : Rl) (P : V → Hp → Prop) : Prop := ∀ v H H', R H H' → P v H → P v H'
theorem stay_new {xs : List V} : Stay R (NewT xs) := fun _ _ _ e ⟨p, h1, h2⟩ => ⟨p, h1, Rel.tup e h2⟩
/-! slices of a tuple -/
theorem eo_none : EvO R tNoPart σ H none := fun H1 _ _ q => q H1 (Rel.refl H1)
theorem eo_some {i : Int} (h : Ev R te σ H (.int i)) : EvO R (tPart te) σ H (some i) := fun H1 e _ q => h H1 e _ fun H2 e2 => ⟨i, rfl, q H2 e2⟩
theorem cut_all {xs : List V} {lo hi : Option Int} (h : HT.sIx xs.length 0 lo = 0 ∧ HT.sIx xs.length xs.length hi = xs.length) : cutV xs lo hi = xs := by
  unfold cutV
  rw [h.1, h.2, List.drop_zero, Nat.sub_zero, List.take_length]
theorem ep_slT {tl th : TO} {a : Addr} {xs : List V} {lo hi : Option Int} (h : Ev R te σ H (.ref a)) (h1 : EvO R tl σ H lo) (h2 : EvO R th σ H hi) (hs : H a = some (.tup xs)) : EvP R (tSl (rSlA K) te tl th) σ H (NewT (cutV xs lo hi)) := fun H1 e _ q =>
  h H1 e _ fun H2 e2 => h1 H2 (Rel.trans e e2) _ fun H3 e3 => h2 H3 (Rel.trans (Rel.trans e e2) e3) _ fun H4 e4 => by
    have e14 := Rel.trans (Rel.trans e2 e3) e4
    have hs4 := Rel.tup (Rel.trans e e14) hs
    refine ⟨a, xs, rfl, SqT.of hs4, fun hw => ?_, fun _ p hp => q _ _ (Rel.trans e14 (Rel.new hp)) ⟨p, rfl, upd_same⟩⟩
    exact q _ _ e14 ⟨a, rfl, by rw [cut_all hw]; exact hs4⟩
/-- t + u, both old -/
theorem rp_catT {a b : Addr} {xs ys : List V} (ha : H a = some (.tup xs)) (hb : H b = some (.tup ys)) (hl : xs.length + ys.length ≤ sizeLine) : EvP R (tOp (rCatA K) (tC (.ref a)) (tC (.ref b))) σ H (NewT (xs ++ ys)) := fun H1 e _ q => by
  refine ⟨a, b, xs, ys, rfl, rfl, SqT.of (Rel.tup e ha), SqT.of (Rel.tup e hb), hl, fun hx => ?_, fun _ hy => ?_, fun _ _ p hp => q _ _ (Rel.new hp) ⟨p, rfl, upd_same⟩⟩
  · exact q _ _ (Rel.refl H1) ⟨b, rfl, by rw [hx]; exact Rel.tup e hb⟩
  · exact q _ _ (Rel.refl H1) ⟨a, rfl, by rw [hy, List.append_nil]; exact Rel.tup e ha⟩
theorem ep_catT {xs ys : List V} (ha : EvP R ta σ H (NewT xs)) (hb : ∀ H1, R H H1 → EvP R tb σ H1 (NewT ys)) (hl : xs.length + ys.length ≤ sizeLine) : EvP R (tOp (rCatA K) ta tb) σ H (NewT (xs ++ ys)) := by
  refine ep_opL ha fun x H1 e ⟨a, hx, h1⟩ => ?_
  subst hx
  refine ep_opR ev_c (hb H1 e) fun y H2 e2 ⟨b, hy, h2⟩ => ?_
  subst hy
  exact rp_catT (Rel.tup e2 h1) h2 hl
end

/-! ### blocks -/
section
variable {R : Rl} [Rel R] {K : PySem.W.Frag} {σ : L2.St} {H H' : Hp} {ta tb te : TE} {t : TT} {x y z v : V} {ts us ws : TS} {φ : V → Hp → Prop} {ψ : L2.St → Hp → Prop} {P : V → Hp → Prop}
theorem EvS.run {Q : VK} (h : EvS R ts σ H φ Out) (q : ∀ v H2, R H H2 → φ v H2 → Q v H2) : ts { nx := fun _ H' => Q .non H', rt := Q } σ H := h H (Rel.refl H) _ q fun _ _ _ f => f.elim
theorem es_ret (h : Ev R te σ H v) (k : ∀ H2, R H H2 → φ v H2) : EvS R (tRet te) σ H φ ψ := fun H1 e D q _ => h H1 e _ fun H2 e2 => q v H2 e2 (k H2 (Rel.trans e e2))
theorem es_retP (h : EvP R te σ H P) (k : ∀ v H2, R H H2 → P v H2 → φ v H2) : EvS R (tRet te) σ H φ ψ := fun H1 e D q _ => h H1 e _ fun v H2 e2 p => q v H2 e2 (k v H2 (Rel.trans e e2) p)
theorem es_mono {ψ' : L2.St → Hp → Prop} (h : EvS R ts σ H φ ψ) (k : ∀ σ' H2, R H H2 → ψ σ' H2 → ψ' σ' H2) : EvS R ts σ H φ ψ' := fun H1 e D q n => h H1 e D q fun σ' H2 e2 p => n σ' H2 e2 (k σ' H2 (Rel.trans e e2) p)
theorem EvS.at (e : R H H') (h : EvS R ts σ H φ ψ) : EvS R ts σ H' φ ψ := fun H1 a D q n => h H1 (Rel.trans e a) D q n
theorem es_seq {ψ1 : L2.St → Hp → Prop} (h : EvS R ts σ H φ ψ1) (k : ∀ σ' H1, R H H1 → ψ1 σ' H1 → EvS R us σ' H1 φ ψ) : EvS R (tSeq ts us) σ H φ ψ := fun H1 e D q n =>
  h H1 e { D with nx := us D } q fun σ' H2 e2 p => k σ' H2 (Rel.trans e e2) p H2 (Rel.refl H2) D (fun v H3 e3 f => q v H3 (Rel.trans e2 e3) f) fun σ2 H3 e3 f => n σ2 H3 (Rel.trans e2 e3) f
theorem es_next (k : ∀ H1, R H H1 → ψ σ H1) : EvS R tNext σ H φ ψ := fun H1 e _ _ n => n σ H1 (Rel.refl H1) (k H1 e)
theorem es_asg {i : Nat} (h : Ev R te σ H v) (k : EvS R us (σ.set i (some v)) H φ ψ) : EvS R (tSeq (tAsg te (gName i)) us) σ H φ ψ := fun H1 e D q n =>
  h H1 e _ fun H2 e2 => k H2 (Rel.trans e e2) D (fun v H3 e3 f => q v H3 (Rel.trans e2 e3) f) fun σ2 H3 e3 f => n σ2 H3 (Rel.trans e2 e3) f
theorem es_asg1 {i : Nat} (h : Ev R te σ H v) (k : ∀ H1, R H H1 → ψ (σ.set i (some v)) H1) : EvS R (tAsg te (gName i)) σ H φ ψ := fun H1 e D q n =>
  h H1 e _ fun H2 e2 => n _ H2 e2 (k H2 (Rel.trans e e2))
theorem es_asgP {i : Nat} (h : EvP R te σ H P) (k : ∀ v H1, R H H1 → P v H1 → EvS R us (σ.set i (some v)) H1 φ ψ) : EvS R (tSeq (tAsg te (gName i)) us) σ H φ ψ := fun H1 e D q n =>
  h H1 e _ fun v H2 e2 p => k v H2 (Rel.trans e e2) p H2 (Rel.refl H2) D (fun v H3 e3 f => q v H3 (Rel.trans e2 e3) f) fun σ2 H3 e3 f => n σ2 H3 (Rel.trans e2 e3) f
theorem es_asgP1 {i : Nat} (h : EvP R te σ H P) (k : ∀ v H1, R H H1 → P v H1 → ψ (σ.set i (some v)) H1) : EvS R (tAsg te (gName i)) σ H φ ψ := fun H1 e D q n =>
  h H1 e _ fun v H2 e2 p => n _ H2 e2 (k v H2 (Rel.trans e e2) p)
/-- if c: a block that gives back; the rest -/
theorem es_when {b : Bool} (h : EvT R t σ H b) (h1 : b = true → EvS R ts σ H φ Out) (h2 : b = false → EvS R us σ H φ ψ) : EvS R (tSeq (tIfS t ts tNext) us) σ H φ ψ := fun H1 e D q n =>
  h H1 e _ fun H2 e2 => by
    cases b with
    | true => exact h1 rfl H2 (Rel.trans e e2) _ (fun v H3 e3 f => q v H3 (Rel.trans e2 e3) f) fun _ _ _ f => f.elim
    | false => exact h2 rfl H2 (Rel.trans e e2) D (fun v H3 e3 f => q v H3 (Rel.trans e2 e3) f) fun σ2 H3 e3 f => n σ2 H3 (Rel.trans e2 e3) f
theorem es_whenT (h : EvT R t σ H true) (h1 : EvS R ts σ H φ Out) : EvS R (tSeq (tIfS t ts tNext) us) σ H φ ψ := es_when h (fun _ => h1) fun z => nomatch z
theorem es_whenF (h : EvT R t σ H false) (h1 : EvS R us σ H φ ψ) : EvS R (tSeq (tIfS t ts tNext) us) σ H φ ψ := es_when h (fun z => nomatch z) fun _ => h1
/-- if, else, the rest behind both -/
theorem es_if {b : Bool} (h : EvT R t σ H b) (h1 : b = true → EvS R (tSeq ts us) σ H φ ψ) (h2 : b = false → EvS R (tSeq ws us) σ H φ ψ) : EvS R (tSeq (tIfS t ts ws) us) σ H φ ψ := fun H1 e D q n =>
  h H1 e _ fun H2 e2 => by
    cases b with
    | true => exact h1 rfl H2 (Rel.trans e e2) D (fun v H3 e3 f => q v H3 (Rel.trans e2 e3) f) fun σ2 H3 e3 f => n σ2 H3 (Rel.trans e2 e3) f
    | false => exact h2 rfl H2 (Rel.trans e e2) D (fun v H3 e3 f => q v H3 (Rel.trans e2 e3) f) fun σ2 H3 e3 f => n σ2 H3 (Rel.trans e2 e3) f
theorem es_if1 {b : Bool} (h : EvT R t σ H b) (h1 : b = true → EvS R ts σ H φ ψ) (h2 : b = false → EvS R ws σ H φ ψ) : EvS R (tIfS t ts ws) σ H φ ψ := fun H1 e D q n =>
  h H1 e _ fun H2 e2 => by
    cases b with
    | true => exact h1 rfl H2 (Rel.trans e e2) D (fun v H3 e3 f => q v H3 (Rel.trans e2 e3) f) fun σ2 H3 e3 f => n σ2 H3 (Rel.trans e2 e3) f
    | false => exact h2 rfl H2 (Rel.trans e e2) D (fun v H3 e3 f => q v H3 (Rel.trans e2 e3) f) fun σ2 H3 e3 f => n σ2 H3 (Rel.trans e2 e3) f
theorem es_skip (h : EvS R us σ H φ ψ) : EvS R (tSeq tNext us) σ H φ ψ := fun H1 e D q n => h H1 e D q n
/-- a, b, c, d = t -/
theorem es_unp4 {i j k l : Nat} {a : Addr} {v1 v2 v3 v4 : V} (h : Ev R te σ H (.ref a)) (ha : H a = some (.tup [v1, v2, v3, v4])) (k2 : EvS R us ((((σ.set i (some v1)).set j (some v2)).set k (some v3)).set l (some v4)) H φ ψ) :
    EvS R (tSeq (tAsg te (gTup K 4 (gCons (gName i) (gCons (gName j) (gCons (gName k) (gCons (gName l) gNil)))))) us) σ H φ ψ := fun H1 e D q n =>
  h H1 e _ fun H2 e2 => ⟨a, _, rfl, SqT.of (Rel.tup (Rel.trans e e2) ha), rfl, v1, _, rfl, v2, _, rfl, v3, _, rfl, v4, _, rfl, rfl, k2 H2 (Rel.trans e e2) D (fun v H3 e3 f => q v H3 (Rel.trans e2 e3) f) fun σ2 H3 e3 f => n σ2 H3 (Rel.trans e2 e3) f⟩
theorem es_unp3 {i j k : Nat} {a : Addr} {v1 v2 v3 : V} (h : Ev R te σ H (.ref a)) (ha : H a = some (.tup [v1, v2, v3])) (k2 : EvS R us (((σ.set i (some v1)).set j (some v2)).set k (some v3)) H φ ψ) :
    EvS R (tSeq (tAsg te (gTup K 3 (gCons (gName i) (gCons (gName j) (gCons (gName k) gNil))))) us) σ H φ ψ := fun H1 e D q n =>
  h H1 e _ fun H2 e2 => ⟨a, _, rfl, SqT.of (Rel.tup (Rel.trans e e2) ha), rfl, v1, _, rfl, v2, _, rfl, v3, _, rfl, rfl, k2 H2 (Rel.trans e e2) D (fun v H3 e3 f => q v H3 (Rel.trans e2 e3) f) fun σ2 H3 e3 f => n σ2 H3 (Rel.trans e2 e3) f⟩
/-- for over a walk whose iterable has come; Iv by the turn, the slots and the heap; X tells the items -/
def EvI (R : Rl) (wi : TI) (σ : L2.St) (H : Hp) (J : It) : Prop := ∀ H1, R H H1 → ∀ Q : It → Hp → Prop, (∀ H2, R H1 H2 → Q J H2) → wi σ H1 Q
theorem es_for {wi : TI} {tb : TS} {J : It} {n j : Nat} {Gd : Hp → Prop} {Y : Nat → Hp → V → Hp → Prop} {X : Nat → V → Prop} (w : Walk J n Gd Y) (hY : ∀ i H x H', Y i H x H' → H' = H ∧ X i x) (hw : EvI R wi σ H J) (hG : ∀ H1, R H H1 → Gd H1)
    (Iv : Nat → L2.St → Hp → Prop) (h0 : ∀ H1, R H H1 → Iv 0 σ H1)
    (hs : ∀ i x σ' H1, i < n → R H H1 → Iv i σ' H1 → X i x → EvS R tb (σ'.set j (some x)) H1 φ (Iv (i + 1)))
    (hd : ∀ σ' H1, R H H1 → Iv n σ' H1 → ψ σ' H1) : EvS R (tFor wi (gName j) tb) σ H φ ψ := fun H1 e D q nx =>
  hw H1 e _ fun H2 e2 => for_it w (fun i σ' H' => R H2 H' ∧ Iv i σ' H') ⟨Rel.refl H2, h0 H2 (Rel.trans e e2)⟩ (fun i σ' H' _ p => hG H' (Rel.trans (Rel.trans e e2) p.1))
    (fun i x σ' H' H'' hi p y => by
      obtain ⟨eH, hx⟩ := hY i H' x H'' y
      subst eH
      exact hs i x σ' H'' hi (Rel.trans (Rel.trans e e2) p.1) p.2 hx H'' (Rel.refl _) _ (fun v H3 e3 f => q v H3 (Rel.trans (Rel.trans e2 p.1) e3) f) fun σ2 H3 e3 f => ⟨Rel.trans p.1 e3, f⟩)
    (fun σ' H' p => nx σ' H' (Rel.trans e2 p.1) (hd σ' H' (Rel.trans (Rel.trans e e2) p.1) p.2))
theorem ei_tup {tl : TE} {a : Addr} {xs : List V} (h : Ev R tl σ H (.ref a)) (ha : H a = some (.tup xs)) : EvI R (iTup K tl) σ H (Itt K a) := fun H1 e Q q => h H1 e _ fun H2 e2 => ⟨a, rfl, ⟨xs, SqT.of (Rel.tup (Rel.trans e e2) ha)⟩, q H2 e2⟩
theorem ei_str {tl : TE} {z : Str} (h : Ev R tl σ H (.str z)) : EvI R (iStr tl) σ H (Its z) := fun H1 e Q q => h H1 e _ fun H2 e2 => ⟨z, rfl, q H2 e2⟩
theorem ei_rng1 {ta : TA} {n : Int} (h : EvA R ta σ H [.int n]) (hn : -(2 ^ 62) ≤ n ∧ n < 2 ^ 62) : EvI R (iRng1 ta) σ H (Itr 0 n.toNat) := fun H1 e Q q => h H1 e _ fun H2 e2 => ⟨n, rfl, hn.1, hn.2, q H2 e2⟩
theorem ei_rng3 {ta : TA} {i j c : Int} {n : Nat} (h : EvA R ta σ H [.int i, .int j, .int c]) (hn : RgC i j c n) : EvI R (iRng3 ta) σ H (Itc i c n) := fun H1 e Q q => h H1 e _ fun H2 e2 => ⟨i, j, c, n, rfl, hn, q H2 e2⟩
theorem es_forT {tl : TE} {tb : TS} {j : Nat} {a : Addr} {xs : List V} (h : Ev R tl σ H (.ref a)) (ha : H a = some (.tup xs)) (Iv : Nat → L2.St → Hp → Prop) (h0 : ∀ H1, R H H1 → Iv 0 σ H1)
    (hs : ∀ i x σ' H1, R H H1 → Iv i σ' H1 → xs[i]? = some x → EvS R tb (σ'.set j (some x)) H1 φ (Iv (i + 1))) (hd : ∀ σ' H1, R H H1 → Iv xs.length σ' H1 → ψ σ' H1) : EvS R (tFor (iTup K tl) (gName j) tb) σ H φ ψ :=
  es_for (X := fun i x => xs[i]? = some x) (walk_tup (K := K) (a := a) (xs := xs)) (fun _ _ _ _ y => y) (ei_tup h ha) (fun H1 e => SqT.of (Rel.tup e ha)) Iv h0 (fun i x σ' H1 _ e p hx => hs i x σ' H1 e p hx) hd
theorem es_forS {tl : TE} {tb : TS} {j : Nat} {z : Str} (h : Ev R tl σ H (.str z)) (Iv : Nat → L2.St → Hp → Prop) (h0 : ∀ H1, R H H1 → Iv 0 σ H1)
    (hs : ∀ i c σ' H1, R H H1 → Iv i σ' H1 → z.cps[i]? = some c → EvS R tb (σ'.set j (some (.str ⟨#[c]⟩))) H1 φ (Iv (i + 1))) (hd : ∀ σ' H1, R H H1 → Iv z.cps.size σ' H1 → ψ σ' H1) : EvS R (tFor (iStr tl) (gName j) tb) σ H φ ψ :=
  es_for (X := fun i x => ∃ c, z.cps[i]? = some c ∧ x = .str ⟨#[c]⟩) (walk_str (z := z)) (fun _ _ _ _ y => y) (ei_str h) (fun _ _ => trivial) Iv h0 (fun i x σ' H1 _ e p ⟨c, hc, hx⟩ => by subst hx; exact hs i c σ' H1 e p hc) hd
theorem es_forR {ta : TA} {tb : TS} {j : Nat} {n : Int} (h : EvA R ta σ H [.int n]) (hn : -(2 ^ 62) ≤ n ∧ n < 2 ^ 62) (Iv : Nat → L2.St → Hp → Prop) (h0 : ∀ H1, R H H1 → Iv 0 σ H1)
    (hs : ∀ (i : Nat) σ' H1, (i : Int) < n → R H H1 → Iv i σ' H1 → EvS R tb (σ'.set j (some (.int (i : Int)))) H1 φ (Iv (i + 1))) (hd : ∀ σ' H1, R H H1 → Iv n.toNat σ' H1 → ψ σ' H1) : EvS R (tFor (iRng1 ta) (gName j) tb) σ H φ ψ :=
  es_for (X := fun i x => x = .int (0 + (i : Int))) (walk_range (lo := 0) (n := n.toNat)) (fun _ _ _ _ y => y) (ei_rng1 h hn) (fun _ _ => trivial) Iv h0 (fun i x σ' H1 hi e p hx => by
    rw [Int.zero_add] at hx
    subst hx
    exact hs i σ' H1 (by omega) e p) hd
theorem es_forR3 {ta : TA} {tb : TS} {j : Nat} {lo hi c : Int} {n : Nat} (h : EvA R ta σ H [.int lo, .int hi, .int c]) (hn : RgC lo hi c n) (Iv : Nat → L2.St → Hp → Prop) (h0 : ∀ H1, R H H1 → Iv 0 σ H1)
    (hs : ∀ (i : Nat) σ' H1, i < n → R H H1 → Iv i σ' H1 → EvS R tb (σ'.set j (some (.int (lo + (i : Nat) * c)))) H1 φ (Iv (i + 1))) (hd : ∀ σ' H1, R H H1 → Iv n σ' H1 → ψ σ' H1) : EvS R (tFor (iRng3 ta) (gName j) tb) σ H φ ψ :=
  es_for (X := fun i x => x = .int (lo + (i : Nat) * c)) (walk_rangeC (lo := lo) (c := c) (n := n)) (fun _ _ _ _ y => y) (ei_rng3 h hn) (fun _ _ => trivial) Iv h0 (fun i x σ' H1 hi e p hx => by subst hx; exact hs i σ' H1 hi e p) hd
end

/-! ### built-ins, by names -/
def rAbs : List V → Hp → VK → Prop := fun xs H Q => ∃ i, xs = [.int i] ∧ Q (.int (if i < 0 then -i else i)) H
def rMax2 : List V → Hp → VK → Prop := fun xs H Q => ∃ i j, xs = [.int i, .int j] ∧ Q (.int (if j > i then j else i)) H
def rMin2 : List V → Hp → VK → Prop := fun xs H Q => ∃ i j, xs = [.int i, .int j] ∧ Q (.int (if j < i then j else i)) H
def rInt1 : List V → Hp → VK → Prop := fun xs H Q => (∃ i, xs = [.int i] ∧ Q (.int i) H) ∨ ∃ k, xs = [.bl k] ∧ Q (.int (if k then 1 else 0)) H
def rLenQ (K : PySem.W.Frag) : List V → Hp → VK → Prop := fun xs H Q => ∃ p ys, xs = [.ref p] ∧ (SqL K H p ys ∨ SqT K H p ys) ∧ Q (.int ys.length) H
def rLenZ : List V → Hp → VK → Prop := fun xs H Q => ∃ z, xs = [.str z] ∧ z.length ≤ sizeLine ∧ Q (.int z.length) H
def rStrI : List V → Hp → VK → Prop := fun xs H Q => ∃ i, xs = [.int i] ∧ i.natAbs.log2 < 1920 ∧ Q (.str (toString i)) H
def rTupOf (K : PySem.W.Frag) : List V → Hp → VK → Prop := fun xs H Q => ∃ p ys, xs = [.ref p] ∧ ((SqL K H p ys ∧ ∀ l, H l = none → Q (.ref l) (upd H l (.tup ys))) ∨ (SqT K H p ys ∧ Q (.ref p) H))
def rListOf (K : PySem.W.Frag) : List V → Hp → VK → Prop := fun xs H Q => ∃ p ys, xs = [.ref p] ∧ (SqL K H p ys ∨ SqT K H p ys) ∧ ∀ l, H l = none → Q (.ref l) (upd H l (.lst ys))
section
variable {X : Cx}
theorem cb_abs : CallR X (.builtin "abs") rAbs := call_abs
theorem cb_max2 (hc : X.calm = true) : CallR X (.builtin "max") rMax2 := call_max2 hc
theorem cb_min2 (hc : X.calm = true) : CallR X (.builtin "min") rMin2 := call_min2 hc
theorem cb_int1 : CallR X (.type "int") rInt1 := call_int1
theorem cb_lenQ : CallR X (.builtin "len") (rLenQ X.K) := call_len_seq
theorem cb_lenZ : CallR X (.builtin "len") rLenZ := call_len_str
theorem cb_strI : CallR X (.type "str") rStrI := call_str_int
theorem cb_tupOf : CallR X (.type "tuple") (rTupOf X.K) := call_tuple_of
theorem cb_listOf : CallR X (.type "list") (rListOf X.K) := call_list_of
end
section
variable {R : Rl} [Rel R] {K : PySem.W.Frag} {σ : L2.St} {H : Hp} {te : TE}
theorem rc_abs {i : Int} : RC R rAbs [.int i] H (.int (if i < 0 then -i else i)) := fun H1 _ _ q => ⟨i, rfl, q H1 (Rel.refl H1)⟩
theorem rc_max2 {i j : Int} : RC R rMax2 [.int i, .int j] H (.int (if j > i then j else i)) := fun H1 _ _ q => ⟨i, j, rfl, q H1 (Rel.refl H1)⟩
theorem rc_min2 {i j : Int} : RC R rMin2 [.int i, .int j] H (.int (if j < i then j else i)) := fun H1 _ _ q => ⟨i, j, rfl, q H1 (Rel.refl H1)⟩
theorem rc_int1 {i : Int} : RC R rInt1 [.int i] H (.int i) := fun H1 _ _ q => .inl ⟨i, rfl, q H1 (Rel.refl H1)⟩
theorem rc_lenT {a : Addr} {xs : List V} (h : H a = some (.tup xs)) : RC R (rLenQ K) [.ref a] H (.int xs.length) := fun H1 e _ q => ⟨a, xs, rfl, .inr (SqT.of (Rel.tup e h)), q H1 (Rel.refl H1)⟩
theorem rc_lenZ {z : Str} (h : z.length ≤ sizeLine) : RC R rLenZ [.str z] H (.int z.length) := fun H1 _ _ q => ⟨z, rfl, h, q H1 (Rel.refl H1)⟩
theorem rc_strI {i : Int} (h : i.natAbs.log2 < 1920) : RC R rStrI [.int i] H (.str (toString i)) := fun H1 _ _ q => ⟨i, rfl, h, q H1 (Rel.refl H1)⟩
/-- tuple(a new list) -/
theorem ep_tupOf {ta : TE} {xs : List V} (h : EvP R ta σ H (NewL xs)) : EvP R (tCB (rTupOf K) (tCons ta tNil)) σ H (NewT xs) := fun H1 e Q q =>
  h H1 e _ fun v H2 e2 ⟨p, hv, hp⟩ => by
    subst hv
    exact ⟨p, xs, rfl, .inl ⟨SqL.of hp, fun l hl => q _ _ (Rel.trans e2 (Rel.new hl)) ⟨l, rfl, upd_same⟩⟩⟩
end
theorem hu65 {A : Around} {k : Nat} (hr : Room k A) : A.units + 65 < cLine := by
  have := hr.un
  omega

/-! ### comprehensions -/
section
variable {K : PySem.W.Frag} {σ : L2.St} {H : Hp} {te : TE} {tt : TT}
/-- a new list that Lv tells -/
def NewLv (Lv : List V → Hp → Prop) : V → Hp → Prop := fun v H => ∃ p acc, v = .ref p ∧ H p = some (.lst acc) ∧ Lv acc H
theorem ep_lc {wi : TI} {vs : List Nat} {j n : Nat} {J : It} {Gd : Hp → Prop} {Y : Nat → Hp → V → Hp → Prop} {X : Nat → V → Prop} (w : Walk J n Gd Y) (hY : ∀ i H x H', Y i H x H' → H' = H ∧ X i x) (hw : EvI Same wi σ H J) (hG : ∀ H1, Same H H1 → Gd H1)
    (hn : n < 1000000) (Lv : Nat → List V → Hp → Prop) (hL : ∀ i l H1 H2, KT H1 H2 → Lv i l H1 → Lv i l H2) (h0 : Lv 0 [] H) (hwp : ∀ x, wipe ((wipe σ vs).set j (some x)) vs = wipe σ vs)
    (hs : ∀ i x acc H1, i < n → Same H H1 → X i x → Lv i acc H1 → ∃ b, EvT Same tt ((wipe σ vs).set j (some x)) H1 b ∧ (b = true → EvP Same te ((wipe σ vs).set j (some x)) H1 (fun y H2 => Lv (i + 1) (acc ++ [y]) H2)) ∧ (b = false → Lv (i + 1) acc H1)) :
    EvP Same (tLc wi (gName j) tt te vs) σ H (NewLv (Lv n)) := fun H1 e Q q => hw H1 e _ fun H2 e2 D hD => by
  have e02 := e.trans e2
  have hz : (1000000 : Nat) ≤ sizeLine := Nat.le_of_ble_eq_true rfl
  refine lc_it w (fun i H' => Same H2 H' ∧ ∃ acc, H' D = some (.lst acc) ∧ acc.length ≤ i ∧ Lv i acc H') ⟨same_new hD, [], upd_same, Nat.le_refl 0, hL _ _ _ _ (kt_of (e02.trans (same_new hD))) h0⟩ (fun i H' _ p => hG H' (e02.trans p.1)) ?_ ?_
  · intro i x H' H'' hi p y
    obtain ⟨eH, hx⟩ := hY i H' x H'' y
    subst eH
    obtain ⟨es, acc, ha, hl, lv⟩ := p
    obtain ⟨b, ht, h1, h2⟩ := hs i x acc _ hi (e02.trans es) hx lv
    refine ⟨hwp x, ht _ (Same.refl _) _ fun H3 e3 => ?_⟩
    cases b with
    | true =>
      refine iteT (h1 rfl H3 e3 _ fun y H4 e4 lv4 => ?_)
      have e34 := e3.trans e4
      refine ⟨acc, e34 _ _ ha, by omega, same_mut (es.trans e34) hD, acc ++ [y], upd_same, by rw [List.length_append, List.length_singleton]; omega, hL _ _ _ _ (kt_upd (e34 _ _ ha)) lv4⟩
    | false => exact iteF ⟨es.trans e3, acc, e3 _ _ ha, by omega, hL _ _ _ _ (kt_of e3) (h2 rfl)⟩
  · intro H' ⟨es, acc, ha, _, lv⟩
    exact q _ H' (e2.trans es) ⟨D, acc, rfl, ha, lv⟩
theorem ei_list {tl : TE} {a : Addr} {xs : List V} (h : Ev Same tl σ H (.ref a)) (ha : SqL K H a xs) : EvI Same (iList K tl) σ H (Itl K a) := fun H1 e Q q => h H1 e _ fun H2 e2 => ⟨a, rfl, ⟨xs, (e.trans e2).seq ha⟩, q H2 e2⟩
theorem walk_revT {a : Addr} {xs : List V} : Walk (RT.ItvT K a xs.length) xs.length (fun H => SqT K H a xs) (fun i H x H' => H' = H ∧ xs[xs.length - 1 - i]? = some x) :=
  ⟨fun i _ hi q => ⟨hi, xs, xs[xs.length - 1 - i]'(by omega), q, by simp [show xs.length - 1 - i < xs.length by omega]⟩, fun _ _ => Nat.le_refl _, fun _ _ _ _ _ q y => ⟨y.1, y.2 xs q⟩⟩
theorem ei_revT {R : Rl} [Rel R] {tl : TE} {a : Addr} {xs : List V} (h : Ev R tl σ H (.ref a)) (ha : H a = some (.tup xs)) : EvI R (RT.iRevA K tl) σ H (RT.ItvT K a xs.length) := fun H1 e Q q => h H1 e _ fun H2 e2 => ⟨a, xs, rfl, .inr ⟨SqT.of (Rel.tup (Rel.trans e e2) ha), q H2 e2⟩⟩
/-- over a tuple; a list; a text; reversed(a tuple); a range -/
theorem lc_ofT {tl : TE} {vs : List Nat} {j : Nat} {a : Addr} {xs : List V} (h : Ev Same tl σ H (.ref a)) (ha : H a = some (.tup xs)) (hn : xs.length < 1000000) (Lv : Nat → List V → Hp → Prop) (hL : ∀ i l H1 H2, KT H1 H2 → Lv i l H1 → Lv i l H2) (h0 : Lv 0 [] H)
    (hs : ∀ i x acc H1, Same H H1 → xs[i]? = some x → Lv i acc H1 → ∃ b, EvT Same tt ((wipe σ vs).set j (some x)) H1 b ∧ (b = true → EvP Same te ((wipe σ vs).set j (some x)) H1 (fun y H2 => Lv (i + 1) (acc ++ [y]) H2)) ∧ (b = false → Lv (i + 1) acc H1))
    (hwp : ∀ x, wipe ((wipe σ vs).set j (some x)) vs = wipe σ vs) : EvP Same (tLc (iTup K tl) (gName j) tt te vs) σ H (NewLv (Lv xs.length)) :=
  ep_lc (X := fun i x => xs[i]? = some x) (walk_tup (K := K) (a := a) (xs := xs)) (fun _ _ _ _ y => y) (ei_tup h ha) (fun H1 e => SqT.of (Rel.tup e ha)) hn Lv hL h0 hwp fun i x acc H1 _ e hx p => hs i x acc H1 e hx p
theorem lc_ofL {tl : TE} {vs : List Nat} {j : Nat} {a : Addr} {xs : List V} (h : Ev Same tl σ H (.ref a)) (ha : SqL K H a xs) (hn : xs.length < 1000000) (Lv : Nat → List V → Hp → Prop) (hL : ∀ i l H1 H2, KT H1 H2 → Lv i l H1 → Lv i l H2) (h0 : Lv 0 [] H)
    (hs : ∀ i x acc H1, Same H H1 → xs[i]? = some x → Lv i acc H1 → ∃ b, EvT Same tt ((wipe σ vs).set j (some x)) H1 b ∧ (b = true → EvP Same te ((wipe σ vs).set j (some x)) H1 (fun y H2 => Lv (i + 1) (acc ++ [y]) H2)) ∧ (b = false → Lv (i + 1) acc H1))
    (hwp : ∀ x, wipe ((wipe σ vs).set j (some x)) vs = wipe σ vs) : EvP Same (tLc (iList K tl) (gName j) tt te vs) σ H (NewLv (Lv xs.length)) :=
  ep_lc (X := fun i x => xs[i]? = some x) (walk_list (K := K) (a := a) (xs := xs)) (fun _ _ _ _ y => y) (ei_list h ha) (fun H1 e => e.seq ha) hn Lv hL h0 hwp fun i x acc H1 _ e hx p => hs i x acc H1 e hx p
theorem lc_ofS {tl : TE} {vs : List Nat} {j : Nat} {z : Str} (h : Ev Same tl σ H (.str z)) (hn : z.cps.size < 1000000) (Lv : Nat → List V → Hp → Prop) (hL : ∀ i l H1 H2, KT H1 H2 → Lv i l H1 → Lv i l H2) (h0 : Lv 0 [] H)
    (hs : ∀ i c acc H1, Same H H1 → z.cps[i]? = some c → Lv i acc H1 → ∃ b, EvT Same tt ((wipe σ vs).set j (some (.str ⟨#[c]⟩))) H1 b ∧ (b = true → EvP Same te ((wipe σ vs).set j (some (.str ⟨#[c]⟩))) H1 (fun y H2 => Lv (i + 1) (acc ++ [y]) H2)) ∧ (b = false → Lv (i + 1) acc H1))
    (hwp : ∀ x, wipe ((wipe σ vs).set j (some x)) vs = wipe σ vs) : EvP Same (tLc (iStr tl) (gName j) tt te vs) σ H (NewLv (Lv z.cps.size)) :=
  ep_lc (X := fun i x => ∃ c, z.cps[i]? = some c ∧ x = .str ⟨#[c]⟩) (walk_str (z := z)) (fun _ _ _ _ y => y) (ei_str h) (fun _ _ => trivial) hn Lv hL h0 hwp fun i x acc H1 _ e ⟨c, hc, hx⟩ p => by
    subst hx
    exact hs i c acc H1 e hc p
theorem lc_ofRev {tl : TE} {vs : List Nat} {j : Nat} {a : Addr} {xs : List V} (h : Ev Same tl σ H (.ref a)) (ha : H a = some (.tup xs)) (hn : xs.length < 1000000) (Lv : Nat → List V → Hp → Prop) (hL : ∀ i l H1 H2, KT H1 H2 → Lv i l H1 → Lv i l H2) (h0 : Lv 0 [] H)
    (hs : ∀ i x acc H1, i < xs.length → Same H H1 → xs[xs.length - 1 - i]? = some x → Lv i acc H1 → ∃ b, EvT Same tt ((wipe σ vs).set j (some x)) H1 b ∧ (b = true → EvP Same te ((wipe σ vs).set j (some x)) H1 (fun y H2 => Lv (i + 1) (acc ++ [y]) H2)) ∧ (b = false → Lv (i + 1) acc H1))
    (hwp : ∀ x, wipe ((wipe σ vs).set j (some x)) vs = wipe σ vs) : EvP Same (tLc (RT.iRevA K tl) (gName j) tt te vs) σ H (NewLv (Lv xs.length)) :=
  ep_lc (X := fun i x => xs[xs.length - 1 - i]? = some x) (walk_revT (K := K) (a := a) (xs := xs)) (fun _ _ _ _ y => y) (ei_revT h ha) (fun H1 e => SqT.of (Rel.tup e ha)) hn Lv hL h0 hwp fun i x acc H1 hi e hx p => hs i x acc H1 hi e hx p
theorem lc_ofR {ta : TA} {vs : List Nat} {j : Nat} {n : Int} (h : EvA Same ta σ H [.int n]) (hn : 0 ≤ n ∧ n < 1000000) (Lv : Nat → List V → Hp → Prop) (hL : ∀ i l H1 H2, KT H1 H2 → Lv i l H1 → Lv i l H2) (h0 : Lv 0 [] H)
    (hs : ∀ (i : Nat) acc H1, (i : Int) < n → Same H H1 → Lv i acc H1 → ∃ b, EvT Same tt ((wipe σ vs).set j (some (.int (i : Int)))) H1 b ∧ (b = true → EvP Same te ((wipe σ vs).set j (some (.int (i : Int)))) H1 (fun y H2 => Lv (i + 1) (acc ++ [y]) H2)) ∧ (b = false → Lv (i + 1) acc H1))
    (hwp : ∀ x, wipe ((wipe σ vs).set j (some x)) vs = wipe σ vs) : EvP Same (tLc (iRng1 ta) (gName j) tt te vs) σ H (NewLv (Lv n.toNat)) :=
  ep_lc (X := fun i x => x = .int (0 + (i : Int))) (walk_range (lo := 0) (n := n.toNat)) (fun _ _ _ _ y => y) (ei_rng1 h (by omega)) (fun _ _ => trivial) (by omega) Lv hL h0 hwp fun i x acc H1 hi e hx p => by
    rw [Int.zero_add] at hx
    subst hx
    exact hs i acc H1 (by omega) e p
/-- no test -/
theorem et_true : EvT Same tYes σ H true := fun H1 _ _ q => q H1 (Same.refl H1)
/-- a call on a new list -/
theorem ep_cbL {R : Rl} [Rel R] {r : List V → Hp → VK → Prop} {Lv : List V → Hp → Prop} {P : V → Hp → Prop} (h : EvP R te σ H (NewLv Lv)) (hr : ∀ p acc H1, R H H1 → H1 p = some (.lst acc) → Lv acc H1 → ∀ Q : VK, (∀ v H2, R H1 H2 → P v H2 → Q v H2) → r [.ref p] H1 Q) : EvP R (tCB r (tCons te tNil)) σ H P := fun H1 e Q q =>
  h H1 e _ fun v H2 e2 ⟨p, acc, hv, hp, lv⟩ => by
    subst hv
    exact hr p acc H2 (Rel.trans e e2) hp lv Q fun v H3 e3 p' => q v H3 (Rel.trans e2 e3) p'
end

/-! ### if with a known answer -/
section
variable {R : Rl} [Rel R] {K : PySem.W.Frag} {σ : L2.St} {H : Hp} {ta tb te : TE} {t : TT} {x y v : V} {ts us ws : TS} {φ : V → Hp → Prop} {ψ : L2.St → Hp → Prop}
theorem es_ifT (h : EvT R t σ H true) (h1 : EvS R (tSeq ts us) σ H φ ψ) : EvS R (tSeq (tIfS t ts ws) us) σ H φ ψ := es_if h (fun _ => h1) fun z => nomatch z
theorem es_ifF (h : EvT R t σ H false) (h1 : EvS R (tSeq ws us) σ H φ ψ) : EvS R (tSeq (tIfS t ts ws) us) σ H φ ψ := es_if h (fun z => nomatch z) fun _ => h1
/-- the rest, told once ahead -/
theorem es_via {σ0 : L2.St} (m : EvS R us σ0 H φ ψ) (k : EvS R us σ0 H φ ψ → EvS R (tSeq ts us) σ H φ ψ) : EvS R (tSeq ts us) σ H φ ψ := k m
theorem es_if1T (h : EvT R t σ H true) (h1 : EvS R ts σ H φ ψ) : EvS R (tIfS t ts ws) σ H φ ψ := es_if1 h (fun _ => h1) fun z => nomatch z
theorem es_if1F (h : EvT R t σ H false) (h1 : EvS R ws σ H φ ψ) : EvS R (tIfS t ts ws) σ H φ ψ := es_if1 h (fun z => nomatch z) fun _ => h1
/-- blocks within blocks -/
theorem es_ifas (h : EvS R (tSeq ts us) σ H φ ψ) {t' : TS} (e : t' = ts) : EvS R (tSeq t' us) σ H φ ψ := e ▸ h
theorem es_flat {t1 t2 : TS} (h : EvS R (tSeq t1 (tSeq t2 us)) σ H φ ψ) : EvS R (tSeq (tSeq t1 t2) us) σ H φ ψ := fun H1 e D q n => h H1 e D q n
theorem es_ifin {t1 t2 : TS} (h : EvS R (tSeq (tIfS t t1 t2) us) σ H φ ψ) : EvS R (tSeq (tIfS t t1 t2) us) σ H φ ψ := h
theorem ev_sumL {ns : List Int} (h : EvP R te σ H (NewLv fun acc _ => acc = ns.map V.int)) : Ev R (tCB (rSum K) (tCons te tNil)) σ H (.int ns.sum) := fun H1 e Q q =>
  h H1 e _ fun v H2 e2 ⟨p, acc, hv, hp, lv⟩ => by
    subst hv lv
    exact ⟨p, ns, rfl, SqL.of hp, q H2 e2⟩
end
mutual
theorem dp_same {K : PySem.W.Frag} {H H' : Hp} (e : Same H H') : ∀ {v : V} {d : PyData}, Dp K H v d → Dp K H' v d
  | _, _, .non => .non
  | _, _, .bl b => .bl b
  | _, _, .int i => .int i
  | _, _, .str x => .str x
  | _, _, .lst h k => .lst (e.seq h) (dpAll_same e k)
  | _, _, .tup h k => .tup (by
      rcases h with (h | ⟨o, h⟩) | h
      · exact .inl (.inl (e _ _ h))
      · exact .inl (.inr ⟨o, e _ _ h⟩)
      · exact .inr h) (dpAll_same e k)
theorem dpAll_same {K : PySem.W.Frag} {H H' : Hp} (e : Same H H') : ∀ {vs : List V} {ds : List PyData}, DpAll K H vs ds → DpAll K H' vs ds
  | _, _, .nil => .nil
  | _, _, .cons h k => .cons (dp_same e h) (dpAll_same e k)
end
section
variable {K : PySem.W.Frag} {H : Hp} {x y : V} {d e : PyData}
theorem rv_eqD (h1 : Dp K H x d) (h2 : Dp K H y e) (s1 : SeqAt.shaped d = true) (s2 : SeqAt.shaped e = true) : RV Same (rEqD K) x y H (.bl (PyData.eqv d e)) := fun H1 a _ q => ⟨d, e, dp_same a h1, dp_same a h2, s1, s2, q H1 (Same.refl H1)⟩
theorem rv_neD (h1 : Dp K H x d) (h2 : Dp K H y e) (s1 : SeqAt.shaped d = true) (s2 : SeqAt.shaped e = true) : RV Same (rNeD K) x y H (.bl (!PyData.eqv d e)) := fun H1 a _ q => ⟨d, e, dp_same a h1, dp_same a h2, s1, s2, q H1 (Same.refl H1)⟩
end

section
variable {R : Rl} [Rel R] {K : PySem.W.Frag} {σ : L2.St} {H : Hp} {ta tb te : TE} {t : TT} {x y v : V} {ts us ws : TS} {φ : V → Hp → Prop} {ψ : L2.St → Hp → Prop}
theorem es_forRev {tl : TE} {tb : TS} {j : Nat} {a : Addr} {xs : List V} (h : Ev R tl σ H (.ref a)) (ha : H a = some (.tup xs)) (Iv : Nat → L2.St → Hp → Prop) (h0 : ∀ H1, R H H1 → Iv 0 σ H1)
    (hs : ∀ i x σ' H1, i < xs.length → R H H1 → Iv i σ' H1 → xs[xs.length - 1 - i]? = some x → EvS R tb (σ'.set j (some x)) H1 φ (Iv (i + 1))) (hd : ∀ σ' H1, R H H1 → Iv xs.length σ' H1 → ψ σ' H1) : EvS R (tFor (RT.iRevA K tl) (gName j) tb) σ H φ ψ :=
  es_for (X := fun i x => xs[xs.length - 1 - i]? = some x) (walk_revT (K := K) (a := a) (xs := xs)) (fun _ _ _ _ y => y) (ei_revT h ha) (fun H1 e => SqT.of (Rel.tup e ha)) Iv h0 (fun i x σ' H1 hi e p hx => hs i x σ' H1 hi e p hx) hd
theorem et_truL {a : Addr} {xs : List V} (h : Ev Same ta σ H (.ref a)) (ha : SqL K H a xs) : EvT Same (fun σ H Q => ta σ H fun x H' => ∃ k, TruV K x H' k ∧ Q k H') σ H (!xs.isEmpty) := fun H1 e Q q =>
  h H1 e _ fun H2 e2 => ⟨_, .inl ⟨xs, (e.trans e2).seq ha, rfl⟩, q H2 e2⟩
theorem ep_catL {a b : Addr} {xs ys : List V} (ha : EvP Same ta σ H (NewL xs)) (hb : Ev Same tb σ H (.ref b)) (hy : H b = some (.lst ys)) (hl : xs.length + ys.length ≤ sizeLine) : EvP Same (tOp rCat ta tb) σ H (NewL (xs ++ ys)) := fun H1 e Q q =>
  ha H1 e _ fun v H2 e2 ⟨p, hv, hp⟩ => by
    subst hv
    refine hb H2 (e.trans e2) _ fun H3 e3 => ⟨p, b, xs, ys, rfl, rfl, e3 _ _ hp, (e.trans (e2.trans e3)) _ _ hy, hl, fun l hl => ?_⟩
    exact q _ _ (e2.trans (e3.trans (same_new hl))) ⟨l, rfl, upd_same⟩
/-- the least, the greatest of a new list of ints -/
theorem ep_minL {ns : List Int} (h : EvP Same te σ H (NewLv fun acc _ => acc = ns.map V.int)) (hn : 0 < ns.length) : EvP Same (tCB (rMin K) (tCons te tNil)) σ H (fun v _ => ∃ m, v = .int m ∧ ∀ y ∈ ns, m ≤ y) := fun H1 e Q q =>
  h H1 e _ fun v H2 e2 ⟨p, acc, hv, hp, lv⟩ => by
    subst hv lv
    exact ⟨p, ns, rfl, SqL.of hp, hn, fun m _ hm => q _ H2 e2 ⟨m, rfl, hm⟩⟩
theorem ep_maxL {ns : List Int} (h : EvP Same te σ H (NewLv fun acc _ => acc = ns.map V.int)) (hn : 0 < ns.length) : EvP Same (tCB (rMax K) (tCons te tNil)) σ H (fun v _ => ∃ m, v = .int m ∧ ∀ y ∈ ns, y ≤ m) := fun H1 e Q q =>
  h H1 e _ fun v H2 e2 ⟨p, acc, hv, hp, lv⟩ => by
    subst hv lv
    exact ⟨p, ns, rfl, SqL.of hp, hn, fun m _ hm => q _ H2 e2 ⟨m, rfl, hm⟩⟩
end
section
variable {K : PySem.W.Frag} {σ : L2.St} {H : Hp} {tb te : TE} {P : V → Hp → Prop}
/-- [e] + xs -/
theorem ep_consCat {b : Addr} {ys : List V} (h : EvP Same te σ H P) (hst : Stay Same P) (hb : ∀ H1, Same H H1 → Ev Same tb σ H1 (.ref b)) (hy : H b = some (.lst ys)) (hl : ys.length < 100000) : EvP Same (tOp rCat (tLst (tCons te tNil)) tb) σ H (fun v H2 => ∃ p x, v = .ref p ∧ H2 p = some (.lst (x :: ys)) ∧ P x H2) := fun H1 e Q q =>
  h H1 e _ fun x H2 e2 px => ⟨Nat.le_of_ble_eq_true rfl, fun p hp => by
    have e3 := same_new (o := .lst [x]) hp
    have e13 := e2.trans e3
    refine hb _ (e.trans e13) _ (Same.refl _) _ fun H4 e4 => ⟨p, b, [x], ys, rfl, rfl, e4 _ _ upd_same, (e.trans (e13.trans e4)) _ _ hy, ?_, fun l hl2 => ?_⟩
    · have hz : (100001 : Nat) ≤ sizeLine := Nat.le_of_ble_eq_true rfl
      rw [List.length_singleton]
      omega
    · exact q _ _ (e13.trans (e4.trans (same_new hl2))) ⟨l, x, rfl, upd_same, hst _ _ _ (e3.trans (e4.trans (same_new hl2))) px⟩⟩
end
end Cs

namespace Cs
open PySem PySem.Spec PyProof.Rows L2
/-! ### plain data -/
structure R4 where
  l : Int
  t : Int
  w : Int
  h : Int
  deriving DecidableEq
def R4.vs (r : R4) : List V := [.int r.l, .int r.t, .int r.w, .int r.h]
inductive Sh where
  | rect | line | poly | circ | ts | tm | te
  deriving DecidableEq
def Sh.str : Sh → Str
  | .rect => "rectangle"
  | .line => "line"
  | .poly => "polyline"
  | .circ => "circle"
  | .ts => "text start"
  | .tm => "text middle"
  | .te => "text end"
structure Id3 where
  plot : Option Int
  role : Str
  key : Str
  deriving DecidableEq
structure Prim where
  who : Id3
  sh : Sh
  pts : List Int
  text : Str
  fill : Option Str
  stroke : Option Str
  clip : Option R4
  deriving DecidableEq
def oI : Option Int → V
  | none => .non
  | some i => .int i
def oS : Option Str → V
  | none => .non
  | some z => .str z
def Id3.vs (d : Id3) : List V := [oI d.plot, .str d.role, .str d.key]
abbrev RectAt (H : Hp) (a : Addr) (r : R4) : Prop := H a = some (.tup r.vs)
abbrev IntsAt (H : Hp) (a : Addr) (ns : List Int) : Prop := H a = some (.tup (ns.map V.int))
abbrev IdAt (H : Hp) (a : Addr) (d : Id3) : Prop := H a = some (.tup d.vs)
def ORect (H : Hp) (v : V) : Option R4 → Prop
  | none => v = .non
  | some r => ∃ a, v = .ref a ∧ RectAt H a r
def Prim.vs (p : Prim) (pa : Addr) (cv : V) : List V := [oI p.who.plot, .str p.who.role, .str p.who.key, .str p.sh.str, .ref pa, .str p.text, oS p.fill, oS p.stroke, cv]
def PrimAt (H : Hp) (a : Addr) (p : Prim) : Prop := ∃ pa cv, H a = some (.tup (p.vs pa cv)) ∧ IntsAt H pa p.pts ∧ ORect H cv p.clip
def PrimsAt (H : Hp) : List Addr → List Prim → Prop := Paired (PrimAt H)
def IdsAt (H : Hp) : List Addr → List Id3 → Prop := Paired (IdAt H)
def RectsAt (H : Hp) : List Addr → List R4 → Prop := Paired (RectAt H)
def SceneAt (H : Hp) (a : Addr) (w h : Int) (ps : List Prim) : Prop := ∃ ta as, H a = some (.tup [.int w, .int h, .ref ta]) ∧ H ta = some (.tup (as.map V.ref)) ∧ PrimsAt H as ps
section
variable {R : Rl} [Rel R] {H H' : Hp} {a : Addr} {v : V}
theorem ORect.keep (e : R H H') {o : Option R4} (h : ORect H v o) : ORect H' v o := by
  cases o with
  | none => exact h
  | some r =>
    obtain ⟨c, h1, h2⟩ := h
    exact ⟨c, h1, Rel.tup e h2⟩
theorem PrimAt.keep (e : R H H') {p : Prim} (h : PrimAt H a p) : PrimAt H' a p := by
  obtain ⟨pa, cv, h1, h2, h3⟩ := h
  exact ⟨pa, cv, Rel.tup e h1, Rel.tup e h2, h3.keep e⟩
theorem PrimsAt.keep (e : R H H') {as : List Addr} {ps : List Prim} (h : PrimsAt H as ps) : PrimsAt H' as ps := Paired.mapP h fun _ _ q => PrimAt.keep e q
theorem IdsAt.keep (e : R H H') {as : List Addr} {ps : List Id3} (h : IdsAt H as ps) : IdsAt H' as ps := Paired.mapP h fun _ _ q => Rel.tup e q
theorem RectsAt.keep (e : R H H') {as : List Addr} {ps : List R4} (h : RectsAt H as ps) : RectsAt H' as ps := Paired.mapP h fun _ _ q => Rel.tup e q
theorem SceneAt.keep (e : R H H') {w h : Int} {ps : List Prim} (x : SceneAt H a w h ps) : SceneAt H' a w h ps := by
  obtain ⟨ta, as, h1, h2, h3⟩ := x
  exact ⟨ta, as, Rel.tup e h1, Rel.tup e h2, h3.keep e⟩
end
theorem IdsAt.kt {H H' : Hp} (e : KT H H') {as : List Addr} {ps : List Id3} (h : IdsAt H as ps) : IdsAt H' as ps := Paired.mapP h fun _ _ q => e _ _ q
theorem RectsAt.kt {H H' : Hp} (e : KT H H') {as : List Addr} {ps : List R4} (h : RectsAt H as ps) : RectsAt H' as ps := Paired.mapP h fun _ _ q => e _ _ q
theorem PrimAt.kt {H H' : Hp} {a : Addr} (e : KT H H') {p : Prim} (h : PrimAt H a p) : PrimAt H' a p := by
  obtain ⟨pa, cv, h1, h2, h3⟩ := h
  refine ⟨pa, cv, e _ _ h1, e _ _ h2, ?_⟩
  cases hc : p.clip with
  | none =>
    rw [hc] at h3
    exact h3
  | some r =>
    rw [hc] at h3
    obtain ⟨c, g1, g2⟩ := h3
    exact ⟨c, g1, e _ _ g2⟩
theorem PrimsAt.kt {H H' : Hp} (e : KT H H') {as : List Addr} {ps : List Prim} (h : PrimsAt H as ps) : PrimsAt H' as ps := Paired.mapP h fun _ _ q => PrimAt.kt e q
theorem pair_get {α β : Type} {F : α → β → Prop} : ∀ {l₁ : List α} {l₂ : List β} {i : Nat} {x : α}, Paired F l₁ l₂ → l₁[i]? = some x → ∃ y, l₂[i]? = some y ∧ F x y
  | _, _, _, _, .nil, e => by simp at e
  | _, _, 0, _, .cons r _, e => by simp at e; subst e; exact ⟨_, rfl, r⟩
  | _, _, i + 1, x, .cons _ t, e => by
    obtain ⟨u, h1, h2⟩ := pair_get (i := i) (x := x) t (by simpa using e)
    exact ⟨u, by simpa using h1, h2⟩
theorem pair_snoc {α β : Type} {F : α → β → Prop} : ∀ {l₁ : List α} {l₂ : List β} {x : α} {y : β}, Paired F l₁ l₂ → F x y → Paired F (l₁ ++ [x]) (l₂ ++ [y])
  | _, _, _, _, .nil, h => .cons h .nil
  | _, _, _, _, .cons r t, h => .cons r (pair_snoc t h)
theorem pair_len {α β : Type} {F : α → β → Prop} : ∀ {l₁ : List α} {l₂ : List β}, Paired F l₁ l₂ → l₁.length = l₂.length
  | _, _, .nil => rfl
  | _, _, .cons _ t => by rw [List.length_cons, List.length_cons, pair_len t]

/-! ### what the program reckons -/
def contains (r : R4) (x y : Int) : Bool := (decide (r.l ≤ x) && decide (x < r.l + r.w)) && (decide (r.t ≤ y) && decide (y < r.t + r.h))
def gw1 : Str := "!'.:i|"
def gw2 : Str := "(),;[]`jl"
def gw3 : Str := " \"*-/1<>I\\^frt{}"
def gw4 : Str := "$023456789=?J_abcdeghknopqsuvxyz"
def gw (c : Nat) : Int := if c ∈ gw1.cps.toList then 1 else if c ∈ gw2.cps.toList then 2 else if c ∈ gw3.cps.toList then 3 else if c ∈ gw4.cps.toList then 4 else 5
def gws : List Nat → Int
  | [] => 0
  | c :: r => gw c + gws r
def tw (z : Str) : Int := if z.cps.size = 0 then 0 else gws z.cps.toList + z.cps.size - 1
def inkGo (x : Int) : Int → List Nat → Bool
  | _, [] => false
  | left, c :: r => if x < left + gw c then decide (left ≤ x) && !decide (c = 32) else inkGo x (left + gw c + 1) r
def inked (z : Str) (x y : Int) : Bool := !(decide (x < 0) || (decide (y < 0) || decide (7 ≤ y))) && inkGo x 0 z.cps.toList
def iabs (n : Int) : Int := if n < 0 then -n else n
def imin (i j : Int) : Int := if j < i then j else i
def imax (i j : Int) : Int := if j > i then j else i
def lineC (a b c d x y : Int) : Bool :=
  !(decide (x < imin a c) || (decide (imax a c < x) || (decide (y < imin b d) || decide (imax b d < y)))) && decide (2 * iabs ((y - b) * (c - a) - (x - a) * (d - b)) ≤ imax (iabs (c - a)) (iabs (d - b)))
def at0 (ns : List Int) (i : Nat) : Int := ns.getD i 0
def segC (ns : List Int) (x y : Int) (k : Nat) : Bool := lineC (at0 ns (2 * k)) (at0 ns (2 * k + 1)) (at0 ns (2 * k + 2)) (at0 ns (2 * k + 3)) x y
def anyN (n : Nat) (f : Nat → Bool) : Bool := (List.range n).any f
def polyC (ns : List Int) (x y : Int) : Bool := if ns.length = 2 then decide (at0 ns 0 = x) && decide (at0 ns 1 = y) else anyN (ns.length / 2 - 1) (segC ns x y)
def tleft (sh : Sh) (x w : Int) : Int := match sh with
  | .tm => x - w / 2
  | .te => x - w
  | _ => x
def cov (sh : Sh) (ns : List Int) (z : Str) (x y : Int) : Bool := match sh with
  | .rect => contains ⟨at0 ns 0, at0 ns 1, at0 ns 2, at0 ns 3⟩ x y
  | .line => lineC (at0 ns 0) (at0 ns 1) (at0 ns 2) (at0 ns 3) x y
  | .poly => polyC ns x y
  | .circ => decide ((x - at0 ns 0) * (x - at0 ns 0) + (y - at0 ns 1) * (y - at0 ns 1) ≤ at0 ns 2 * at0 ns 2 + at0 ns 2)
  | sh => inked z (x - tleft sh (at0 ns 0) (tw z)) (y - at0 ns 1)
/-- well formed -/
def Bd (n : Int) : Prop := -1000 ≤ n ∧ n ≤ 1000
def PtsOk (sh : Sh) (ns : List Int) : Prop := (∀ n ∈ ns, Bd n) ∧ match sh with
  | .rect => ns.length = 4
  | .line => ns.length = 4
  | .poly => ns.length % 2 = 0 ∧ 2 ≤ ns.length ∧ ns.length ≤ 20
  | .circ => ns.length = 3 ∧ 0 ≤ at0 ns 2
  | _ => ns.length = 2
def Asc (z : Str) : Prop := ∀ c ∈ z.cps.toList, c < 128
structure Id3.ok (d : Id3) : Prop where
  rl : d.role.length ≤ 100
  ra : Asc d.role
  kl : d.key.length ≤ 100
  ka : Asc d.key
  pl : ∀ i, d.plot = some i → 0 ≤ i ∧ i < 100
structure Prim.ok (p : Prim) : Prop where
  who : p.who.ok
  pts : PtsOk p.sh p.pts
  text : p.text.length ≤ 100
  asc : Asc p.text ∧ (∀ z, p.fill = some z → Asc z) ∧ ∀ z, p.stroke = some z → Asc z
def clipC (o : Option R4) (x y : Int) : Bool := match o with
  | none => true
  | some r => contains r x y
def Prim.geo (p : Prim) (x y : Int) : Bool := clipC p.clip x y && cov p.sh p.pts p.text x y
def Prim.ink (p : Prim) : Option Str := match p.sh with
  | .line => p.stroke
  | .poly => p.stroke
  | _ => p.fill
def Prim.paint (p : Prim) (x y : Int) : Option Str := if p.geo x y = true then p.ink else none
theorem contains_iff {r : R4} {x y : Int} : contains r x y = true ↔ (r.l ≤ x ∧ x < r.l + r.w) ∧ r.t ≤ y ∧ y < r.t + r.h := by
  unfold contains
  simp only [Bool.and_eq_true, decide_eq_true_eq]
/-- a rectangle, if there is a pixel -/
def Meets (r s : R4) (o : Option R4) : Prop := ∀ x y, contains r x y = true → contains s x y = true → ∃ c, o = some c ∧ contains c x y = true
theorem meets_none {r s : R4} (h : (decide (imin (r.l + r.w) (s.l + s.w) ≤ imax r.l s.l) || decide (imin (r.t + r.h) (s.t + s.h) ≤ imax r.t s.t)) = true) : Meets r s none := by
  intro x y h1 h2
  rw [contains_iff] at h1 h2
  simp only [Bool.or_eq_true, decide_eq_true_eq] at h
  unfold imin imax at h
  exfalso
  rcases h with h | h <;> split at h <;> split at h <;> omega
theorem meets_some {r s : R4} (h : (decide (imin (r.l + r.w) (s.l + s.w) ≤ imax r.l s.l) || decide (imin (r.t + r.h) (s.t + s.h) ≤ imax r.t s.t)) = false) :
    Meets r s (some ⟨imax r.l s.l, imax r.t s.t, imin (r.l + r.w) (s.l + s.w) - imax r.l s.l, imin (r.t + r.h) (s.t + s.h) - imax r.t s.t⟩) := by
  intro x y h1 h2
  rw [contains_iff] at h1 h2
  refine ⟨_, rfl, ?_⟩
  rw [contains_iff]
  simp only [imin, imax]
  refine ⟨⟨?_, ?_⟩, ?_, ?_⟩
  · split <;> omega
  · split <;> split <;> omega
  · split <;> omega
  · split <;> split <;> omega
/-! ### hits, colours -/
def Prim.hit (x y : Int) (p : Prim) : Bool := (p.paint x y).isSome
def hitsM (ps : List Prim) (x y : Int) : List Id3 := (ps.reverse.filter (Prim.hit x y)).map (·.who)
def white : Str := "#ffffff"
def firstC (x y : Int) : List Prim → Str
  | [] => white
  | p :: r => match p.paint x y with
    | some c => c
    | none => firstC x y r
def colM (ps : List Prim) (x y : Int) : Str := firstC x y ps.reverse
theorem pair_rev {α β : Type} {F : α → β → Prop} {l₁ : List α} {l₂ : List β} {i : Nat} {x : α} (h : Paired F l₁ l₂) (e : l₁[l₁.length - 1 - i]? = some x) (hi : i < l₁.length) : ∃ y, l₂.reverse[i]? = some y ∧ F x y := by
  obtain ⟨y, h1, h2⟩ := pair_get h e
  refine ⟨y, ?_, h2⟩
  have hl := pair_len h
  rw [List.getElem?_reverse (by omega), ← hl]
  exact h1
theorem map_get {as : List Addr} {i : Nat} {x : V} (e : (as.map V.ref)[i]? = some x) : ∃ a, x = .ref a ∧ as[i]? = some a := by
  rw [List.getElem?_map] at e
  cases h : as[i]? with
  | none =>
    rw [h] at e
    cases e
  | some a =>
    rw [h] at e
    exact ⟨a, (Option.some.inj e).symm, rfl⟩
theorem take_filter {α : Type} {l : List α} {f : α → Bool} {i : Nat} {x : α} (h : l[i]? = some x) : (l.take (i + 1)).filter f = if f x = true then (l.take i).filter f ++ [x] else (l.take i).filter f := by
  rw [List.take_add_one, h, List.filter_append]
  show _ ++ ([x] : List α).filter f = _
  rw [List.filter_cons]
  split
  · rfl
  · rw [List.filter_nil, List.append_nil]
def Encl (r : R4) (b : R4) : Prop := (r.l ≤ b.l ∧ b.l + b.w ≤ r.l + r.w) ∧ r.t ≤ b.t ∧ b.t + b.h ≤ r.t + r.h
theorem Encl.has {r b : R4} {x y : Int} (e : Encl r b) (h : contains b x y = true) : contains r x y = true := by
  obtain ⟨⟨h1, h2⟩, h3, h4⟩ := e
  rw [contains_iff] at h ⊢
  omega
end Cs

namespace Cs
open PySem PySem.Spec PyProof.Rows L2
/-! ### t[::2], t[1::2] -/
section
variable {prog : Program} {w : World} {A : Around} {E : Value → Shared → Prop} {s : Shared}
theorem sliceApplied_two {sl : Addr} {vl : Value} {lo : Option Int} {u : Tok} {n : Nat} {Q : Int × Int × Nat → Shared → Prop} (hs : s.heap.IsSliceOf sl vl .none (.int 2 u)) (pl : IsPart vl lo)
    (h : Q ((Builtin.Slice.sliceAdjust lo none 2 n).1, 2, Builtin.Slice.slicePlaces (Builtin.Slice.sliceAdjust lo none 2 n).1 (Builtin.Slice.sliceAdjust lo none 2 n).2 2) s) : wpAny (model prog w) A (Builtin.Slice.sliceApplied (.ref sl) (pure (n : Int))) Q E s := by
  obtain ⟨os, hos, hcs, hds⟩ := id hs
  unfold Builtin.Slice.sliceApplied Builtin.Slice.sliceFields
  refine wpAny_bind (wpAny_bind (wpAny_field hos hds (x := vl) rfl (wpAny_bind (wpAny_field hos hds (x := .none) rfl (wpAny_bind (wpAny_field hos hds (x := .int 2 u) rfl (wpAny_pure ?_)))))))
  refine wpAny_bind (HT.slicePart_ (.int 2 u) ?_)
  show wpAny _ _ (if ((2 : Int) == 0) = true then _ else _) _ _ s
  rw [if_neg (by decide)]
  refine wpAny_bind (HT.slicePart_ pl (wpAny_bind (HT.slicePart_ .none (wpAny_bind (wpAny_pure ?_)))))
  exact wpAny_pure h
/-- every second item from lo on -/
def stepI {α : Type} (xs : List α) (lo : Nat) : List α := (List.range ((xs.length - lo + 1) / 2)).filterMap fun m => xs[lo + 2 * m]?
theorem places_two (lo : Nat) (n : Nat) (h : lo ≤ n) : Builtin.Slice.slicePlaces (lo : Int) (n : Int) 2 = (n - lo + 1) / 2 := by
  unfold Builtin.Slice.slicePlaces
  rw [if_pos (by decide)]
  split <;> omega
theorem getItem_tuple_two {t sl : Addr} {items : Array Value} {vl : Value} {lo : Nat} {o : Option Int} {u : Tok} {Q : Value → Shared → Prop} (ht : IsTup s.heap t items) (hs : s.heap.IsSliceOf sl vl .none (.int 2 u)) (pl : IsPart vl o)
    (ho : (o = none ∧ lo = 0) ∨ o = some (lo : Int)) (hl : lo ≤ items.size) (hsz : items.size ≤ sizeLine)
    (h : Q (.ref s.heap.objs.size) { s with heap := s.heap.push { cls := .type "tuple", data := .seq (stepI items.toList lo).toArray } }) : wpAny (model prog w) A (getItem (.ref t) (.ref sl)) Q E s := by
  obtain ⟨os, hos, hcs, hds⟩ := id hs
  have hTs : s.TypeIs (.ref sl) "slice" := ⟨os, hos, hcs⟩
  have ea : Builtin.Slice.sliceAdjust o none 2 (items.size : Int) = ((lo : Int), (items.size : Int)) := by
    unfold Builtin.Slice.sliceAdjust
    rcases ho with ⟨h1, h2⟩ | h1
    · subst h1 h2
      rfl
    · subst h1
      have h1 : ¬ (2 : Int) < 0 := by decide
      have h2 : ¬ (lo : Int) < 0 := by omega
      have h3 : min (lo : Int) (items.size : Int) = (lo : Int) := by omega
      simp only [if_neg h1, if_neg h2, h3]
  unfold getItem
  try with_reducible refine wpAny_holding ?_
  first | refine wpAny_bind (wpAny_pure ?_) | skip
  refine wpAny_bind (wpAny_sequenceKey ht.typeIs (by decide) ?_)
  refine wpAny_bind (wpAny_callSpecial?_slot (name := Str.ofString "__getitem__") ht.typeIs PyProof.Rows.slot_tuple_getitem
    (wpAny_call_entry PyProof.Rows.slot_tuple_getitem ht.typeIs entry_tuple_getitem ?_ (args_tuple_getitem _ _)))
  show wpAny _ _ (Builtin.Tuple.tupleItemsOf (.ref t) >>= _) _ _ s
  refine wpAny_bind (tupleItemsOf_ ht ?_)
  refine wpAny_bind (wpAny_typeOf hTs ?_)
  rw [if_pos (by decide)]
  refine wpAny_bind (sliceApplied_two hs pl ?_)
  rw [ea, places_two lo items.size hl]
  show wpAny _ _ (if (((lo : Nat) : Int) == 0 && (2 : Int) == 1 && ((items.size - lo + 1) / 2 == items.size)) = true then _ else _) _ _ s
  rw [if_neg (by rw [show ((2 : Int) == 1) = false from rfl, Bool.and_false, Bool.false_and]; decide)]
  have epick : ((List.range ((items.size - lo + 1) / 2)).filterMap fun (m : Nat) => items[((lo : Int) + (m : Int) * 2).toNat]?).toArray = (stepI items.toList lo).toArray := by
    unfold stepI
    rw [Array.length_toList]
    have e : (fun (m : Nat) => items[((lo : Int) + (m : Int) * 2).toNat]?) = fun m => items.toList[lo + 2 * m]? := by
      funext m
      have : ((lo : Int) + (m : Int) * 2).toNat = lo + 2 * m := by omega
      rw [this, Array.getElem?_toList]
    rw [e]
  rw [epick]
  have htake : sizeOk (.seq (stepI items.toList lo).toArray) := by
    show (stepI items.toList lo).length ≤ sizeLine
    unfold stepI
    have h1 := List.length_filterMap_le (fun m => items.toList[lo + 2 * m]?) (List.range ((items.toList.length - lo + 1) / 2))
    rw [List.length_range] at h1
    have h2 : items.toList.length = items.size := Array.length_toList
    omega
  first
    | exact wpAny_bind (m := Builtin.Tuple.tupleExact _) (wpAny_newObj_type (wpAny_pure ⟨_, rfl, wpAny_pure h⟩) htake)
    | exact wpAny_bind (m := Builtin.Tuple.tupleExact _) (wpAny_newObj_type (wpAny_bind (wpAny_pure (wpAny_pure ⟨_, rfl, wpAny_pure h⟩))) htake)
    | exact wpAny_bind (wpAny_bind (m := Builtin.Tuple.tupleExact _) (wpAny_newObj_type (wpAny_pure (wpAny_pure ⟨_, rfl, wpAny_pure h⟩)) htake))
    | exact wpAny_bind (wpAny_bind (m := Builtin.Tuple.tupleExact _) (wpAny_newObj_type (wpAny_pure ⟨_, rfl, wpAny_pure h⟩) htake))
end
theorem vals_filterMap {xs : List V} {us : List Value} (r : Vals xs us) (f : Nat → Nat) : ∀ l : List Nat, Vals (l.filterMap fun m => xs[f m]?) (l.filterMap fun m => us[f m]?)
  | [] => .nil
  | m :: l => by
    rw [List.filterMap_cons, List.filterMap_cons]
    cases e : xs[f m]? with
    | none =>
      rw [r.none_of e]
      exact vals_filterMap r f l
    | some x =>
      obtain ⟨u, e2, rx⟩ := r.get e
      rw [e2]
      exact .cons rx (vals_filterMap r f l)
theorem vals_step {xs : List V} {us : List Value} (r : Vals xs us) (lo : Nat) : Vals (stepI xs lo) (stepI us lo) := by
  unfold stepI
  rw [← r.length]
  exact vals_filterMap r (fun m => lo + 2 * m) _
section
variable {X : Cx} {e : Expr} {lo : Option Expr} {te : TE} {tl : TO} {pos p1 p2 : Pos} {j : Nat}
def tStep (K : PySem.W.Frag) (te : TE) (tl : TO) : TE := fun σ H Q => te σ H fun x H1 => tl σ H1 fun o H2 => ∃ (a : Addr) (xs : List V) (lo : Nat), x = .ref a ∧ SqT K H2 a xs ∧ ((o = none ∧ lo = 0) ∨ o = some (lo : Int)) ∧ lo ≤ xs.length ∧
  ∀ p, H2 p = none → Q (.ref p) (upd H2 p (.tup (stepI xs lo)))
theorem pe_step2 (he : PE X e te) (hl : PO X lo tl) : PE X (.Subscript e (.Slice lo none (some (.Constant (.int 2) j p1)) p2) pos) (tStep X.K te tl) := by
  refine ⟨fun pins s σ H Q I h => ?_⟩
  refine Subscript_ (thn (he.run pins s σ H _ I h) fun v s1 ⟨x, H1, I1, r1, q1⟩ => ?_)
  refine wpAny_Slice (thn (hl.run pins s1 σ H1 _ I1 q1) fun vl s2 ⟨l, H2, I2, pl, q2⟩ => ?_)
  rw [evalPart_none]
  refine wpAny_pure ?_
  rw [evalPart_some]
  refine wpAny_Constant_int ?_
  obtain ⟨a, xs, lo0, e1, hx, ho, hlo, q⟩ := q2
  subst e1
  cases r1
  have I3 : Inv X pins σ H2 { s2 with toks := s2.toks + 1 } := I2.tok _
  have I4 : Inv X pins σ H2 { s2 with heap := s2.heap.push { cls := .type "slice", data := .fields #[vl, .none, .int 2 s2.toks] }, toks := s2.toks + 1 } := I3.kept (t' := s2.toks + 1) fun b ob q => Heap.get?_push_of_some _ q
  obtain ⟨its, rv, ht, hz⟩ := I4.tuple hx
  have hlen : its.toArray.size = xs.length := by rw [List.size_toArray]; exact rv.length.symm
  refine tail_any (ops := [.ref a, .ref s2.heap.objs.size]) ht.typeIs PyProof.Rows.slot_tuple_getitem.lookup (getItem_tuple_two (lo := lo0) (o := l) ht (Heap.IsSliceOf.new ..) pl ho (by rw [hlen]; exact hlo) (by rw [hlen]; exact hz) ?_) (by with_unfolding_all rfl)
  refine ⟨.ref _, _, I4.laid (t' := s2.toks + 1) (o := .tup (stepI xs lo0)) (fun b ob q => Heap.get?_push_of_some _ q) (Nat.le_refl _) ?_, rfl, q _ (I4.hok.fresh (Nat.le_refl _))⟩
  refine ⟨?_, stepI its lo0, vals_step rv lo0, IsTup.new _ _⟩
  unfold stepI
  have h1 := List.length_filterMap_le (fun m => xs[lo0 + 2 * m]?) (List.range ((xs.length - lo0 + 1) / 2))
  rw [List.length_range] at h1
  omega
end

/-! ### x in t, t a tuple of data -/
section
variable {X : Cx}
def rInTD (K : PySem.W.Frag) : R2 := fun x y H Q => ∃ d ds, Dp K H x d ∧ Dp K H y (.tuple ds) ∧ SeqAt.shaped d = true ∧ SeqAt.shaped (.tuple ds) = true ∧ Q (.bl (ds.any fun z => PyData.eqv z d)) H
theorem op_inTD (hu : X.A.units + 65 < cLine) : OpR X (compareOp .In) (rInTD X.K) := by
  intro pins s σ H x y v u Q I rx ry h
  obtain ⟨d, ds, hd, he, sd, se, q⟩ := h
  obtain ⟨as, r1⟩ := Dp.reads I d x v hd rx
  obtain ⟨bs, r2⟩ := Dp.reads I (.tuple ds) y u he ry
  exact SeqAt.in_tuple_reads r2 r1 (SeqAt.canLay_of_shaped se) (SeqAt.canLay_of_shaped sd) (room_in_shaped sd hu) ⟨.bl _, H, I, rfl, q⟩
end
/-! ### min(t), max(t), t a tuple of ints -/
theorem lt_data_int (a b : Int) : PySem.W.dataLt (.int a) (.int b) = decide (a < b) := by
  unfold PySem.W.dataLt PySem.W.keyToks
  show (_ : Bool) = _
  simp [PyProof.Rows.lexLt]
  rfl
def minL (x : Int) (xs : List Int) : Int := xs.foldl (fun a y => if y < a then y else a) x
def maxL (x : Int) (xs : List Int) : Int := xs.foldl (fun a y => if a < y then y else a) x
theorem minD_int : ∀ (xs : List Int) (x : Int), PySem.W.minD (.int x) (xs.map PyData.int) = .int (minL x xs)
  | [], x => rfl
  | y :: ys, x => by
    show PySem.W.minD (if PySem.W.dataLt (.int y) (.int x) then .int y else .int x) (ys.map PyData.int) = .int (minL (if y < x then y else x) ys)
    rw [lt_data_int]
    by_cases h : y < x
    · rw [if_pos (decide_eq_true h), if_pos h]
      exact minD_int ys y
    · rw [if_neg (by simpa using h), if_neg h]
      exact minD_int ys x
theorem maxD_int : ∀ (xs : List Int) (x : Int), PySem.W.maxD (.int x) (xs.map PyData.int) = .int (maxL x xs)
  | [], x => rfl
  | y :: ys, x => by
    show PySem.W.maxD (if PySem.W.dataLt (.int x) (.int y) then .int y else .int x) (ys.map PyData.int) = .int (maxL (if x < y then y else x) ys)
    rw [lt_data_int]
    by_cases h : x < y
    · rw [if_pos (decide_eq_true h), if_pos h]
      exact maxD_int ys y
    · rw [if_neg (by simpa using h), if_neg h]
      exact maxD_int ys x
theorem minL_le : ∀ (xs : List Int) (x : Int), minL x xs ≤ x ∧ ∀ y ∈ xs, minL x xs ≤ y
  | [], x => ⟨Int.le_refl _, fun y h => nomatch h⟩
  | z :: zs, x => by
    have ih := minL_le zs (if z < x then z else x)
    show minL (if z < x then z else x) zs ≤ x ∧ ∀ y ∈ z :: zs, minL (if z < x then z else x) zs ≤ y
    have h1 : (if z < x then z else x) ≤ x := by split <;> omega
    have h2 : (if z < x then z else x) ≤ z := by split <;> omega
    refine ⟨by omega, fun y hy => ?_⟩
    rcases List.mem_cons.mp hy with e | hy
    · subst e
      omega
    · exact ih.2 y hy
theorem maxL_ge : ∀ (xs : List Int) (x : Int), x ≤ maxL x xs ∧ ∀ y ∈ xs, y ≤ maxL x xs
  | [], x => ⟨Int.le_refl _, fun y h => nomatch h⟩
  | z :: zs, x => by
    have ih := maxL_ge zs (if x < z then z else x)
    show x ≤ maxL (if x < z then z else x) zs ∧ ∀ y ∈ z :: zs, y ≤ maxL (if x < z then z else x) zs
    have h1 : x ≤ (if x < z then z else x) := by split <;> omega
    have h2 : z ≤ (if x < z then z else x) := by split <;> omega
    refine ⟨by omega, fun y hy => ?_⟩
    rcases List.mem_cons.mp hy with e | hy
    · subst e
      omega
    · exact ih.2 y hy
theorem dp_ints {K : PySem.W.Frag} {H : Hp} : ∀ ns : List Int, DpAll K H (ns.map V.int) (ns.map PyData.int)
  | [] => .nil
  | n :: r => .cons (.int n) (dp_ints r)
theorem depth_ints : ∀ ns : List Int, PyData.depthAll (ns.map PyData.int) = 0
  | [] => by simp [PyData.depthAll]
  | n :: r => by simp [PyData.depthAll, PyData.depth, depth_ints r]
theorem alike_ints (ns : List Int) : PySem.W.AlikeAll (ns.map PyData.int) := by
  refine ⟨fun x hx y hy => ?_, fun x hx => ?_⟩
  · obtain ⟨a, _, rfl⟩ := List.mem_map.mp hx
    obtain ⟨b, _, rfl⟩ := List.mem_map.mp hy
    simp [PySem.W.alike]
  · obtain ⟨a, _, rfl⟩ := List.mem_map.mp hx
    exact fun z => nomatch z
section
variable {X : Cx}
def rMinT (K : PySem.W.Frag) : List V → Hp → VK → Prop := fun vs H Q => ∃ (a : Addr) (n : Int) (ns : List Int), vs = [V.ref a] ∧ SqT K H a ((n :: ns).map V.int) ∧ Q (.int (minL n ns)) H
def rMaxT (K : PySem.W.Frag) : List V → Hp → VK → Prop := fun vs H Q => ∃ (a : Addr) (n : Int) (ns : List Int), vs = [V.ref a] ∧ SqT K H a ((n :: ns).map V.int) ∧ Q (.int (maxL n ns)) H
theorem cr_minT (hc : X.calm = true) (hu : X.A.units + 65 < cLine) : CallR X (.builtin "min") (rMinT X.K) := by
  intro pins s σ H vs us Q I r h
  obtain ⟨a, n, ns, rfl, hs, q⟩ := h
  obtain ⟨its, rv, hl, _⟩ := I.tuple hs
  obtain ⟨u, rfl, rx⟩ := vals1 r
  cases rx
  obtain ⟨as, hr⟩ := Dp.readsAll I ((n :: ns).map PyData.int) _ its (dp_ints (n :: ns)) rv
  refine PySem.W.min_tuple_data (vs := its.toArray) (x := .int n) (xs := ns.map PyData.int) (as := as) (I.ok.hd hc) hl (by simpa using hr) (alike_ints (n :: ns)) (by
    have e : PyData.depthAll (PyData.int n :: ns.map PyData.int) = 0 := depth_ints (n :: ns)
    rw [e]
    omega) fun i v h' tk bs hv hrd hk => ?_
  rw [minD_int] at hrd
  cases hrd with
  | int => exact ⟨.int _, H, I.kept hk, ⟨_, rfl⟩, q⟩
theorem cr_maxT (hc : X.calm = true) (hu : X.A.units + 65 < cLine) : CallR X (.builtin "max") (rMaxT X.K) := by
  intro pins s σ H vs us Q I r h
  obtain ⟨a, n, ns, rfl, hs, q⟩ := h
  obtain ⟨its, rv, hl, _⟩ := I.tuple hs
  obtain ⟨u, rfl, rx⟩ := vals1 r
  cases rx
  obtain ⟨as, hr⟩ := Dp.readsAll I ((n :: ns).map PyData.int) _ its (dp_ints (n :: ns)) rv
  refine PySem.W.max_tuple_data (vs := its.toArray) (x := .int n) (xs := ns.map PyData.int) (as := as) (I.ok.hd hc) hl (by simpa using hr) (alike_ints (n :: ns)) (by
    have e : PyData.depthAll (PyData.int n :: ns.map PyData.int) = 0 := depth_ints (n :: ns)
    rw [e]
    omega) fun i v h' tk bs hv hrd hk => ?_
  rw [maxD_int] at hrd
  cases hrd with
  | int => exact ⟨.int _, H, I.kept hk, ⟨_, rfl⟩, q⟩
end
section
variable {R : Rl} [Rel R] {K : PySem.W.Frag} {σ : L2.St} {H : Hp} {te : TE} {tl : TO}
theorem rc_minT {a : Addr} {n : Int} {ns : List Int} (h : H a = some (.tup ((n :: ns).map V.int))) : RC R (rMinT K) [.ref a] H (.int (minL n ns)) := fun H1 e _ q => ⟨a, n, ns, rfl, SqT.of (Rel.tup e h), q H1 (Rel.refl H1)⟩
theorem rc_maxT {a : Addr} {n : Int} {ns : List Int} (h : H a = some (.tup ((n :: ns).map V.int))) : RC R (rMaxT K) [.ref a] H (.int (maxL n ns)) := fun H1 e _ q => ⟨a, n, ns, rfl, SqT.of (Rel.tup e h), q H1 (Rel.refl H1)⟩
theorem ep_step {a : Addr} {xs : List V} {lo : Nat} {o : Option Int} (h : Ev R te σ H (.ref a)) (h1 : EvO R tl σ H o) (hs : H a = some (.tup xs)) (ho : (o = none ∧ lo = 0) ∨ o = some (lo : Int)) (hl : lo ≤ xs.length) : EvP R (tStep K te tl) σ H (NewT (stepI xs lo)) := fun H1 e _ q =>
  h H1 e _ fun H2 e2 => h1 H2 (Rel.trans e e2) _ fun H3 e3 => ⟨a, xs, lo, rfl, SqT.of (Rel.tup (Rel.trans e (Rel.trans e2 e3)) hs), ho, hl, fun p hp => q _ _ (Rel.trans (Rel.trans e2 e3) (Rel.new hp)) ⟨p, rfl, upd_same⟩⟩
end
end Cs

namespace Cs
open PySem PySem.Spec PyProof.Rows L2
/-! ### every second item -/
theorem stepI_map {α β : Type} (f : α → β) (xs : List α) (lo : Nat) : stepI (xs.map f) lo = (stepI xs lo).map f := by
  unfold stepI
  rw [List.length_map, List.map_filterMap]
  congr 1
  funext m
  rw [List.getElem?_map]
theorem mem_step {xs : List Int} {lo i : Nat} (h : lo + 2 * i < xs.length) : at0 xs (lo + 2 * i) ∈ stepI xs lo := by
  unfold stepI
  refine List.mem_filterMap.mpr ⟨i, List.mem_range.mpr (by omega), ?_⟩
  unfold at0
  rw [List.getD_eq_getElem?_getD, List.getElem?_eq_getElem h]
  rfl
theorem step_cons {xs : List Int} {lo : Nat} (h : lo < xs.length) : ∃ c cs, stepI xs lo = c :: cs := by
  have h1 := mem_step (xs := xs) (lo := lo) (i := 0) (by omega)
  cases e : stepI xs lo with
  | nil =>
    rw [e] at h1
    cases h1
  | cons c cs => exact ⟨c, cs, rfl⟩
/-- the rectangle around a shape -/
def AroundOk (sh : Sh) (ns : List Int) (z : Str) (r : R4) : Prop := match sh with
  | .rect => r = ⟨at0 ns 0, at0 ns 1, at0 ns 2, at0 ns 3⟩
  | .circ => r = ⟨at0 ns 0 - at0 ns 2, at0 ns 1 - at0 ns 2, 2 * at0 ns 2 + 1, 2 * at0 ns 2 + 1⟩
  | .line => ∀ i : Nat, 2 * i + 1 < ns.length → (r.l ≤ at0 ns (2 * i) ∧ at0 ns (2 * i) < r.l + r.w) ∧ r.t ≤ at0 ns (2 * i + 1) ∧ at0 ns (2 * i + 1) < r.t + r.h
  | .poly => ∀ i : Nat, 2 * i + 1 < ns.length → (r.l ≤ at0 ns (2 * i) ∧ at0 ns (2 * i) < r.l + r.w) ∧ r.t ≤ at0 ns (2 * i + 1) ∧ at0 ns (2 * i + 1) < r.t + r.h
  | sh => r = ⟨tleft sh (at0 ns 0) (tw z), at0 ns 1, tw z, 7⟩
theorem box_ok {ns : List Int} {c d : Int} {cs ds : List Int} (h1 : stepI ns 0 = c :: cs) (h2 : stepI ns 1 = d :: ds) :
    ∀ i : Nat, 2 * i + 1 < ns.length → (minL c cs ≤ at0 ns (2 * i) ∧ at0 ns (2 * i) < minL c cs + (maxL c cs - minL c cs + 1)) ∧ minL d ds ≤ at0 ns (2 * i + 1) ∧ at0 ns (2 * i + 1) < minL d ds + (maxL d ds - minL d ds + 1) := by
  intro i hi
  have m1 := mem_step (xs := ns) (lo := 0) (i := i) (by omega)
  have m2 := mem_step (xs := ns) (lo := 1) (i := i) (by omega)
  rw [h1, Nat.zero_add] at m1
  rw [h2, Nat.add_comm 1] at m2
  have a1 := minL_le cs c
  have a2 := maxL_ge cs c
  have b1 := minL_le ds d
  have b2 := maxL_ge ds d
  have p1 : minL c cs ≤ at0 ns (2 * i) ∧ at0 ns (2 * i) ≤ maxL c cs := by
    rcases List.mem_cons.mp m1 with e | m
    · rw [e]; exact ⟨a1.1, a2.1⟩
    · exact ⟨a1.2 _ m, a2.2 _ m⟩
  have p2 : minL d ds ≤ at0 ns (2 * i + 1) ∧ at0 ns (2 * i + 1) ≤ maxL d ds := by
    rcases List.mem_cons.mp m2 with e | m
    · rw [e]; exact ⟨b1.1, b2.1⟩
    · exact ⟨b1.2 _ m, b2.2 _ m⟩
  omega
/-! ### what is covered lies in the rectangle around -/
theorem lineC_in {a b c d x y : Int} (h : lineC a b c d x y = true) : (imin a c ≤ x ∧ x ≤ imax a c) ∧ imin b d ≤ y ∧ y ≤ imax b d := by
  unfold lineC at h
  simp only [Bool.and_eq_true, Bool.not_eq_true', Bool.or_eq_false_iff, decide_eq_false_iff_not] at h
  omega
theorem line_box {r : R4} {a b c d x y : Int} (h : lineC a b c d x y = true) (h1 : (r.l ≤ a ∧ a < r.l + r.w) ∧ r.t ≤ b ∧ b < r.t + r.h) (h2 : (r.l ≤ c ∧ c < r.l + r.w) ∧ r.t ≤ d ∧ d < r.t + r.h) : contains r x y = true := by
  rw [contains_iff]
  have q := lineC_in h
  unfold imin imax at q
  split at q <;> split at q <;> split at q <;> split at q <;> omega
theorem sq_le {u r k : Int} (h0 : 0 ≤ r) (hk : 0 ≤ k) (h : u * u + k ≤ r * r + r) : -r ≤ u ∧ u ≤ r := by
  refine ⟨Int.not_lt.mp fun q => ?_, Int.not_lt.mp fun q => ?_⟩
  · have h1 : (r + 1) * (r + 1) ≤ (-u) * (-u) := Int.mul_le_mul (by omega) (by omega) (by omega) (by omega)
    rw [Int.neg_mul_neg] at h1
    have h2 : (r + 1) * (r + 1) = r * r + r + r + 1 := by rw [Int.add_mul, Int.mul_add]; omega
    omega
  · have h1 : (r + 1) * (r + 1) ≤ u * u := Int.mul_le_mul (by omega) (by omega) (by omega) (by omega)
    have h2 : (r + 1) * (r + 1) = r * r + r + r + 1 := by rw [Int.add_mul, Int.mul_add]; omega
    omega
theorem sq_nonneg (u : Int) : 0 ≤ u * u := by
  rcases Int.le_total 0 u with h | h
  · exact Int.mul_nonneg h h
  · have := Int.mul_nonneg (show (0 : Int) ≤ -u by omega) (show (0 : Int) ≤ -u by omega)
    rwa [Int.neg_mul_neg] at this
theorem gw_pos (c : Nat) : 1 ≤ gw c := by
  unfold gw
  split
  · omega
  split
  · omega
  split
  · omega
  split <;> omega
theorem gws_nonneg : ∀ cs : List Nat, 0 ≤ gws cs
  | [] => Int.le_refl _
  | c :: r => by
    have h1 := gw_pos c
    have h2 := gws_nonneg r
    show 0 ≤ gw c + gws r
    omega
theorem ink_in (x : Int) : ∀ (cs : List Nat) (left : Int), inkGo x left cs = true → left ≤ x ∧ x < left + gws cs + cs.length - 1 + 0 ∧ cs ≠ [] ∨ False
  | [], left, h => by cases h
  | c :: r, left, h => by
    left
    have g1 := gw_pos c
    have g2 := gws_nonneg r
    show left ≤ x ∧ x < left + (gw c + gws r) + ((c :: r).length : Nat) - 1 + 0 ∧ _
    rw [List.length_cons]
    unfold inkGo at h
    by_cases hc : x < left + gw c
    · rw [if_pos hc] at h
      have h1 := (Bool.and_eq_true_iff.mp h).1
      have h2 := of_decide_eq_true h1
      refine ⟨h2, ?_, List.cons_ne_nil _ _⟩
      omega
    · rw [if_neg hc] at h
      rcases ink_in x r _ h with ⟨h1, h2, _⟩ | h
      · refine ⟨by omega, ?_, List.cons_ne_nil _ _⟩
        omega
      · exact h.elim
theorem inked_in {z : Str} {x y : Int} (h : inked z x y = true) : (0 ≤ x ∧ x < tw z) ∧ 0 ≤ y ∧ y < 7 := by
  unfold inked at h
  simp only [Bool.and_eq_true, Bool.not_eq_true', Bool.or_eq_false_iff, decide_eq_false_iff_not] at h
  obtain ⟨⟨h1, h2, h3⟩, h4⟩ := h
  rcases ink_in x _ _ h4 with ⟨a1, a2, a3⟩ | a
  · unfold tw
    have hz : z.cps.size ≠ 0 := fun q => a3 (by
      have : z.cps.toList.length = 0 := by rw [Array.length_toList]; exact q
      exact List.eq_nil_of_length_eq_zero this)
    rw [if_neg hz]
    rw [Array.length_toList] at a2
    omega
  · exact a.elim
theorem anyN_iff {n : Nat} {f : Nat → Bool} : anyN n f = true ↔ ∃ k, k < n ∧ f k = true := by
  unfold anyN
  rw [List.any_eq_true]
  exact ⟨fun ⟨k, h1, h2⟩ => ⟨k, List.mem_range.mp h1, h2⟩, fun ⟨k, h1, h2⟩ => ⟨k, List.mem_range.mpr h1, h2⟩⟩
theorem cov_in {sh : Sh} {ns : List Int} {z : Str} {r : R4} {x y : Int} (ok : PtsOk sh ns) (ar : AroundOk sh ns z r) (h : cov sh ns z x y = true) : contains r x y = true := by
  obtain ⟨_, ok⟩ := ok
  cases sh with
  | rect =>
    have e : r = _ := ar
    subst e
    exact h
  | circ =>
    obtain ⟨_, h0⟩ : ns.length = 3 ∧ 0 ≤ at0 ns 2 := ok
    have e : r = _ := ar
    subst e
    have q : (x - at0 ns 0) * (x - at0 ns 0) + (y - at0 ns 1) * (y - at0 ns 1) ≤ at0 ns 2 * at0 ns 2 + at0 ns 2 := of_decide_eq_true h
    have q1 := sq_le h0 (sq_nonneg (y - at0 ns 1)) q
    have q2 := sq_le h0 (sq_nonneg (x - at0 ns 0)) (show (y - at0 ns 1) * (y - at0 ns 1) + (x - at0 ns 0) * (x - at0 ns 0) ≤ _ by omega)
    rw [contains_iff]
    show (at0 ns 0 - at0 ns 2 ≤ x ∧ x < at0 ns 0 - at0 ns 2 + (2 * at0 ns 2 + 1)) ∧ at0 ns 1 - at0 ns 2 ≤ y ∧ y < at0 ns 1 - at0 ns 2 + (2 * at0 ns 2 + 1)
    omega
  | line =>
    have hl : ns.length = 4 := ok
    exact line_box h (ar 0 (by omega)) (ar 1 (by omega))
  | poly =>
    obtain ⟨h2, hl, _⟩ : ns.length % 2 = 0 ∧ 2 ≤ ns.length ∧ ns.length ≤ 20 := ok
    have h : polyC ns x y = true := h
    unfold polyC at h
    by_cases e : ns.length = 2
    · rw [if_pos e] at h
      have a0 := ar 0 (by omega)
      have h1 := of_decide_eq_true (Bool.and_eq_true_iff.mp h).1
      have h3 := of_decide_eq_true (Bool.and_eq_true_iff.mp h).2
      rw [contains_iff]
      rw [← h1, ← h3]
      exact a0
    · rw [if_neg e] at h
      obtain ⟨k, hk, hs⟩ := anyN_iff.mp h
      exact line_box hs (ar k (by omega)) (ar (k + 1) (by omega))
  | ts =>
    have e : r = _ := ar
    subst e
    have q := inked_in (show inked z (x - tleft .ts (at0 ns 0) (tw z)) (y - at0 ns 1) = true from h)
    rw [contains_iff]
    show (tleft .ts (at0 ns 0) (tw z) ≤ x ∧ x < tleft .ts (at0 ns 0) (tw z) + tw z) ∧ at0 ns 1 ≤ y ∧ y < at0 ns 1 + 7
    omega
  | tm =>
    have e : r = _ := ar
    subst e
    have q := inked_in (show inked z (x - tleft .tm (at0 ns 0) (tw z)) (y - at0 ns 1) = true from h)
    rw [contains_iff]
    show (tleft .tm (at0 ns 0) (tw z) ≤ x ∧ x < tleft .tm (at0 ns 0) (tw z) + tw z) ∧ at0 ns 1 ≤ y ∧ y < at0 ns 1 + 7
    omega
  | te =>
    have e : r = _ := ar
    subst e
    have q := inked_in (show inked z (x - tleft .te (at0 ns 0) (tw z)) (y - at0 ns 1) = true from h)
    rw [contains_iff]
    show (tleft .te (at0 ns 0) (tw z) ≤ x ∧ x < tleft .te (at0 ns 0) (tw z) + tw z) ∧ at0 ns 1 ≤ y ∧ y < at0 ns 1 + 7
    omega
theorem len2 {ns : List Int} (h : ns.length = 2) : ∃ a b, ns = [a, b] := by
  match ns, h with
  | [a, b], _ => exact ⟨a, b, rfl⟩
theorem len3 {ns : List Int} (h : ns.length = 3) : ∃ a b c, ns = [a, b, c] := by
  match ns, h with
  | [a, b, c], _ => exact ⟨a, b, c, rfl⟩
theorem len4 {ns : List Int} (h : ns.length = 4) : ∃ a b c d, ns = [a, b, c, d] := by
  match ns, h with
  | [a, b, c, d], _ => exact ⟨a, b, c, d, rfl⟩
theorem take4 {α : Type} {l : List α} {k : Nat} (h : k + 4 ≤ l.length) : (l.drop k).take 4 = [l[k], l[k + 1], l[k + 2], l[k + 3]] := by
  rw [List.drop_eq_getElem_cons (by omega : k < l.length), List.drop_eq_getElem_cons (by omega : k + 1 < l.length), List.drop_eq_getElem_cons (by omega : k + 1 + 1 < l.length), List.drop_eq_getElem_cons (by omega : k + 1 + 1 + 1 < l.length)]
  rfl
theorem at0_get {ns : List Int} {k : Nat} (h : k < ns.length) : at0 ns k = ns[k] := by
  unfold at0
  rw [List.getD_eq_getElem?_getD, List.getElem?_eq_getElem h]
  rfl
theorem cut4 {ns : List Int} {i : Nat} {k : Int} (hk : k = ((2 * i : Nat) : Int)) (h : 2 * i + 4 ≤ ns.length) :
    cutV (ns.map V.int) (some k) (some (k + 4)) = [V.int (at0 ns (2 * i)), V.int (at0 ns (2 * i + 1)), V.int (at0 ns (2 * i + 2)), V.int (at0 ns (2 * i + 3))] := by
  have e4 : k + 4 = ((2 * i + 4 : Nat) : Int) := by omega
  rw [e4, hk]
  unfold cutV
  rw [HT.sIx_nat, HT.sIx_nat, List.length_map, Nat.min_eq_left (by omega), Nat.min_eq_left (by omega), show 2 * i + 4 - 2 * i = 4 by omega, take4 (by rw [List.length_map]; omega)]
  simp only [List.getElem_map]
  rw [at0_get (by omega), at0_get (by omega), at0_get (by omega), at0_get (by omega)]
theorem rg_two : ∀ m : Nat, m < 10 → RgC 0 (2 * (m : Int)) 2 m := by
  intro m hm
  have h : m = 0 ∨ m = 1 ∨ m = 2 ∨ m = 3 ∨ m = 4 ∨ m = 5 ∨ m = 6 ∨ m = 7 ∨ m = 8 ∨ m = 9 := by omega
  rcases h with h | h | h | h | h | h | h | h | h | h <;> subst h <;> exact ⟨by decide, by decide, by decide +kernel, by decide +kernel⟩
theorem at0_bd {ns : List Int} (h : ∀ n ∈ ns, Bd n) (k : Nat) : Bd (at0 ns k) := by
  by_cases hk : k < ns.length
  · rw [at0_get hk]
    exact h _ (List.getElem_mem hk)
  · unfold at0
    rw [List.getD_eq_getElem?_getD, List.getElem?_eq_none (by omega)]
    exact ⟨by decide, by decide⟩
theorem anyN_false {n : Nat} {f : Nat → Bool} (h : ∀ k, k < n → f k = false) : anyN n f = false := by
  cases e : anyN n f with
  | false => rfl
  | true =>
    obtain ⟨k, hk, hf⟩ := anyN_iff.mp e
    rw [h k hk] at hf
    cases hf
theorem anyN_true {n k : Nat} {f : Nat → Bool} (hk : k < n) (h : f k = true) : anyN n f = true := anyN_iff.mpr ⟨k, hk, h⟩
/-- data of ints in a tuple -/
theorem shaped_ints (ns : List Int) : SeqAt.shaped (.tuple (ns.map PyData.int)) = true := by
  have h1 : ∀ l : List Int, PyData.canLayAll0 (l.map PyData.int) = true := by
    intro l
    induction l with
    | nil => simp [PyData.canLayAll0]
    | cons a r ih => simp [PyData.canLayAll0, PyData.canLay0, ih]
  show (PyData.canLay0 (.tuple (ns.map PyData.int)) && decide ((PyData.tuple (ns.map PyData.int)).depth ≤ 64)) = true
  have h2 : PyData.depth (.tuple (ns.map PyData.int)) = 1 := by simp [PyData.depth, depth_ints]
  rw [Bool.and_eq_true]
  exact ⟨by simp [PyData.canLay0, h1], decide_eq_true (by omega)⟩
theorem eqv_two (a b c d : Int) : PyData.eqv (.tuple [.int a, .int b]) (.tuple [.int c, .int d]) = (decide (a = c) && decide (b = d)) := by
  simp only [PyData.eqv, PyData.eqvAll]
  by_cases h1 : a = c <;> by_cases h2 : b = d <;> simp [h1, h2]
theorem at_ints {ns : List Int} {k : Int} {j : Nat} (hk : k = (j : Int)) (h : j < ns.length) : atI (ns.map V.int) k = some (.int (at0 ns j)) := by
  rw [hk]
  refine atI_nat ?_
  rw [List.getElem?_map, List.getElem?_eq_getElem h, at0_get h]
  rfl
theorem ink_lt {x : Int} : ∀ (cs : List Nat) (left : Int), x < left → inkGo x left cs = false
  | [], _, _ => rfl
  | c :: r, left, h => by
    have g1 := gw_pos c
    unfold inkGo
    rw [if_pos (by omega), decide_eq_false (by omega), Bool.false_and]
theorem inked_eq (z : Str) (x y : Int) : inked z x y = ((decide (0 ≤ y) && decide (y < 7)) && inkGo x 0 z.cps.toList) := by
  unfold inked
  by_cases hx : x < 0
  · rw [ink_lt _ _ hx, Bool.and_false, Bool.and_false]
  · rw [decide_eq_false hx, Bool.false_or]
    by_cases h1 : y < 0
    · rw [decide_eq_true h1, decide_eq_false (show ¬ (0 ≤ y) by omega)]
      rfl
    · rw [decide_eq_false h1, decide_eq_true (show 0 ≤ y by omega), Bool.false_or, Bool.true_and]
      by_cases h2 : 7 ≤ y
      · rw [decide_eq_true h2, decide_eq_false (show ¬ (y < 7) by omega)]
        rfl
      · rw [decide_eq_false h2, decide_eq_true (show y < 7 by omega)]
        rfl
theorem pow_two (a : Int) : a ^ (2 : Int).toNat = a * a := by
  rw [show (2 : Int).toNat = 2 from rfl, Int.pow_succ, Int.pow_succ, Int.pow_zero, Int.one_mul]
/-- the law's way along a polyline -/
def segL (ns : List Int) (x y : Int) (k : Nat) : Bool := lineC (at0 ns (2 * k)) (at0 ns (2 * k + 1)) (at0 ns (min (2 * k + 2) (ns.length - 2))) (at0 ns (min (2 * k + 2) (ns.length - 2) + 1)) x y
theorem line_pt (a b x y : Int) : lineC a b a b x y = (decide (a = x) && decide (b = y)) := by
  unfold lineC imin imax iabs
  rw [if_neg (by omega), if_neg (by omega), if_neg (by omega), if_neg (by omega), Int.sub_self, Int.sub_self, Int.mul_zero, Int.mul_zero]
  by_cases h1 : a = x
  · by_cases h2 : b = y
    · subst h1 h2
      simp
    · rw [decide_eq_true h1, decide_eq_false h2]
      rcases Int.lt_or_gt_of_ne h2 with q | q
      · rw [decide_eq_true q]
        simp
      · rw [decide_eq_true q]
        simp
  · rw [decide_eq_false h1]
    rcases Int.lt_or_gt_of_ne h1 with q | q
    · rw [decide_eq_true q]
      simp
    · rw [decide_eq_true q]
      simp
theorem polyL {ns : List Int} {x y : Int} (h : 2 ≤ ns.length) (he : ns.length % 2 = 0) : anyN (max 1 (ns.length / 2 - 1)) (segL ns x y) = polyC ns x y := by
  unfold polyC
  by_cases h2 : ns.length = 2
  · rw [if_pos h2, h2]
    show (segL ns x y 0 || false) = _
    unfold segL
    rw [h2, Bool.or_false]
    exact line_pt _ _ _ _
  · rw [if_neg h2]
    have e : max 1 (ns.length / 2 - 1) = ns.length / 2 - 1 := by omega
    rw [e]
    have q : ∀ k, k < ns.length / 2 - 1 → segL ns x y k = segC ns x y k := fun k hk => by
      unfold segL segC
      rw [Nat.min_eq_left (by omega)]
    cases e2 : anyN (ns.length / 2 - 1) (segC ns x y) with
    | true =>
      obtain ⟨k, hk, hf⟩ := anyN_iff.mp e2
      exact anyN_true hk (by rw [q k hk]; exact hf)
    | false =>
      refine anyN_false fun k hk => ?_
      rw [q k hk]
      cases e3 : segC ns x y k with
      | false => rfl
      | true =>
        rw [anyN_true hk e3] at e2
        cases e2
theorem rg_law : ∀ m : Nat, m < 10 → RgC 0 (imax (2 * (m : Int)) 1) 2 (max 1 m) := by
  intro m hm
  have h : m = 0 ∨ m = 1 ∨ m = 2 ∨ m = 3 ∨ m = 4 ∨ m = 5 ∨ m = 6 ∨ m = 7 ∨ m = 8 ∨ m = 9 := by omega
  rcases h with h | h | h | h | h | h | h | h | h | h <;> subst h <;> exact ⟨by decide, by decide, by decide +kernel, by decide +kernel⟩
theorem gw2_law {c : Nat} : c ∈ ("(),;[]jl`" : Str).cps.toList ↔ c ∈ gw2.cps.toList := (show List.Perm ("(),;[]jl`" : Str).cps.toList gw2.cps.toList by decide +kernel).mem_iff
end Cs

namespace Cs
open PySem PySem.Spec PyProof.Rows L2
local macro_rules | `(tactic| walk_at "hp") => `(tactic| first | assumption)
local macro_rules | `(tactic| walk_at "num") => `(tactic| first | assumption | omega | decide)
local macro_rules | `(tactic| walk_at "rv") => `(tactic| first
  | (with_reducible exact rv_I0)
  | ((with_reducible apply rv_ixT); (walk_at "hp"); (rfl))
  | ((with_reducible apply rv_eq); (rfl))
  | ((with_reducible apply rv_ne); (rfl))
  | (with_reducible exact rv_isN)
  | (with_reducible exact rv_notN)
  | (with_reducible exact rv_inS)
  | ((with_reducible apply rv_I); (first | exact Or.inr ⟨by walk_at "num", by walk_at "num"⟩ | exact Or.inl ⟨by walk_at "num", by walk_at "num"⟩ | exact ⟨by walk_at "num", by walk_at "num"⟩ | exact ⟨by walk_at "num", by walk_at "num", by walk_at "num"⟩ | walk_at "num"))
  | ((with_reducible apply rv_ixS) <;> walk_at "num"))
local macro_rules | `(tactic| walk_at "rc") => `(tactic| first
  | (with_reducible exact rc_abs) | (with_reducible exact rc_max2) | (with_reducible exact rc_min2) | (with_reducible exact rc_int1)
  | ((with_reducible apply rc_lenT); walk_at "hp") | ((with_reducible apply rc_lenZ); walk_at "num"))
local macro_rules | `(tactic| walk_at "ev") => `(tactic| first
  | (with_reducible exact ev_c)
  | ((with_reducible apply ev_var); rfl)
  | ((with_reducible apply ev_op); (walk_at "ev"); (walk_at "ev"); (walk_at "rv"))
  | ((with_reducible apply ev_un); (walk_at "ev"); (exact ru_neg))
  | ((with_reducible apply ev_cb); (walk_at "ev"); (walk_at "rc"))
  | ((with_reducible apply ev_andV); (walk_at "ev"); (intro _; walk_at "ev"))
  | ((with_reducible apply ev_chain); (walk_at "ev"); (walk_at "ev"); (walk_at "rv"); (intro _; walk_at "ev"); (intro _; walk_at "rv"))
  | (with_reducible exact ea_nil)
  | ((with_reducible apply ea_cons); (walk_at "ev"); (walk_at "ev"))
  | ((with_reducible apply et_test); (walk_at "ev"))
  | ((with_reducible apply et_B); (walk_at "ev"))
  | ((with_reducible apply et_and); (walk_at "ev"); (intro _; walk_at "ev"))
  | ((with_reducible apply et_or); (walk_at "ev"); (intro _; walk_at "ev"))
  | ((with_reducible apply et_not); (walk_at "ev"))
  | (with_reducible exact eo_none)
  | ((with_reducible apply eo_some); (walk_at "ev")))
local macro_rules | `(tactic| walk_at "sz") => `(tactic| exact Nat.le_of_ble_eq_true rfl)
local macro_rules | `(tactic| walk_at "as") => `(tactic| ((with_reducible apply es_asg); (walk_at "ev")))
local macro_rules | `(tactic| walk_at "tp") => `(tactic| ((with_reducible apply ep_tup); (walk_at "ev"); (walk_at "sz")))
local macro_rules | `(tactic| walk_at "no") => `(tactic| ((with_reducible apply es_whenF); ((with_reducible apply et_is); (walk_at "ev"); (decide +kernel))))
local macro_rules | `(tactic| walk_at "yes") => `(tactic| ((with_reducible apply es_whenT); ((with_reducible apply et_is); (walk_at "ev"); (decide +kernel))))
section
variable {P : Program} {w : World} {K : PySem.W.Frag} {mg : Str → Option Value} {base : Heap}
def sp_contains (K : PySem.W.Frag) : Sp := fun vs H Q _ => ∃ a r x y, vs = [.ref a, .int x, .int y] ∧ RectAt H a r ∧ ∀ H2, Same H H2 → Q (.bl (contains r x y)) H2
theorem ok_contains (T : Txt K mg) : FnOk P w K mg base CX0 1 (He.ga K "contains") (fdOf K (He.ga K "contains")) p_contains (sp_contains K) := by
  refine T.contains.fn.ok sc_contains (fun vs H Q E h => ?_) (fun cdv A outer s H vs Q E hr h => ?_)
  · obtain ⟨a, r, x, y, rfl, ha, q⟩ := h
    rfl
  · obtain ⟨a, r, x, y, rfl, ha, q⟩ := h
    refine ⟨_, (pss_cons (ps_asg (pv 0) (pg_tup rfl (pgs_cons (pg_name (i := 3) sc_contains.nd rfl (Or.inl rfl)) (pgs_cons (pg_name (i := 4) sc_contains.nd rfl (Or.inl rfl)) (pgs_cons (pg_name (i := 5) sc_contains.nd rfl (Or.inl rfl)) (pgs_cons (pg_name (i := 6) sc_contains.nd rfl (Or.inl rfl)) pgs_nil)))))) (pss_one (ps_ret (pe_and (pe_chain op_le op_lt (pv 3) (pv 1) (pe_op op_add (pv 3) (pv 5))) (pe_one (pe_chain op_le op_lt (pv 4) (pv 2) (pe_op op_add (pv 4) (pv 6)))))))), ?_⟩
    refine EvS.run (R := Same) (φ := fun v _ => v = .bl (contains r x y)) ?_ fun v H2 e2 p => by rw [p]; exact q H2 e2
    refine es_unp4 (by walk_at "ev") ha ?_
    apply es_ret
    · walk_at "ev"
    · exact fun _ _ => rfl
def sp_l_holds (K : PySem.W.Frag) : Sp := fun vs H Q _ => ∃ a r x y, vs = [.ref a, .int x, .int y] ∧ RectAt H a r ∧ ∀ H2, Same H H2 → Q (.bl (contains r x y)) H2
theorem ok_l_holds (T : Txt K mg) : FnOk P w K mg base CX0 1 (He.ga K "_law_holds") (fdOf K (He.ga K "_law_holds")) p_l_holds (sp_l_holds K) := by
  refine T.l_holds.fn.ok sc_l_holds (fun vs H Q E h => ?_) (fun cdv A outer s H vs Q E hr h => ?_)
  · obtain ⟨a, r, x, y, rfl, ha, q⟩ := h
    rfl
  · obtain ⟨a, r, x, y, rfl, ha, q⟩ := h
    refine ⟨_, (pss_one (ps_ret (pe_and (pe_cmpR op_le (pe_ix (r := rIxT K) ix_tup (pv 0) pe_int (fun _ _ => rfl)) (pv 1) (nomark _)) (pe_and (pe_cmpR op_lt (pv 1) (pe_op op_add (pe_ix (r := rIxT K) ix_tup (pv 0) pe_int (fun _ _ => rfl)) (pe_ix (r := rIxT K) ix_tup (pv 0) pe_int (fun _ _ => rfl))) (nomark _)) (pe_and (pe_cmpR op_le (pe_ix (r := rIxT K) ix_tup (pv 0) pe_int (fun _ _ => rfl)) (pv 2) (nomark _)) (pe_one (pe_cmpR op_lt (pv 2) (pe_op op_add (pe_ix (r := rIxT K) ix_tup (pv 0) pe_int (fun _ _ => rfl)) (pe_ix (r := rIxT K) ix_tup (pv 0) pe_int (fun _ _ => rfl))) (nomark _)))))))), ?_⟩
    refine EvS.run (R := Same) (φ := fun v _ => v = .bl (contains r x y)) ?_ fun v H2 e2 p => by rw [p]; exact q H2 e2
    apply es_ret
    · walk_at "ev"
    · intro _ _
      unfold contains
      rw [Bool.and_assoc]
def sp_common (K : PySem.W.Frag) : Sp := fun vs H Q _ => ∃ a b r s, vs = [.ref a, .ref b] ∧ RectAt H a r ∧ RectAt H b s ∧ ∀ v H2 o, Same H H2 → ORect H2 v o → Meets r s o → Q v H2
theorem ok_common (T : Txt K mg) : FnOk P w K mg base CX0 1 (He.ga K "common") (fdOf K (He.ga K "common")) p_common (sp_common K) := by
  refine T.common.fn.ok sc_common (fun vs H Q E h => ?_) (fun cdv A outer s H vs Q E hr h => ?_)
  · obtain ⟨a, b, r, z, rfl, ha, hb, q⟩ := h
    rfl
  · obtain ⟨a, b, r, z, rfl, ha, hb, q⟩ := h
    refine ⟨_, (pss_cons (ps_set (i := 2) sc_common.nd rfl (Or.inl rfl) (pe_callB (cb_max2 rfl) (by rfl) T.b_max PyProof.Rows.boot_max (pa_cons (pe_ix (r := rIxT K) ix_tup (pv 0) pe_int (fun _ _ => rfl)) (pa_cons (pe_ix (r := rIxT K) ix_tup (pv 1) pe_int (fun _ _ => rfl)) pa_nil)))) (pss_cons (ps_set (i := 3) sc_common.nd rfl (Or.inl rfl) (pe_callB (cb_max2 rfl) (by rfl) T.b_max PyProof.Rows.boot_max (pa_cons (pe_ix (r := rIxT K) ix_tup (pv 0) pe_int (fun _ _ => rfl)) (pa_cons (pe_ix (r := rIxT K) ix_tup (pv 1) pe_int (fun _ _ => rfl)) pa_nil)))) (pss_cons (ps_set (i := 4) sc_common.nd rfl (Or.inl rfl) (pe_callB (cb_min2 rfl) (by rfl) T.b_min PyProof.Rows.boot_min (pa_cons (pe_op op_add (pe_ix (r := rIxT K) ix_tup (pv 0) pe_int (fun _ _ => rfl)) (pe_ix (r := rIxT K) ix_tup (pv 0) pe_int (fun _ _ => rfl))) (pa_cons (pe_op op_add (pe_ix (r := rIxT K) ix_tup (pv 1) pe_int (fun _ _ => rfl)) (pe_ix (r := rIxT K) ix_tup (pv 1) pe_int (fun _ _ => rfl))) pa_nil)))) (pss_cons (ps_set (i := 5) sc_common.nd rfl (Or.inl rfl) (pe_callB (cb_min2 rfl) (by rfl) T.b_min PyProof.Rows.boot_min (pa_cons (pe_op op_add (pe_ix (r := rIxT K) ix_tup (pv 0) pe_int (fun _ _ => rfl)) (pe_ix (r := rIxT K) ix_tup (pv 0) pe_int (fun _ _ => rfl))) (pa_cons (pe_op op_add (pe_ix (r := rIxT K) ix_tup (pv 1) pe_int (fun _ _ => rfl)) (pe_ix (r := rIxT K) ix_tup (pv 1) pe_int (fun _ _ => rfl))) pa_nil)))) (pss_cons (ps_if (PW.pt (pw_or (pt_cmpR op_le (pv 4) (pv 2) (nomark _)) (pw_or1 (pt_cmpR op_le (pv 5) (pv 3) (nomark _))))) (pss_one (ps_ret pe_non)) pss_nil) (pss_one (ps_ret (pe_tup (pa_cons (pv 2) (pa_cons (pv 3) (pa_cons (pe_op op_sub (pv 4) (pv 2)) (pa_cons (pe_op op_sub (pv 5) (pv 3)) pa_nil)))))))))))), ?_⟩
    refine EvS.run (R := Same) (φ := fun v H2 => ∃ o, ORect H2 v o ∧ Meets r z o) ?_ fun v H2 e2 ⟨o, p1, p2⟩ => q v H2 o e2 p1 p2
    walk_at "as"
    walk_at "as"
    walk_at "as"
    walk_at "as"
    apply es_when
    · walk_at "ev"
    · intro hb
      apply es_ret
      · walk_at "ev"
      · exact fun _ _ => ⟨none, rfl, meets_none hb⟩
    · intro hb
      apply es_retP
      · walk_at "tp"
      · exact fun v H2 e ⟨p, hv, hp⟩ => ⟨some ⟨imax r.l z.l, imax r.t z.t, imin (r.l + r.w) (z.l + z.w) - imax r.l z.l, imin (r.t + r.h) (z.t + z.h) - imax r.t z.t⟩, ⟨p, hv, hp⟩, meets_some hb⟩
def sp_glyph_width (K : PySem.W.Frag) : Sp := fun vs H Q _ => ∃ c, vs = [.str ⟨#[c]⟩] ∧ ∀ H2, Same H H2 → Q (.int (gw c)) H2
theorem ok_glyph_width (T : Txt K mg) : FnOk P w K mg base CX0 1 (He.ga K "glyph_width") (fdOf K (He.ga K "glyph_width")) p_glyph_width (sp_glyph_width K) := by
  refine T.glyph_width.fn.ok sc_glyph_width (fun vs H Q E h => ?_) (fun cdv A outer s H vs Q E hr h => ?_)
  · obtain ⟨c, rfl, q⟩ := h
    rfl
  · obtain ⟨c, rfl, q⟩ := h
    obtain ⟨t_ONE, h_ONE⟩ := T.c_ONE
    obtain ⟨t_TWO, h_TWO⟩ := T.c_TWO
    obtain ⟨t_THREE, h_THREE⟩ := T.c_THREE
    obtain ⟨t_FOUR, h_FOUR⟩ := T.c_FOUR
    refine ⟨_, (pss_cons (ps_if (pt_cmpR op_inS (pv 0) (pe_glob (v := .str "!'.:i|") rfl h_ONE ⟨_, rfl⟩) (by rfl)) (pss_one (ps_ret pe_int)) pss_nil) (pss_cons (ps_if (pt_cmpR op_inS (pv 0) (pe_glob (v := .str "(),;[]`jl") rfl h_TWO ⟨_, rfl⟩) (by rfl)) (pss_one (ps_ret pe_int)) pss_nil) (pss_cons (ps_if (pt_cmpR op_inS (pv 0) (pe_glob (v := .str " \"*-/1<>I\\^frt{}") rfl h_THREE ⟨_, rfl⟩) (by rfl)) (pss_one (ps_ret pe_int)) pss_nil) (pss_cons (ps_if (pt_cmpR op_inS (pv 0) (pe_glob (v := .str "$023456789=?J_abcdeghknopqsuvxyz") rfl h_FOUR ⟨_, rfl⟩) (by rfl)) (pss_one (ps_ret pe_int)) pss_nil) (pss_one (ps_ret pe_int)))))), ?_⟩
    refine EvS.run (R := Same) (φ := fun v _ => v = .int (gw c)) ?_ fun v H2 e2 p => by rw [p]; exact q H2 e2
    unfold gw gw1 gw2 gw3 gw4
    apply es_when
    · walk_at "ev"
    · intro hb
      apply es_ret
      · walk_at "ev"
      · intro _ _
        rw [if_pos (of_decide_eq_true hb)]
    intro h1
    rw [if_neg (of_decide_eq_false h1)]
    apply es_when
    · walk_at "ev"
    · intro hb
      apply es_ret
      · walk_at "ev"
      · intro _ _
        rw [if_pos (of_decide_eq_true hb)]
    intro h2
    rw [if_neg (of_decide_eq_false h2)]
    apply es_when
    · walk_at "ev"
    · intro hb
      apply es_ret
      · walk_at "ev"
      · intro _ _
        rw [if_pos (of_decide_eq_true hb)]
    intro h3
    rw [if_neg (of_decide_eq_false h3)]
    apply es_when
    · walk_at "ev"
    · intro hb
      apply es_ret
      · walk_at "ev"
      · intro _ _
        rw [if_pos (of_decide_eq_true hb)]
    intro h4
    rw [if_neg (of_decide_eq_false h4)]
    apply es_ret
    · walk_at "ev"
    · exact fun _ _ => rfl
def sp_identity (K : PySem.W.Frag) : Sp := fun vs H Q _ => ∃ a p, vs = [.ref a] ∧ PrimAt H a p ∧ ∀ b H2, Same H H2 → IdAt H2 b p.who → Q (.ref b) H2
theorem ok_identity (T : Txt K mg) : FnOk P w K mg base CX0 1 (He.ga K "identity") (fdOf K (He.ga K "identity")) p_identity (sp_identity K) := by
  refine T.identity.fn.ok sc_identity (fun vs H Q E h => ?_) (fun cdv A outer s H vs Q E hr h => ?_)
  · obtain ⟨a, p, rfl, ha, q⟩ := h
    rfl
  · obtain ⟨a, p, rfl, ha, q⟩ := h
    refine ⟨_, (pss_one (ps_ret (pe_slice (r := rSlA K) sl_tupA (pv 0) po_none (po_some pe_int)))), ?_⟩
    obtain ⟨pa, cv, h1, h2, h3⟩ := ha
    refine EvS.run (R := Same) (φ := NewT p.who.vs) ?_ fun v H2 e2 ⟨b, hv, hb⟩ => by rw [hv]; exact q b H2 e2 hb
    apply es_retP
    · exact ep_slT (by walk_at "ev") eo_none (by walk_at "ev") h1
    · exact fun v H2 e hn => hn
def sp_page_of (K : PySem.W.Frag) : Sp := fun vs H Q _ => ∃ a w h ps, vs = [.ref a] ∧ SceneAt H a w h ps ∧ ∀ b H2, Same H H2 → RectAt H2 b ⟨0, 0, w, h⟩ → Q (.ref b) H2
theorem ok_page_of (T : Txt K mg) : FnOk P w K mg base CX0 1 (He.ga K "page_of") (fdOf K (He.ga K "page_of")) p_page_of (sp_page_of K) := by
  refine T.page_of.fn.ok sc_page_of (fun vs H Q E h => ?_) (fun cdv A outer s H vs Q E hr h => ?_)
  · obtain ⟨a, w, h, ps, rfl, ha, q⟩ := h
    rfl
  · obtain ⟨a, w, h, ps, rfl, ha, q⟩ := h
    refine ⟨_, (pss_one (ps_ret (pe_tup (pa_cons pe_int (pa_cons pe_int (pa_cons (pe_ix (r := rIxT K) ix_tup (pv 0) pe_int (fun _ _ => rfl)) (pa_cons (pe_ix (r := rIxT K) ix_tup (pv 0) pe_int (fun _ _ => rfl)) pa_nil))))))), ?_⟩
    obtain ⟨ta, as, h1, h2, h3⟩ := ha
    refine EvS.run (R := Same) (φ := NewT [.int 0, .int 0, .int w, .int h]) ?_ fun v H2 e2 ⟨b, hv, hb⟩ => by rw [hv]; exact q b H2 e2 hb
    apply es_retP
    · walk_at "tp"
    · exact fun v H2 e hn => hn
def sp_line_covers (K : PySem.W.Frag) : Sp := fun vs H Q _ => ∃ a x1 y1 x2 y2 x y, vs = [.ref a, .int x, .int y] ∧ IntsAt H a [x1, y1, x2, y2] ∧ (Bd x1 ∧ Bd y1 ∧ Bd x2 ∧ Bd y2 ∧ Bd x ∧ Bd y) ∧ ∀ H2, Same H H2 → Q (.bl (lineC x1 y1 x2 y2 x y)) H2
theorem ok_line_covers (T : Txt K mg) : FnOk P w K mg base CX0 1 (He.ga K "line_covers") (fdOf K (He.ga K "line_covers")) p_line_covers (sp_line_covers K) := by
  refine T.line_covers.fn.ok sc_line_covers (fun vs H Q E h => ?_) (fun cdv A outer s H vs Q E hr h => ?_)
  · obtain ⟨a, x1, y1, x2, y2, x, y, rfl, ha, ⟨⟨b1, b1'⟩, ⟨b2, b2'⟩, ⟨b3, b3'⟩, ⟨b4, b4'⟩, ⟨b5, b5'⟩, ⟨b6, b6'⟩⟩, q⟩ := h
    rfl
  · obtain ⟨a, x1, y1, x2, y2, x, y, rfl, ha, ⟨⟨b1, b1'⟩, ⟨b2, b2'⟩, ⟨b3, b3'⟩, ⟨b4, b4'⟩, ⟨b5, b5'⟩, ⟨b6, b6'⟩⟩, q⟩ := h
    refine ⟨_, (pss_cons (ps_asg (pv 0) (pg_tup rfl (pgs_cons (pg_name (i := 3) sc_line_covers.nd rfl (Or.inl rfl)) (pgs_cons (pg_name (i := 4) sc_line_covers.nd rfl (Or.inl rfl)) (pgs_cons (pg_name (i := 5) sc_line_covers.nd rfl (Or.inl rfl)) (pgs_cons (pg_name (i := 6) sc_line_covers.nd rfl (Or.inl rfl)) pgs_nil)))))) (pss_cons (ps_if (PW.pt (pw_or (pt_cmpR op_lt (pv 1) (pe_callB (cb_min2 rfl) (by rfl) T.b_min PyProof.Rows.boot_min (pa_cons (pv 3) (pa_cons (pv 5) pa_nil))) (nomark _)) (pw_or (pt_cmpR op_gt (pv 1) (pe_callB (cb_max2 rfl) (by rfl) T.b_max PyProof.Rows.boot_max (pa_cons (pv 3) (pa_cons (pv 5) pa_nil))) (nomark _)) (pw_or (pt_cmpR op_lt (pv 2) (pe_callB (cb_min2 rfl) (by rfl) T.b_min PyProof.Rows.boot_min (pa_cons (pv 4) (pa_cons (pv 6) pa_nil))) (nomark _)) (pw_or1 (pt_cmpR op_gt (pv 2) (pe_callB (cb_max2 rfl) (by rfl) T.b_max PyProof.Rows.boot_max (pa_cons (pv 4) (pa_cons (pv 6) pa_nil))) (nomark _))))))) (pss_one (ps_ret pe_bl)) pss_nil) (pss_cons (ps_set (i := 7) sc_line_covers.nd rfl (Or.inl rfl) (pe_callB cb_abs (by rfl) T.b_abs PyProof.Rows.boot_abs (pa_cons (pe_op op_sub (pe_op op_mul (pe_op op_sub (pv 2) (pv 4)) (pe_op op_sub (pv 5) (pv 3))) (pe_op op_mul (pe_op op_sub (pv 1) (pv 3)) (pe_op op_sub (pv 6) (pv 4)))) pa_nil))) (pss_one (ps_ret (pe_cmpR op_le (pe_op op_mul pe_int (pv 7)) (pe_callB (cb_max2 rfl) (by rfl) T.b_max PyProof.Rows.boot_max (pa_cons (pe_callB cb_abs (by rfl) T.b_abs PyProof.Rows.boot_abs (pa_cons (pe_op op_sub (pv 5) (pv 3)) pa_nil)) (pa_cons (pe_callB cb_abs (by rfl) T.b_abs PyProof.Rows.boot_abs (pa_cons (pe_op op_sub (pv 6) (pv 4)) pa_nil)) pa_nil))) (nomark _))))))), ?_⟩
    refine EvS.run (R := Same) (φ := fun v _ => v = .bl (lineC x1 y1 x2 y2 x y)) ?_ fun v H2 e2 p => by rw [p]; exact q H2 e2
    refine es_unp4 (by walk_at "ev") ha ?_
    apply es_when
    · walk_at "ev"
    · intro hb
      apply es_ret
      · walk_at "ev"
      · intro _ _
        unfold lineC imin imax
        rw [hb]
        rfl
    · intro hb
      walk_at "as"
      apply es_ret
      · walk_at "ev"
      · intro _ _
        unfold lineC imin imax
        rw [hb]
        rfl
end
end Cs

namespace Cs
open PySem PySem.Spec PyProof.Rows L2
local macro_rules | `(tactic| walk_at "hp") => `(tactic| first | assumption)
local macro_rules | `(tactic| walk_at "num") => `(tactic| first | assumption | omega | decide)
local macro_rules | `(tactic| walk_at "rv") => `(tactic| first
  | (with_reducible exact rv_I0)
  | ((with_reducible apply rv_ixT); (walk_at "hp"); (rfl))
  | ((with_reducible apply rv_eq); (rfl))
  | ((with_reducible apply rv_ne); (rfl))
  | (with_reducible exact rv_isN)
  | (with_reducible exact rv_notN)
  | (with_reducible exact rv_inS)
  | ((with_reducible apply rv_I); (first | exact Or.inr ⟨by walk_at "num", by walk_at "num"⟩ | exact Or.inl ⟨by walk_at "num", by walk_at "num"⟩ | exact ⟨by walk_at "num", by walk_at "num"⟩ | exact ⟨by walk_at "num", by walk_at "num", by walk_at "num"⟩ | walk_at "num"))
  | ((with_reducible apply rv_ixS) <;> walk_at "num"))
local macro_rules | `(tactic| walk_at "rc") => `(tactic| first
  | (with_reducible exact rc_abs) | (with_reducible exact rc_max2) | (with_reducible exact rc_min2) | (with_reducible exact rc_int1)
  | ((with_reducible apply rc_lenT); walk_at "hp") | ((with_reducible apply rc_lenZ); walk_at "num"))
local macro_rules | `(tactic| walk_at "ev") => `(tactic| first
  | (with_reducible exact ev_c)
  | ((with_reducible apply ev_var); rfl)
  | ((with_reducible apply ev_op); (walk_at "ev"); (walk_at "ev"); (walk_at "rv"))
  | ((with_reducible apply ev_un); (walk_at "ev"); (exact ru_neg))
  | ((with_reducible apply ev_cb); (walk_at "ev"); (walk_at "rc"))
  | ((with_reducible apply ev_andV); (walk_at "ev"); (intro _; walk_at "ev"))
  | ((with_reducible apply ev_chain); (walk_at "ev"); (walk_at "ev"); (walk_at "rv"); (intro _; walk_at "ev"); (intro _; walk_at "rv"))
  | (with_reducible exact ea_nil)
  | ((with_reducible apply ea_cons); (walk_at "ev"); (walk_at "ev"))
  | ((with_reducible apply et_test); (walk_at "ev"))
  | ((with_reducible apply et_B); (walk_at "ev"))
  | ((with_reducible apply et_and); (walk_at "ev"); (intro _; walk_at "ev"))
  | ((with_reducible apply et_or); (walk_at "ev"); (intro _; walk_at "ev"))
  | ((with_reducible apply et_not); (walk_at "ev"))
  | (with_reducible exact eo_none)
  | ((with_reducible apply eo_some); (walk_at "ev")))
local macro_rules | `(tactic| walk_at "sz") => `(tactic| exact Nat.le_of_ble_eq_true rfl)
local macro_rules | `(tactic| walk_at "as") => `(tactic| ((with_reducible apply es_asg); (walk_at "ev")))
local macro_rules | `(tactic| walk_at "tp") => `(tactic| ((with_reducible apply ep_tup); (walk_at "ev"); (walk_at "sz")))
local macro_rules | `(tactic| walk_at "no") => `(tactic| ((with_reducible apply es_whenF); ((with_reducible apply et_is); (walk_at "ev"); (decide +kernel))))
local macro_rules | `(tactic| walk_at "yes") => `(tactic| ((with_reducible apply es_whenT); ((with_reducible apply et_is); (walk_at "ev"); (decide +kernel))))
section
variable {P : Program} {w : World} {K : PySem.W.Frag} {mg : Str → Option Value} {base : Heap}
theorem spv_glyph {c : Nat} {H : Hp} : SpV Same (sp_glyph_width K) [.str ⟨#[c]⟩] H (fun x _ => x = .int (gw c)) := fun H1 e Q q E => ⟨c, rfl, fun H2 e2 => q _ H2 e2 rfl⟩
theorem str_empty {z : Str} : V.str z = V.str "" ↔ z.cps.size = 0 := by
  constructor
  · intro h
    have e : z = "" := V.str.inj h
    rw [e]
    rfl
  · intro h
    obtain ⟨cps⟩ := z
    have e : cps = #[] := Array.eq_empty_of_size_eq_zero h
    rw [e]
    rfl
theorem str_blank {c : Nat} : decide (V.str ⟨#[c]⟩ = V.str " ") = decide (c = 32) := by
  have e : (" " : Str) = ⟨#[32]⟩ := by decide +kernel
  rw [e]
  by_cases h : c = 32
  · subst h
    simp
  · rw [decide_eq_false h]
    refine decide_eq_false fun q => h ?_
    have q1 := V.str.inj q
    injection q1 with q2
    simpa using q2
def sp_text_width (K : PySem.W.Frag) : Sp := fun vs H Q _ => ∃ z, vs = [.str z] ∧ z.length ≤ 100 ∧ ∀ H2, Same H H2 → Q (.int (tw z)) H2
theorem gws_sum : ∀ cs : List Nat, (cs.map gw).sum = gws cs
  | [] => rfl
  | c :: r => by
    rw [List.map_cons, List.sum_cons, gws_sum r]
    rfl
theorem ok_text_width (T : Txt K mg) : FnOk P w K mg base CX0 2 (He.ga K "text_width") (fdOf K (He.ga K "text_width")) p_text_width (sp_text_width K) := by
  refine T.text_width.fn.ok sc_text_width (fun vs H Q E h => ?_) (fun cdv A outer s H vs Q E hr h => ?_)
  · obtain ⟨z, rfl, hz, q⟩ := h
    rfl
  · obtain ⟨z, rfl, hz, q⟩ := h
    refine ⟨_, (pss_cons (ps_if (pt_cmpR op_eq (pv 0) pe_str (nomark _)) (pss_one (ps_ret pe_int)) pss_nil) (pss_one (ps_ret (pe_op op_sub (pe_op op_add (pe_callB (cr_sum rfl) (by rfl) T.b_sum PyProof.Rows.boot_sum (pa_cons (pe_lc (own := [("character", 1)]) (g := gName 1) rfl sc_text_width.nd (pi_str (pv 0)) (blkOk_by (own := [("character", 1)]) (N := n_text_width) (sc := defScope s_text_width) (by decide +kernel)) (fun _ _ _ _ _ => pg_name (i := 1) sc_text_width.nd rfl (Or.inl rfl)) (fun _ _ _ _ _ => pts_nil) (fun _ _ _ _ _ => (pe_call (ok_glyph_width T) (hr.mono (by decide)) (by rfl) T.glyph_width.mg T.glyph_width.fn.kp (bd_glyph_width T) .nil pass0 (pa_cons (pv 1) pa_nil)))) pa_nil)) (pe_callB cb_lenZ (by rfl) T.b_len PySem.boot_len (pa_cons (pv 0) pa_nil))) pe_int)))), ?_⟩
    have hz2 : z.cps.size ≤ 100 := hz
    refine EvS.run (R := Same) (φ := fun v _ => v = .int (tw z)) ?_ fun v H2 e2 p => by rw [p]; exact q H2 e2
    apply es_when
    · walk_at "ev"
    · intro hb
      apply es_ret
      · walk_at "ev"
      · intro _ _
        unfold tw
        rw [if_pos (str_empty.mp (of_decide_eq_true hb))]
    intro hb
    have hne : z.cps.size ≠ 0 := fun q => of_decide_eq_false hb (str_empty.mpr q)
    apply es_ret
    · apply ev_op
      · apply ev_op
        · refine ev_sumL (ns := z.cps.toList.map gw) (EvP.imp (lc_ofS (z := z) (by walk_at "ev") (by omega) (fun i acc _ => acc = (z.cps.toList.take i).map fun c => V.int (gw c)) (fun _ _ _ _ _ h => h) rfl ?_ (fun _ => rfl)) ?_)
          · intro i c acc H1 e hc ha
            refine ⟨true, et_true, fun _ => ?_, fun z => nomatch z⟩
            refine EvP.imp (Ev.p (ev_call (by walk_at "ev") (spv_glyph (K := K)))) fun v H2 e2 hv => ?_
            rw [hv, ha, List.take_add_one, ← Array.getElem?_toList] at *
            rw [hc, List.map_append]
            rfl
          · rintro v H2 e2 ⟨p, acc, hv, hp, ha⟩
            refine ⟨p, acc, hv, hp, ?_⟩
            rw [ha, ← Array.length_toList, List.take_length, List.map_map]
            rfl
        · apply ev_cb
          · walk_at "ev"
          · exact rc_lenZ (Nat.le_trans hz (Nat.le_of_ble_eq_true rfl))
        · exact rv_I0
      · walk_at "ev"
      · exact rv_I0
    · intro _ _
      unfold tw
      rw [if_neg hne, gws_sum]
      rfl
def sp_inked (K : PySem.W.Frag) : Sp := fun vs H Q _ => ∃ z x y, vs = [.str z, .int x, .int y] ∧ ∀ H2, Same H H2 → Q (.bl (inked z x y)) H2
theorem drop_at {α : Type} {l : List α} {i : Nat} {x : α} (h : l[i]? = some x) : l.drop i = x :: l.drop (i + 1) := by
  obtain ⟨h1, h2⟩ := List.getElem?_eq_some_iff.mp h
  rw [List.drop_eq_getElem_cons h1, h2]
theorem ok_inked (T : Txt K mg) : FnOk P w K mg base CX0 2 (He.ga K "inked") (fdOf K (He.ga K "inked")) p_inked (sp_inked K) := by
  refine T.inked.fn.ok sc_inked (fun vs H Q E h => ?_) (fun cdv A outer s H vs Q E hr h => ?_)
  · obtain ⟨z, x, y, rfl, q⟩ := h
    rfl
  · obtain ⟨z, x, y, rfl, q⟩ := h
    obtain ⟨t_HEIGHT, h_HEIGHT⟩ := T.c_HEIGHT
    refine ⟨_, (pss_cons (ps_if (PW.pt (pw_or (pt_cmpR op_lt (pv 1) pe_int (nomark _)) (pw_or (pt_cmpR op_lt (pv 2) pe_int (nomark _)) (pw_or1 (pt_cmpR op_ge (pv 2) (pe_glob (v := .int 7) rfl h_HEIGHT ⟨_, rfl⟩) (nomark _)))))) (pss_one (ps_ret pe_bl)) pss_nil) (pss_cons (ps_set (i := 3) sc_inked.nd rfl (Or.inl rfl) pe_int) (pss_cons (ps_for PassesOwn.never rfl (pi_str (pv 0)) (pg_name (i := 4) sc_inked.nd rfl (Or.inl rfl)) (pss_cons (ps_set (i := 5) sc_inked.nd rfl (Or.inl rfl) (pe_call (ok_glyph_width T) (hr.mono (by decide)) (by rfl) T.glyph_width.mg T.glyph_width.fn.kp (bd_glyph_width T) .nil pass0 (pa_cons (pv 4) pa_nil))) (pss_cons (ps_if (pt_cmpR op_lt (pv 1) (pe_op op_add (pv 3) (pv 5)) (nomark _)) (pss_one (ps_ret (pe_and (pe_cmpR op_ge (pv 1) (pv 3) (nomark _)) (pe_one (pe_cmpR op_ne (pv 4) pe_str (nomark _)))))) pss_nil) (pss_one (ps_set (i := 3) sc_inked.nd rfl (Or.inl rfl) (pe_op op_add (pe_op op_add (pv 3) (pv 5)) pe_int)))))) (pss_one (ps_ret pe_bl))))), ?_⟩
    refine EvS.run (R := Same) (φ := fun v _ => v = .bl (inked z x y)) ?_ fun v H2 e2 p => by rw [p]; exact q H2 e2
    apply es_when
    · walk_at "ev"
    · intro hb
      apply es_ret
      · walk_at "ev"
      · intro _ _
        unfold inked
        rw [hb]
        rfl
    intro hb
    have e0 : inked z x y = inkGo x 0 z.cps.toList := by
      unfold inked
      rw [hb]
      rfl
    walk_at "as"
    apply es_seq
    · refine es_forS (z := z) (by walk_at "ev") (fun i σ _ => ∃ l c w, σ = [some (.str z), some (.int x), some (.int y), some (.int l), c, w] ∧ inkGo x 0 z.cps.toList = inkGo x l (z.cps.toList.drop i)) (fun H1 e => ⟨0, none, none, rfl, rfl⟩) ?_ (ψ := fun σ _ => inkGo x 0 z.cps.toList = false) ?_
      · rintro i c σ' H1 e ⟨l, c0, w0, rfl, hl⟩ hc
        have hd := drop_at (show z.cps.toList[i]? = some c by rw [Array.getElem?_toList]; exact hc)
        rw [hd] at hl
        apply es_asg
        · exact ev_call (by walk_at "ev") (spv_glyph (K := K))
        apply es_when
        · walk_at "ev"
        · intro hx
          have hx := of_decide_eq_true hx
          apply es_ret
          · walk_at "ev"
          · intro _ _
            rw [e0, hl]
            unfold inkGo
            rw [if_pos hx, str_blank]
        · intro hx
          have hx := of_decide_eq_false hx
          apply es_asg1
          · walk_at "ev"
          · intro _ _
            refine ⟨l + gw c + 1, _, _, rfl, ?_⟩
            rw [hl]
            unfold inkGo
            rw [if_neg hx]
            cases List.drop (i + 1) z.cps.toList <;> rfl
      · rintro σ' H1 e ⟨l, c0, w0, rfl, hl⟩
        rw [hl, ← Array.length_toList, List.drop_length]
        rfl
    · intro σ' H1 e hf
      apply es_ret
      · walk_at "ev"
      · intro _ _
        rw [e0, hf]
end
end Cs

namespace Cs
open PySem PySem.Spec PyProof.Rows L2
local macro_rules | `(tactic| walk_at "hp") => `(tactic| first | assumption)
local macro_rules | `(tactic| walk_at "num") => `(tactic| first | assumption | omega | decide)
local macro_rules | `(tactic| walk_at "rv") => `(tactic| first
  | (with_reducible exact rv_I0)
  | ((with_reducible apply rv_ixT); (walk_at "hp"); (rfl))
  | ((with_reducible apply rv_eq); (rfl))
  | ((with_reducible apply rv_ne); (rfl))
  | (with_reducible exact rv_isN)
  | (with_reducible exact rv_notN)
  | (with_reducible exact rv_inS)
  | ((with_reducible apply rv_I); (first | exact Or.inr ⟨by walk_at "num", by walk_at "num"⟩ | exact Or.inl ⟨by walk_at "num", by walk_at "num"⟩ | exact ⟨by walk_at "num", by walk_at "num"⟩ | exact ⟨by walk_at "num", by walk_at "num", by walk_at "num"⟩ | walk_at "num"))
  | ((with_reducible apply rv_ixS) <;> walk_at "num"))
local macro_rules | `(tactic| walk_at "rc") => `(tactic| first
  | (with_reducible exact rc_abs) | (with_reducible exact rc_max2) | (with_reducible exact rc_min2) | (with_reducible exact rc_int1)
  | ((with_reducible apply rc_lenT); walk_at "hp") | ((with_reducible apply rc_lenZ); walk_at "num"))
local macro_rules | `(tactic| walk_at "ev") => `(tactic| first
  | (with_reducible exact ev_c)
  | ((with_reducible apply ev_var); rfl)
  | ((with_reducible apply ev_op); (walk_at "ev"); (walk_at "ev"); (walk_at "rv"))
  | ((with_reducible apply ev_un); (walk_at "ev"); (exact ru_neg))
  | ((with_reducible apply ev_cb); (walk_at "ev"); (walk_at "rc"))
  | ((with_reducible apply ev_andV); (walk_at "ev"); (intro _; walk_at "ev"))
  | ((with_reducible apply ev_chain); (walk_at "ev"); (walk_at "ev"); (walk_at "rv"); (intro _; walk_at "ev"); (intro _; walk_at "rv"))
  | (with_reducible exact ea_nil)
  | ((with_reducible apply ea_cons); (walk_at "ev"); (walk_at "ev"))
  | ((with_reducible apply et_test); (walk_at "ev"))
  | ((with_reducible apply et_B); (walk_at "ev"))
  | ((with_reducible apply et_and); (walk_at "ev"); (intro _; walk_at "ev"))
  | ((with_reducible apply et_or); (walk_at "ev"); (intro _; walk_at "ev"))
  | ((with_reducible apply et_not); (walk_at "ev"))
  | (with_reducible exact eo_none)
  | ((with_reducible apply eo_some); (walk_at "ev")))
local macro_rules | `(tactic| walk_at "sz") => `(tactic| exact Nat.le_of_ble_eq_true rfl)
local macro_rules | `(tactic| walk_at "as") => `(tactic| ((with_reducible apply es_asg); (walk_at "ev")))
local macro_rules | `(tactic| walk_at "tp") => `(tactic| ((with_reducible apply ep_tup); (walk_at "ev"); (walk_at "sz")))
local macro_rules | `(tactic| walk_at "no") => `(tactic| ((with_reducible apply es_whenF); ((with_reducible apply et_is); (walk_at "ev"); (decide +kernel))))
local macro_rules | `(tactic| walk_at "yes") => `(tactic| ((with_reducible apply es_whenT); ((with_reducible apply et_is); (walk_at "ev"); (decide +kernel))))
section
variable {P : Program} {w : World} {K : PySem.W.Frag} {mg : Str → Option Value} {base : Heap}
def sp_around (K : PySem.W.Frag) : Sp := fun vs H Q _ => ∃ sh a ns z, vs = [.str (Sh.str sh), .ref a, .str z] ∧ IntsAt H a ns ∧ PtsOk sh ns ∧ z.length ≤ 100 ∧ ∀ b r H2, Same H H2 → RectAt H2 b r → AroundOk sh ns z r → Q (.ref b) H2
theorem spv_tw {z : Str} {H : Hp} (hz : z.length ≤ 100) : SpV Same (sp_text_width K) [.str z] H (fun x _ => x = .int (tw z)) := fun H1 e Q q E => ⟨z, rfl, hz, fun H2 e2 => q _ H2 e2 rfl⟩
theorem ints2 {a b : Int} {H : Hp} {p : Addr} (h : IntsAt H p [a, b]) : H p = some (.tup [.int a, .int b]) := h
theorem ok_around (T : Txt K mg) : FnOk P w K mg base CX0 3 (He.ga K "around") (fdOf K (He.ga K "around")) p_around (sp_around K) := by
  refine T.around.fn.ok sc_around (fun vs H Q E h => ?_) (fun cdv A outer s H vs Q E hr h => ?_)
  · obtain ⟨sh, a, ns, z, rfl, ha, ok, hz, q⟩ := h
    rfl
  · obtain ⟨sh, a, ns, z, rfl, ha, ok, hz, q⟩ := h
    obtain ⟨t_HEIGHT, h_HEIGHT⟩ := T.c_HEIGHT
    refine ⟨_, (pss_cons (ps_if (pt_cmpR op_eq (pv 0) pe_str (nomark _)) (pss_one (ps_ret (pv 1))) pss_nil) (pss_cons (ps_if (PW.pt (pw_or (pt_cmpR op_eq (pv 0) pe_str (nomark _)) (pw_or1 (pt_cmpR op_eq (pv 0) pe_str (nomark _))))) (pss_cons (ps_set (i := 3) sc_around.nd rfl (Or.inl rfl) (pe_step2 (pv 1) po_none)) (pss_cons (ps_set (i := 4) sc_around.nd rfl (Or.inl rfl) (pe_step2 (pv 1) (po_some pe_int))) (pss_cons (ps_set (i := 5) sc_around.nd rfl (Or.inl rfl) (pe_callB (cr_minT rfl (hu65 hr)) (by rfl) T.b_min PyProof.Rows.boot_min (pa_cons (pv 3) pa_nil))) (pss_cons (ps_set (i := 6) sc_around.nd rfl (Or.inl rfl) (pe_callB (cr_minT rfl (hu65 hr)) (by rfl) T.b_min PyProof.Rows.boot_min (pa_cons (pv 4) pa_nil))) (pss_one (ps_ret (pe_tup (pa_cons (pv 5) (pa_cons (pv 6) (pa_cons (pe_op op_add (pe_op op_sub (pe_callB (cr_maxT rfl (hu65 hr)) (by rfl) T.b_max PyProof.Rows.boot_max (pa_cons (pv 3) pa_nil)) (pv 5)) pe_int) (pa_cons (pe_op op_add (pe_op op_sub (pe_callB (cr_maxT rfl (hu65 hr)) (by rfl) T.b_max PyProof.Rows.boot_max (pa_cons (pv 4) pa_nil)) (pv 6)) pe_int) pa_nil))))))))))) pss_nil) (pss_cons (ps_if (pt_cmpR op_eq (pv 0) pe_str (nomark _)) (pss_cons (ps_asg (pv 1) (pg_tup rfl (pgs_cons (pg_name (i := 7) sc_around.nd rfl (Or.inl rfl)) (pgs_cons (pg_name (i := 8) sc_around.nd rfl (Or.inl rfl)) (pgs_cons (pg_name (i := 9) sc_around.nd rfl (Or.inl rfl)) pgs_nil))))) (pss_one (ps_ret (pe_tup (pa_cons (pe_op op_sub (pv 7) (pv 9)) (pa_cons (pe_op op_sub (pv 8) (pv 9)) (pa_cons (pe_op op_add (pe_op op_mul pe_int (pv 9)) pe_int) (pa_cons (pe_op op_add (pe_op op_mul pe_int (pv 9)) pe_int) pa_nil)))))))) pss_nil) (pss_cons (ps_set (i := 10) sc_around.nd rfl (Or.inl rfl) (pe_call (ok_text_width T) (hr.mono (by decide)) (by rfl) T.text_width.mg T.text_width.fn.kp (bd_text_width T) .nil pass0 (pa_cons (pv 2) pa_nil))) (pss_cons (ps_set (i := 5) sc_around.nd rfl (Or.inl rfl) (pe_ix (r := rIxT K) ix_tup (pv 1) pe_int (fun _ _ => rfl))) (pss_cons (ps_if (pt_cmpR op_eq (pv 0) pe_str (nomark _)) (pss_one (ps_set (i := 5) sc_around.nd rfl (Or.inl rfl) (pe_op op_sub (pv 5) (pe_op op_fdiv (pv 10) pe_int)))) (pss_one (ps_if (pt_cmpR op_eq (pv 0) pe_str (nomark _)) (pss_one (ps_set (i := 5) sc_around.nd rfl (Or.inl rfl) (pe_op op_sub (pv 5) (pv 10)))) pss_nil))) (pss_one (ps_ret (pe_tup (pa_cons (pv 5) (pa_cons (pe_ix (r := rIxT K) ix_tup (pv 1) pe_int (fun _ _ => rfl)) (pa_cons (pv 10) (pa_cons (pe_glob (v := .int 7) rfl h_HEIGHT ⟨_, rfl⟩) pa_nil))))))))))))), ?_⟩
    refine EvS.run (R := Same) (φ := fun v H2 => ∃ b r, v = .ref b ∧ RectAt H2 b r ∧ AroundOk sh ns z r) ?_ fun v H2 e2 ⟨b, r, p1, p2, p3⟩ => by rw [p1]; exact q b r H2 e2 p2 p3
    obtain ⟨hb, ok⟩ := ok
    cases sh with
    | rect =>
      walk_at "yes"
      obtain ⟨c0, c1, c2, c3, rfl⟩ := len4 ok
      apply es_ret
      · walk_at "ev"
      · exact fun H2 e => ⟨a, ⟨c0, c1, c2, c3⟩, rfl, Rel.tup e ha, rfl⟩
    | circ =>
      obtain ⟨h3, _⟩ : ns.length = 3 ∧ 0 ≤ at0 ns 2 := ok
      obtain ⟨c0, c1, c2, rfl⟩ := len3 h3
      walk_at "no"
      walk_at "no"
      walk_at "yes"
      refine es_unp3 (by walk_at "ev") ha ?_
      apply es_retP
      · walk_at "tp"
      · exact fun v H2 e ⟨p, hv, hp⟩ => ⟨p, ⟨c0 - c2, c1 - c2, 2 * c2 + 1, 2 * c2 + 1⟩, hv, hp, rfl⟩
    | line =>
      have hl : ns.length = 4 := ok
      obtain ⟨c, cs, hc⟩ := step_cons (xs := ns) (lo := 0) (by omega)
      obtain ⟨d, ds, hd⟩ := step_cons (xs := ns) (lo := 1) (by omega)
      walk_at "no"
      walk_at "yes"
      refine es_asgP (ep_step (lo := 0) (by walk_at "ev") eo_none ha (.inl ⟨rfl, rfl⟩) (Nat.zero_le _)) ?_
      rintro v H1 e1 ⟨p1, rfl, h1⟩
      rw [stepI_map, hc] at h1
      refine es_asgP (ep_step (lo := 1) (by walk_at "ev") (eo_some ev_c) (Rel.tup e1 ha) (.inr rfl) (by rw [List.length_map]; omega)) ?_
      rintro v H2 e2 ⟨p2, rfl, h2⟩
      rw [stepI_map, hd] at h2
      have h1' := Rel.tup e2 h1
      refine es_asg (ev_cb (by walk_at "ev") (rc_minT h1')) ?_
      refine es_asg (ev_cb (by walk_at "ev") (rc_minT h2)) ?_
      apply es_retP
      · refine ep_tup (vs := [.int (minL c cs), .int (minL d ds), .int (maxL c cs - minL c cs + 1), .int (maxL d ds - minL d ds + 1)]) (ea_cons (by walk_at "ev") (ea_cons (by walk_at "ev") (ea_cons ?_ (ea_cons ?_ ea_nil)))) (by walk_at "sz")
        · exact ev_op (ev_op (ev_cb (by walk_at "ev") (rc_maxT h1')) (by walk_at "ev") rv_I0) (by walk_at "ev") rv_I0
        · exact ev_op (ev_op (ev_cb (by walk_at "ev") (rc_maxT h2)) (by walk_at "ev") rv_I0) (by walk_at "ev") rv_I0
      · exact fun v H2 e ⟨p, hv, hp⟩ => ⟨p, ⟨minL c cs, minL d ds, maxL c cs - minL c cs + 1, maxL d ds - minL d ds + 1⟩, hv, hp, box_ok hc hd⟩
    | poly =>
      obtain ⟨_, hl, _⟩ : ns.length % 2 = 0 ∧ 2 ≤ ns.length ∧ ns.length ≤ 20 := ok
      obtain ⟨c, cs, hc⟩ := step_cons (xs := ns) (lo := 0) (by omega)
      obtain ⟨d, ds, hd⟩ := step_cons (xs := ns) (lo := 1) (by omega)
      walk_at "no"
      walk_at "yes"
      refine es_asgP (ep_step (lo := 0) (by walk_at "ev") eo_none ha (.inl ⟨rfl, rfl⟩) (Nat.zero_le _)) ?_
      rintro v H1 e1 ⟨p1, rfl, h1⟩
      rw [stepI_map, hc] at h1
      refine es_asgP (ep_step (lo := 1) (by walk_at "ev") (eo_some ev_c) (Rel.tup e1 ha) (.inr rfl) (by rw [List.length_map]; omega)) ?_
      rintro v H2 e2 ⟨p2, rfl, h2⟩
      rw [stepI_map, hd] at h2
      have h1' := Rel.tup e2 h1
      refine es_asg (ev_cb (by walk_at "ev") (rc_minT h1')) ?_
      refine es_asg (ev_cb (by walk_at "ev") (rc_minT h2)) ?_
      apply es_retP
      · refine ep_tup (vs := [.int (minL c cs), .int (minL d ds), .int (maxL c cs - minL c cs + 1), .int (maxL d ds - minL d ds + 1)]) (ea_cons (by walk_at "ev") (ea_cons (by walk_at "ev") (ea_cons ?_ (ea_cons ?_ ea_nil)))) (by walk_at "sz")
        · exact ev_op (ev_op (ev_cb (by walk_at "ev") (rc_maxT h1')) (by walk_at "ev") rv_I0) (by walk_at "ev") rv_I0
        · exact ev_op (ev_op (ev_cb (by walk_at "ev") (rc_maxT h2)) (by walk_at "ev") rv_I0) (by walk_at "ev") rv_I0
      · exact fun v H2 e ⟨p, hv, hp⟩ => ⟨p, ⟨minL c cs, minL d ds, maxL c cs - minL c cs + 1, maxL d ds - minL d ds + 1⟩, hv, hp, box_ok hc hd⟩
    | ts =>
      obtain ⟨c0, c1, rfl⟩ := len2 (show ns.length = 2 from ok)
      have ha := ints2 ha
      walk_at "no"
      walk_at "no"
      walk_at "no"
      refine es_asg (ev_call (by walk_at "ev") (spv_tw (K := K) hz)) ?_
      walk_at "as"
      apply es_ifF
      · apply et_is
        · walk_at "ev"
        · decide +kernel
      walk_at "no"
      apply es_retP
      · walk_at "tp"
      · exact fun v H2 e ⟨p, hv, hp⟩ => ⟨p, ⟨tleft .ts c0 (tw z), c1, tw z, 7⟩, hv, hp, rfl⟩
    | tm =>
      obtain ⟨c0, c1, rfl⟩ := len2 (show ns.length = 2 from ok)
      have ha := ints2 ha
      walk_at "no"
      walk_at "no"
      walk_at "no"
      refine es_asg (ev_call (by walk_at "ev") (spv_tw (K := K) hz)) ?_
      walk_at "as"
      apply es_ifT
      · apply et_is
        · walk_at "ev"
        · decide +kernel
      walk_at "as"
      apply es_retP
      · walk_at "tp"
      · exact fun v H2 e ⟨p, hv, hp⟩ => ⟨p, ⟨tleft .tm c0 (tw z), c1, tw z, 7⟩, hv, hp, rfl⟩
    | te =>
      obtain ⟨c0, c1, rfl⟩ := len2 (show ns.length = 2 from ok)
      have ha := ints2 ha
      walk_at "no"
      walk_at "no"
      walk_at "no"
      refine es_asg (ev_call (by walk_at "ev") (spv_tw (K := K) hz)) ?_
      walk_at "as"
      apply es_ifF
      · apply et_is
        · walk_at "ev"
        · decide +kernel
      apply es_ifT
      · apply et_is
        · walk_at "ev"
        · decide +kernel
      walk_at "as"
      apply es_retP
      · walk_at "tp"
      · exact fun v H2 e ⟨p, hv, hp⟩ => ⟨p, ⟨tleft .te c0 (tw z), c1, tw z, 7⟩, hv, hp, rfl⟩
end
end Cs

namespace Cs
open PySem PySem.Spec PyProof.Rows L2
local macro_rules | `(tactic| walk_at "hp") => `(tactic| first | assumption)
local macro_rules | `(tactic| walk_at "num") => `(tactic| first | assumption | omega | decide)
local macro_rules | `(tactic| walk_at "rv") => `(tactic| first
  | (with_reducible exact rv_I0)
  | ((with_reducible apply rv_ixT); (walk_at "hp"); (rfl))
  | ((with_reducible apply rv_eq); (rfl))
  | ((with_reducible apply rv_ne); (rfl))
  | (with_reducible exact rv_isN)
  | (with_reducible exact rv_notN)
  | (with_reducible exact rv_inS)
  | ((with_reducible apply rv_I); (first | exact Or.inr ⟨by walk_at "num", by walk_at "num"⟩ | exact Or.inl ⟨by walk_at "num", by walk_at "num"⟩ | exact ⟨by walk_at "num", by walk_at "num"⟩ | exact ⟨by walk_at "num", by walk_at "num", by walk_at "num"⟩ | walk_at "num"))
  | ((with_reducible apply rv_ixS) <;> walk_at "num"))
local macro_rules | `(tactic| walk_at "rc") => `(tactic| first
  | (with_reducible exact rc_abs) | (with_reducible exact rc_max2) | (with_reducible exact rc_min2) | (with_reducible exact rc_int1)
  | ((with_reducible apply rc_lenT); walk_at "hp") | ((with_reducible apply rc_lenZ); walk_at "num"))
local macro_rules | `(tactic| walk_at "ev") => `(tactic| first
  | (with_reducible exact ev_c)
  | ((with_reducible apply ev_var); rfl)
  | ((with_reducible apply ev_op); (walk_at "ev"); (walk_at "ev"); (walk_at "rv"))
  | ((with_reducible apply ev_un); (walk_at "ev"); (exact ru_neg))
  | ((with_reducible apply ev_cb); (walk_at "ev"); (walk_at "rc"))
  | ((with_reducible apply ev_andV); (walk_at "ev"); (intro _; walk_at "ev"))
  | ((with_reducible apply ev_chain); (walk_at "ev"); (walk_at "ev"); (walk_at "rv"); (intro _; walk_at "ev"); (intro _; walk_at "rv"))
  | (with_reducible exact ea_nil)
  | ((with_reducible apply ea_cons); (walk_at "ev"); (walk_at "ev"))
  | ((with_reducible apply et_test); (walk_at "ev"))
  | ((with_reducible apply et_B); (walk_at "ev"))
  | ((with_reducible apply et_and); (walk_at "ev"); (intro _; walk_at "ev"))
  | ((with_reducible apply et_or); (walk_at "ev"); (intro _; walk_at "ev"))
  | ((with_reducible apply et_not); (walk_at "ev"))
  | (with_reducible exact eo_none)
  | ((with_reducible apply eo_some); (walk_at "ev")))
local macro_rules | `(tactic| walk_at "sz") => `(tactic| exact Nat.le_of_ble_eq_true rfl)
local macro_rules | `(tactic| walk_at "as") => `(tactic| ((with_reducible apply es_asg); (walk_at "ev")))
local macro_rules | `(tactic| walk_at "tp") => `(tactic| ((with_reducible apply ep_tup); (walk_at "ev"); (walk_at "sz")))
local macro_rules | `(tactic| walk_at "no") => `(tactic| ((with_reducible apply es_whenF); ((with_reducible apply et_is); (walk_at "ev"); (decide +kernel))))
local macro_rules | `(tactic| walk_at "yes") => `(tactic| ((with_reducible apply es_whenT); ((with_reducible apply et_is); (walk_at "ev"); (decide +kernel))))
section
variable {P : Program} {w : World} {K : PySem.W.Frag} {mg : Str → Option Value} {base : Heap}
def sp_polyline_covers (K : PySem.W.Frag) : Sp := fun vs H Q _ => ∃ a ns x y, vs = [.ref a, .int x, .int y] ∧ IntsAt H a ns ∧ PtsOk .poly ns ∧ (Bd x ∧ Bd y) ∧ ∀ H2, Same H H2 → Q (.bl (polyC ns x y)) H2
theorem spv_line {a : Addr} {x1 y1 x2 y2 x y : Int} {H : Hp} (ha : IntsAt H a [x1, y1, x2, y2]) (hb : Bd x1 ∧ Bd y1 ∧ Bd x2 ∧ Bd y2 ∧ Bd x ∧ Bd y) : SpV Same (sp_line_covers K) [.ref a, .int x, .int y] H (fun v _ => v = .bl (lineC x1 y1 x2 y2 x y)) :=
  fun H1 e Q q E => ⟨a, x1, y1, x2, y2, x, y, rfl, Rel.tup e ha, hb, fun H2 e2 => q _ H2 e2 rfl⟩
theorem ok_polyline_covers (T : Txt K mg) : FnOk P w K mg base CX0 2 (He.ga K "polyline_covers") (fdOf K (He.ga K "polyline_covers")) p_polyline_covers (sp_polyline_covers K) := by
  refine T.polyline_covers.fn.ok sc_polyline_covers (fun vs H Q E h => ?_) (fun cdv A outer s H vs Q E hr h => ?_)
  · obtain ⟨a, ns, x, y, rfl, ha, ⟨hb, h2, hl, hl2⟩, ⟨bx, bY⟩, q⟩ := h
    rfl
  · obtain ⟨a, ns, x, y, rfl, ha, ⟨hb, h2, hl, hl2⟩, ⟨bx, bY⟩, q⟩ := h
    refine ⟨_, (pss_cons (ps_if (pt_cmpR op_eq (pe_callB (r := rLenQ K) cb_lenQ (by rfl) T.b_len PySem.boot_len (pa_cons (pv 0) pa_nil)) pe_int (nomark _)) (pss_one (ps_ret (pe_cmpR (r := rEqD K) (op_eqD hr.units) (pv 0) (pe_tup (pa_cons (pv 1) (pa_cons (pv 2) pa_nil))) (nomark _)))) pss_nil) (pss_cons (ps_for PassesOwn.never rfl (pi_range3 (by rfl) T.b_range (pa_cons pe_int (pa_cons (pe_op op_sub (pe_callB (r := rLenQ K) cb_lenQ (by rfl) T.b_len PySem.boot_len (pa_cons (pv 0) pa_nil)) pe_int) (pa_cons pe_int pa_nil)))) (pg_name (i := 3) sc_polyline_covers.nd rfl (Or.inl rfl)) (pss_one (ps_if (pt_val (pe_call (ok_line_covers T) (hr.mono (by decide)) (by rfl) T.line_covers.mg T.line_covers.fn.kp (bd_line_covers T) .nil pass0 (pa_cons (pe_slice (r := rSlA K) sl_tupA (pv 0) (po_some (pv 3)) (po_some (pe_op op_add (pv 3) pe_int))) (pa_cons (pv 1) (pa_cons (pv 2) pa_nil))))) (pss_one (ps_ret pe_bl)) pss_nil))) (pss_one (ps_ret pe_bl)))), ?_⟩
    refine EvS.run (R := Same) (φ := fun v _ => v = .bl (polyC ns x y)) ?_ fun v H2 e2 p => by rw [p]; exact q H2 e2
    apply es_when
    · apply et_test
      refine ev_op (ev_cb (by walk_at "ev") (rc_lenT ha)) (by walk_at "ev") (rv_eq rfl)
    · intro hq
      have hq := V.int.inj (of_decide_eq_true hq)
      have h2' : ns.length = 2 := by
        rw [List.length_map] at hq
        omega
      obtain ⟨c0, c1, rfl⟩ := len2 h2'
      apply es_ret
      · refine ev_opR (z := .bl (PyData.eqv (.tuple [.int c0, .int c1]) (.tuple [.int x, .int y]))) (P := NewT [.int x, .int y]) (by walk_at "ev") (by walk_at "tp") ?_
        rintro v H1 e1 ⟨p, rfl, hp⟩
        exact rv_eqD (d := .tuple [.int c0, .int c1]) (e := .tuple [.int x, .int y]) (.tup (SqT.of (Rel.tup e1 ha)) (dp_ints [c0, c1])) (.tup (SqT.of hp) (dp_ints [x, y])) (shaped_ints [c0, c1]) (shaped_ints [x, y])
      · intro _ _
        rw [eqv_two]
        rfl
    intro hq
    have hq : ns.length ≠ 2 := fun z => of_decide_eq_false hq (by rw [List.length_map, z]; rfl)
    have en : ((ns.map V.int).length : Int) - 2 = 2 * ((ns.length / 2 - 1 : Nat) : Int) := by
      rw [List.length_map]
      omega
    have e0 : polyC ns x y = anyN (ns.length / 2 - 1) (segC ns x y) := by
      unfold polyC
      rw [if_neg hq]
    apply es_seq
    · refine es_forR3 (lo := 0) (hi := 2 * ((ns.length / 2 - 1 : Nat) : Int)) (c := 2) (n := ns.length / 2 - 1) ?_ (rg_two _ (by omega)) (fun i σ _ => (∃ k, σ = [some (.ref a), some (.int x), some (.int y), k]) ∧ ∀ j, j < i → segC ns x y j = false) (fun H1 e => ⟨⟨none, rfl⟩, fun j hj => absurd hj (Nat.not_lt_zero _)⟩) ?_
        (ψ := fun σ _ => ∀ j, j < ns.length / 2 - 1 → segC ns x y j = false) (fun σ' H1 _ p => p.2)
      · rw [← en]
        refine ea_cons (by walk_at "ev") (ea_cons (ev_op (ev_cb (by walk_at "ev") (rc_lenT ha)) (by walk_at "ev") rv_I0) (ea_cons (by walk_at "ev") ea_nil))
      · rintro i σ' H1 hi e ⟨⟨k0, rfl⟩, hf⟩
        have ha1 := Rel.tup e ha
        have hk : (0 : Int) + (i : Nat) * 2 = ((2 * i : Nat) : Int) := by omega
        refine es_if1 (b := segC ns x y i) ?_ ?_ ?_
        · apply et_B
          have bd := at0_bd hb
          refine fun H2 e2 Q q => ep_callP (P := fun v _ => v = .bl (segC ns x y i)) (PA := fun vs H => ∃ p, vs = [.ref p, .int x, .int y] ∧ IntsAt H p [at0 ns (2 * i), at0 ns (2 * i + 1), at0 ns (2 * i + 2), at0 ns (2 * i + 3)]) (eap_cons (ep_slT (by walk_at "ev") (eo_some (by walk_at "ev")) (eo_some (by walk_at "ev")) ha1) ?_) ?_ H2 e2 Q fun v H3 e3 p => by rw [p]; exact q H3 e3
          · rintro v H3 e3 ⟨p, rfl, hp⟩
            rw [cut4 hk (by omega)] at hp
            refine EvA.p (ea_cons (by walk_at "ev") (ea_cons (by walk_at "ev") ea_nil)) fun H4 e4 => ⟨p, rfl, Rel.tup e4 hp⟩
          · rintro vs H3 e3 ⟨p, rfl, hp⟩ Q q
            exact spv_line (K := K) hp ⟨bd _, bd _, bd _, bd _, bx, bY⟩ H3 (Same.refl _) Q q _
        · intro hs
          apply es_ret
          · walk_at "ev"
          · intro _ _
            rw [e0, anyN_true hi hs]
        · intro hs
          refine es_next fun H2 e2 => ⟨⟨_, rfl⟩, fun j hj => ?_⟩
          by_cases h : j = i
          · rw [h]
            exact hs
          · exact hf j (by omega)
    · intro σ' H1 e hf
      apply es_ret
      · walk_at "ev"
      · intro _ _
        rw [e0, anyN_false hf]
end
end Cs

namespace Cs
open PySem PySem.Spec PyProof.Rows L2
local macro_rules | `(tactic| walk_at "hp") => `(tactic| first | assumption)
local macro_rules | `(tactic| walk_at "num") => `(tactic| first | assumption | omega | decide)
local macro_rules | `(tactic| walk_at "rv") => `(tactic| first
  | (with_reducible exact rv_I0)
  | ((with_reducible apply rv_ixT); (walk_at "hp"); (rfl))
  | ((with_reducible apply rv_eq); (rfl))
  | ((with_reducible apply rv_ne); (rfl))
  | (with_reducible exact rv_isN)
  | (with_reducible exact rv_notN)
  | (with_reducible exact rv_inS)
  | ((with_reducible apply rv_I); (first | exact Or.inr ⟨by walk_at "num", by walk_at "num"⟩ | exact Or.inl ⟨by walk_at "num", by walk_at "num"⟩ | exact ⟨by walk_at "num", by walk_at "num"⟩ | exact ⟨by walk_at "num", by walk_at "num", by walk_at "num"⟩ | walk_at "num"))
  | ((with_reducible apply rv_ixS) <;> walk_at "num"))
local macro_rules | `(tactic| walk_at "rc") => `(tactic| first
  | (with_reducible exact rc_abs) | (with_reducible exact rc_max2) | (with_reducible exact rc_min2) | (with_reducible exact rc_int1)
  | ((with_reducible apply rc_lenT); walk_at "hp") | ((with_reducible apply rc_lenZ); walk_at "num"))
local macro_rules | `(tactic| walk_at "ev") => `(tactic| first
  | (with_reducible exact ev_c)
  | ((with_reducible apply ev_var); rfl)
  | ((with_reducible apply ev_op); (walk_at "ev"); (walk_at "ev"); (walk_at "rv"))
  | ((with_reducible apply ev_un); (walk_at "ev"); (exact ru_neg))
  | ((with_reducible apply ev_cb); (walk_at "ev"); (walk_at "rc"))
  | ((with_reducible apply ev_andV); (walk_at "ev"); (intro _; walk_at "ev"))
  | ((with_reducible apply ev_chain); (walk_at "ev"); (walk_at "ev"); (walk_at "rv"); (intro _; walk_at "ev"); (intro _; walk_at "rv"))
  | (with_reducible exact ea_nil)
  | ((with_reducible apply ea_cons); (walk_at "ev"); (walk_at "ev"))
  | ((with_reducible apply et_test); (walk_at "ev"))
  | ((with_reducible apply et_B); (walk_at "ev"))
  | ((with_reducible apply et_and); (walk_at "ev"); (intro _; walk_at "ev"))
  | ((with_reducible apply et_or); (walk_at "ev"); (intro _; walk_at "ev"))
  | ((with_reducible apply et_not); (walk_at "ev"))
  | (with_reducible exact eo_none)
  | ((with_reducible apply eo_some); (walk_at "ev")))
local macro_rules | `(tactic| walk_at "sz") => `(tactic| exact Nat.le_of_ble_eq_true rfl)
local macro_rules | `(tactic| walk_at "as") => `(tactic| ((with_reducible apply es_asg); (walk_at "ev")))
local macro_rules | `(tactic| walk_at "tp") => `(tactic| ((with_reducible apply ep_tup); (walk_at "ev"); (walk_at "sz")))
local macro_rules | `(tactic| walk_at "no") => `(tactic| ((with_reducible apply es_whenF); ((with_reducible apply et_is); (walk_at "ev"); (decide +kernel))))
local macro_rules | `(tactic| walk_at "yes") => `(tactic| ((with_reducible apply es_whenT); ((with_reducible apply et_is); (walk_at "ev"); (decide +kernel))))
section
variable {P : Program} {w : World} {K : PySem.W.Frag} {mg : Str → Option Value} {base : Heap}
def sp_covers (K : PySem.W.Frag) : Sp := fun vs H Q _ => ∃ sh a ns z x y, vs = [.str (Sh.str sh), .ref a, .str z, .int x, .int y] ∧ IntsAt H a ns ∧ PtsOk sh ns ∧ z.length ≤ 100 ∧ (Bd x ∧ Bd y) ∧ ∀ H2, Same H H2 → Q (.bl (cov sh ns z x y)) H2
theorem spv_contains {a : Addr} {r : R4} {x y : Int} {H : Hp} (ha : RectAt H a r) : SpV Same (sp_contains K) [.ref a, .int x, .int y] H (fun v _ => v = .bl (contains r x y)) := fun H1 e Q q E => ⟨a, r, x, y, rfl, Rel.tup e ha, fun H2 e2 => q _ H2 e2 rfl⟩
theorem spv_poly {a : Addr} {ns : List Int} {x y : Int} {H : Hp} (ha : IntsAt H a ns) (ok : PtsOk .poly ns) (hb : Bd x ∧ Bd y) : SpV Same (sp_polyline_covers K) [.ref a, .int x, .int y] H (fun v _ => v = .bl (polyC ns x y)) := fun H1 e Q q E => ⟨a, ns, x, y, rfl, Rel.tup e ha, ok, hb, fun H2 e2 => q _ H2 e2 rfl⟩
theorem spv_inked {z : Str} {x y : Int} {H : Hp} : SpV Same (sp_inked K) [.str z, .int x, .int y] H (fun v _ => v = .bl (inked z x y)) := fun H1 e Q q E => ⟨z, x, y, rfl, fun H2 e2 => q _ H2 e2 rfl⟩
theorem spv_around {sh : Sh} {a : Addr} {ns : List Int} {z : Str} {H : Hp} (ha : IntsAt H a ns) (ok : PtsOk sh ns) (hz : z.length ≤ 100) : SpV Same (sp_around K) [.str sh.str, .ref a, .str z] H (fun v H2 => ∃ b r, v = .ref b ∧ RectAt H2 b r ∧ AroundOk sh ns z r) :=
  fun H1 e Q q E => ⟨sh, a, ns, z, rfl, Rel.tup e ha, ok, hz, fun b r H2 e2 h1 h2 => q _ H2 e2 ⟨b, r, rfl, h1, h2⟩⟩
theorem ok_covers (T : Txt K mg) : FnOk P w K mg base CX0 4 (He.ga K "covers") (fdOf K (He.ga K "covers")) p_covers (sp_covers K) := by
  refine T.covers.fn.ok sc_covers (fun vs H Q E h => ?_) (fun cdv A outer s H vs Q E hr h => ?_)
  · obtain ⟨sh, a, ns, z, x, y, rfl, ha, ok, hz, ⟨⟨bx, bx'⟩, ⟨bY, bY'⟩⟩, q⟩ := h
    rfl
  · obtain ⟨sh, a, ns, z, x, y, rfl, ha, ok, hz, ⟨⟨bx, bx'⟩, ⟨bY, bY'⟩⟩, q⟩ := h
    refine ⟨_, (pss_cons (ps_if (pt_cmpR op_eq (pv 0) pe_str (nomark _)) (pss_one (ps_ret (pe_call (ok_contains T) (hr.mono (by decide)) (by rfl) T.contains.mg T.contains.fn.kp (bd_contains T) .nil pass0 (pa_cons (pv 1) (pa_cons (pv 3) (pa_cons (pv 4) pa_nil)))))) pss_nil) (pss_cons (ps_if (pt_cmpR op_eq (pv 0) pe_str (nomark _)) (pss_one (ps_ret (pe_call (ok_line_covers T) (hr.mono (by decide)) (by rfl) T.line_covers.mg T.line_covers.fn.kp (bd_line_covers T) .nil pass0 (pa_cons (pv 1) (pa_cons (pv 3) (pa_cons (pv 4) pa_nil)))))) pss_nil) (pss_cons (ps_if (pt_cmpR op_eq (pv 0) pe_str (nomark _)) (pss_one (ps_ret (pe_call (ok_polyline_covers T) (hr.mono (by decide)) (by rfl) T.polyline_covers.mg T.polyline_covers.fn.kp (bd_polyline_covers T) .nil pass0 (pa_cons (pv 1) (pa_cons (pv 3) (pa_cons (pv 4) pa_nil)))))) pss_nil) (pss_cons (ps_if (pt_cmpR op_eq (pv 0) pe_str (nomark _)) (pss_cons (ps_set (i := 5) sc_covers.nd rfl (Or.inl rfl) (pe_op op_sub (pv 3) (pe_ix (r := rIxT K) ix_tup (pv 1) pe_int (fun _ _ => rfl)))) (pss_cons (ps_set (i := 6) sc_covers.nd rfl (Or.inl rfl) (pe_op op_sub (pv 4) (pe_ix (r := rIxT K) ix_tup (pv 1) pe_int (fun _ _ => rfl)))) (pss_one (ps_ret (pe_cmpR op_le (pe_op op_add (pe_op op_mul (pv 5) (pv 5)) (pe_op op_mul (pv 6) (pv 6))) (pe_op op_add (pe_op op_mul (pe_ix (r := rIxT K) ix_tup (pv 1) pe_int (fun _ _ => rfl)) (pe_ix (r := rIxT K) ix_tup (pv 1) pe_int (fun _ _ => rfl))) (pe_ix (r := rIxT K) ix_tup (pv 1) pe_int (fun _ _ => rfl))) (nomark _)))))) pss_nil) (pss_cons (ps_set (i := 7) sc_covers.nd rfl (Or.inl rfl) (pe_call (ok_around T) (hr.mono (by decide)) (by rfl) T.around.mg T.around.fn.kp (bd_around T) .nil pass0 (pa_cons (pv 0) (pa_cons (pv 1) (pa_cons (pv 2) pa_nil))))) (pss_one (ps_ret (pe_call (ok_inked T) (hr.mono (by decide)) (by rfl) T.inked.mg T.inked.fn.kp (bd_inked T) .nil pass0 (pa_cons (pv 2) (pa_cons (pe_op op_sub (pv 3) (pe_ix (r := rIxT K) ix_tup (pv 7) pe_int (fun _ _ => rfl))) (pa_cons (pe_op op_sub (pv 4) (pe_ix (r := rIxT K) ix_tup (pv 7) pe_int (fun _ _ => rfl))) pa_nil))))))))))), ?_⟩
    refine EvS.run (R := Same) (φ := fun v _ => v = .bl (cov sh ns z x y)) ?_ fun v H2 e2 p => by rw [p]; exact q H2 e2
    have ok0 := ok
    obtain ⟨hb, ok⟩ := ok
    have bd := at0_bd hb
    cases sh with
    | rect =>
      walk_at "yes"
      obtain ⟨c0, c1, c2, c3, rfl⟩ := len4 ok
      apply es_ret
      · exact ev_call (by walk_at "ev") (spv_contains (K := K) (r := ⟨c0, c1, c2, c3⟩) ha)
      · exact fun H2 e => rfl
    | line =>
      walk_at "no"
      walk_at "yes"
      obtain ⟨c0, c1, c2, c3, rfl⟩ := len4 ok
      apply es_ret
      · exact ev_call (by walk_at "ev") (spv_line (K := K) ha ⟨bd 0, bd 1, bd 2, bd 3, ⟨bx, bx'⟩, ⟨bY, bY'⟩⟩)
      · exact fun H2 e => rfl
    | poly =>
      walk_at "no"
      walk_at "no"
      walk_at "yes"
      apply es_ret
      · exact ev_call (by walk_at "ev") (spv_poly (K := K) ha ok0 ⟨⟨bx, bx'⟩, ⟨bY, bY'⟩⟩)
      · exact fun H2 e => rfl
    | circ =>
      obtain ⟨h3, _⟩ : ns.length = 3 ∧ 0 ≤ at0 ns 2 := ok
      obtain ⟨c0, c1, c2, rfl⟩ := len3 h3
      obtain ⟨b0, b0'⟩ : -1000 ≤ c0 ∧ c0 ≤ 1000 := bd 0
      obtain ⟨b1, b1'⟩ : -1000 ≤ c1 ∧ c1 ≤ 1000 := bd 1
      obtain ⟨b2, b2'⟩ : -1000 ≤ c2 ∧ c2 ≤ 1000 := bd 2
      walk_at "no"
      walk_at "no"
      walk_at "no"
      walk_at "yes"
      walk_at "as"
      walk_at "as"
      apply es_ret
      · walk_at "ev"
      · exact fun H2 e => rfl
    | ts =>
      obtain ⟨c0, c1, rfl⟩ := len2 (show ns.length = 2 from ok)
      walk_at "no"
      walk_at "no"
      walk_at "no"
      walk_at "no"
      refine es_asgP (ep_call (by walk_at "ev") (spv_around (K := K) ha ok0 hz)) ?_
      rintro v H1 e1 ⟨b, r, rfl, hr1, har⟩
      have e : r = _ := har
      subst e
      apply es_ret
      · exact ev_call (by walk_at "ev") (spv_inked (K := K))
      · exact fun H2 e => rfl
    | tm =>
      obtain ⟨c0, c1, rfl⟩ := len2 (show ns.length = 2 from ok)
      walk_at "no"
      walk_at "no"
      walk_at "no"
      walk_at "no"
      refine es_asgP (ep_call (by walk_at "ev") (spv_around (K := K) ha ok0 hz)) ?_
      rintro v H1 e1 ⟨b, r, rfl, hr1, har⟩
      have e : r = _ := har
      subst e
      apply es_ret
      · exact ev_call (by walk_at "ev") (spv_inked (K := K))
      · exact fun H2 e => rfl
    | te =>
      obtain ⟨c0, c1, rfl⟩ := len2 (show ns.length = 2 from ok)
      walk_at "no"
      walk_at "no"
      walk_at "no"
      walk_at "no"
      refine es_asgP (ep_call (by walk_at "ev") (spv_around (K := K) ha ok0 hz)) ?_
      rintro v H1 e1 ⟨b, r, rfl, hr1, har⟩
      have e : r = _ := har
      subst e
      apply es_ret
      · exact ev_call (by walk_at "ev") (spv_inked (K := K))
      · exact fun H2 e => rfl
/-- what a primitive reaches -/
def Reaches (p : Prim) (o : Option R4) : Prop := ∀ x y, p.geo x y = true → ∃ c, o = some c ∧ contains c x y = true
def sp_reach (K : PySem.W.Frag) : Sp := fun vs H Q _ => ∃ a p, vs = [.ref a] ∧ PrimAt H a p ∧ p.ok ∧ ∀ v o H2, Same H H2 → ORect H2 v o → Reaches p o → Q v H2
theorem spv_common {a b : Addr} {r z : R4} {H : Hp} (ha : RectAt H a r) (hb : RectAt H b z) : SpV Same (sp_common K) [.ref a, .ref b] H (fun v H2 => ∃ o, ORect H2 v o ∧ Meets r z o) := fun H1 e Q q E => ⟨a, b, r, z, rfl, Rel.tup e ha, Rel.tup e hb, fun v H2 o e2 h1 h2 => q v H2 e2 ⟨o, h1, h2⟩⟩
theorem ok_reach (T : Txt K mg) : FnOk P w K mg base CX0 4 (He.ga K "reach") (fdOf K (He.ga K "reach")) p_reach (sp_reach K) := by
  refine T.reach.fn.ok sc_reach (fun vs H Q E h => ?_) (fun cdv A outer s H vs Q E hr h => ?_)
  · obtain ⟨a, p, rfl, ha, ok, q⟩ := h
    rfl
  · obtain ⟨a, p, rfl, ha, ok, q⟩ := h
    refine ⟨_, (pss_cons (ps_set (i := 1) sc_reach.nd rfl (Or.inl rfl) (pe_call (ok_around T) (hr.mono (by decide)) (by rfl) T.around.mg T.around.fn.kp (bd_around T) .nil pass0 (pa_cons (pe_ix (r := rIxT K) ix_tup (pv 0) pe_int (fun _ _ => rfl)) (pa_cons (pe_ix (r := rIxT K) ix_tup (pv 0) pe_int (fun _ _ => rfl)) (pa_cons (pe_ix (r := rIxT K) ix_tup (pv 0) pe_int (fun _ _ => rfl)) pa_nil))))) (pss_cons (ps_if (pt_cmpR op_isN1 (pe_ix (r := rIxT K) ix_tup (pv 0) pe_int (fun _ _ => rfl)) pe_non (nomark _)) (pss_one (ps_ret (pe_call (ok_common T) (hr.mono (by decide)) (by rfl) T.common.mg T.common.fn.kp (bd_common T) .nil pass0 (pa_cons (pv 1) (pa_cons (pv 1) pa_nil))))) pss_nil) (pss_one (ps_ret (pe_call (ok_common T) (hr.mono (by decide)) (by rfl) T.common.mg T.common.fn.kp (bd_common T) .nil pass0 (pa_cons (pv 1) (pa_cons (pe_ix (r := rIxT K) ix_tup (pv 0) pe_int (fun _ _ => rfl)) pa_nil))))))), ?_⟩
    obtain ⟨pa, cv, h1, h2, h3⟩ := ha
    refine EvS.run (R := Same) (φ := fun v H2 => ∃ o, ORect H2 v o ∧ Reaches p o) ?_ fun v H2 e2 ⟨o, p1, p2⟩ => q v o H2 e2 p1 p2
    refine es_asgP (ep_call (by walk_at "ev") (spv_around (K := K) (sh := p.sh) h2 ok.pts ok.text)) ?_
    rintro v H1 e1 ⟨b, r, rfl, hr1, har⟩
    have h1 := Rel.tup e1 h1
    have h3 := h3.keep e1
    have inr : ∀ x y, p.geo x y = true → contains r x y = true := fun x y hg => cov_in ok.pts har (Bool.and_eq_true_iff.mp hg).2
    cases hc : p.clip with
    | none =>
      rw [hc] at h3
      have h3 : cv = .non := h3
      subst h3
      apply es_whenT
      · apply et_is
        · walk_at "ev"
        · rfl
      · apply es_retP
        · exact ep_call (by walk_at "ev") (spv_common (K := K) hr1 hr1)
        · rintro v H2 e2 ⟨o, p1, p2⟩
          exact ⟨o, p1, fun x y hg => p2 x y (inr x y hg) (inr x y hg)⟩
    | some cr =>
      rw [hc] at h3
      obtain ⟨ca, rfl, h4⟩ : ∃ c, cv = .ref c ∧ RectAt H1 c cr := h3
      apply es_whenF
      · apply et_is
        · walk_at "ev"
        · rfl
      · apply es_retP
        · exact ep_call (by walk_at "ev") (spv_common (K := K) hr1 h4)
        · rintro v H2 e2 ⟨o, p1, p2⟩
          refine ⟨o, p1, fun x y hg => p2 x y (inr x y hg) ?_⟩
          have := (Bool.and_eq_true_iff.mp hg).1
          rw [hc] at this
          exact this
/-- what is seen of it on the page -/
def Seen (w h : Int) (p : Prim) (o : Option R4) : Prop := ∀ x y, contains ⟨0, 0, w, h⟩ x y = true → p.geo x y = true → ∃ c, o = some c ∧ contains c x y = true
def sp_visible_part (K : PySem.W.Frag) : Sp := fun vs H Q _ => ∃ s a w h ps p, vs = [.ref s, .ref a] ∧ SceneAt H s w h ps ∧ PrimAt H a p ∧ p.ok ∧ ∀ v o H2, Same H H2 → ORect H2 v o → Seen w h p o → Q v H2
theorem spv_reach {a : Addr} {p : Prim} {H : Hp} (ha : PrimAt H a p) (ok : p.ok) : SpV Same (sp_reach K) [.ref a] H (fun v H2 => ∃ o, ORect H2 v o ∧ Reaches p o) := fun H1 e Q q E => ⟨a, p, rfl, ha.keep e, ok, fun v o H2 e2 h1 h2 => q v H2 e2 ⟨o, h1, h2⟩⟩
theorem spv_page {a : Addr} {w h : Int} {ps : List Prim} {H : Hp} (ha : SceneAt H a w h ps) : SpV Same (sp_page_of K) [.ref a] H (fun v H2 => ∃ b, v = .ref b ∧ RectAt H2 b ⟨0, 0, w, h⟩) := fun H1 e Q q E => ⟨a, w, h, ps, rfl, ha.keep e, fun b H2 e2 h1 => q _ H2 e2 ⟨b, rfl, h1⟩⟩
theorem ok_visible_part (T : Txt K mg) : FnOk P w K mg base CX0 5 (He.ga K "visible_part") (fdOf K (He.ga K "visible_part")) p_visible_part (sp_visible_part K) := by
  refine T.visible_part.fn.ok sc_visible_part (fun vs H Q E h => ?_) (fun cdv A outer s H vs Q E hr h => ?_)
  · obtain ⟨sa, a, w, h, ps, p, rfl, hs, ha, ok, q⟩ := h
    rfl
  · obtain ⟨sa, a, w, h, ps, p, rfl, hs, ha, ok, q⟩ := h
    refine ⟨_, (pss_cons (ps_set (i := 2) sc_visible_part.nd rfl (Or.inl rfl) (pe_call (ok_reach T) (hr.mono (by decide)) (by rfl) T.reach.mg T.reach.fn.kp (bd_reach T) .nil pass0 (pa_cons (pv 1) pa_nil))) (pss_cons (ps_if (pt_cmpR op_isN1 (pv 2) pe_non (nomark _)) (pss_one (ps_ret pe_non)) pss_nil) (pss_one (ps_ret (pe_call (ok_common T) (hr.mono (by decide)) (by rfl) T.common.mg T.common.fn.kp (bd_common T) .nil pass0 (pa_cons (pv 2) (pa_cons (pe_call (ok_page_of T) (hr.mono (by decide)) (by rfl) T.page_of.mg T.page_of.fn.kp (bd_page_of T) .nil pass0 (pa_cons (pv 0) pa_nil)) pa_nil))))))), ?_⟩
    refine EvS.run (R := Same) (φ := fun v H2 => ∃ o, ORect H2 v o ∧ Seen w h p o) ?_ fun v H2 e2 ⟨o, p1, p2⟩ => q v o H2 e2 p1 p2
    refine es_asgP (ep_call (by walk_at "ev") (spv_reach (K := K) ha ok)) ?_
    rintro v H1 e1 ⟨o, h1, h2⟩
    cases o with
    | none =>
      have h1 : v = .non := h1
      subst h1
      apply es_whenT
      · apply et_is
        · walk_at "ev"
        · rfl
      · apply es_ret
        · walk_at "ev"
        · refine fun H2 e => ⟨none, rfl, fun x y _ hg => ?_⟩
          obtain ⟨c, hc, _⟩ := h2 x y hg
          cases hc
    | some r =>
      obtain ⟨ra, rfl, h3⟩ : ∃ c, v = .ref c ∧ RectAt H1 c r := h1
      apply es_whenF
      · apply et_is
        · walk_at "ev"
        · rfl
      · apply es_retP
        · refine ep_callP (P := fun v H2 => ∃ o, ORect H2 v o ∧ Meets r ⟨0, 0, w, h⟩ o) (PA := fun vs H => ∃ p, vs = [.ref ra, .ref p] ∧ RectAt H ra r ∧ RectAt H p ⟨0, 0, w, h⟩) (eap_cons (Ev.p (v := .ref ra) (by walk_at "ev")) ?_) ?_
          · rintro v H2 e2 rfl
            refine eap_cons (ep_call (by walk_at "ev") (spv_page (K := K) (hs.keep (e1.trans e2)))) ?_
            rintro v H3 e3 ⟨b, rfl, hb⟩
            exact EvA.p ea_nil fun H4 e4 => ⟨b, rfl, Rel.tup (e2.trans (e3.trans e4)) h3, Rel.tup e4 hb⟩
          · rintro vs H3 e3 ⟨b, rfl, hb1, hb2⟩ Q q
            exact spv_common (K := K) hb1 hb2 H3 (Same.refl _) Q q _
        · rintro v H2 e2 ⟨o, p1, p2⟩
          refine ⟨o, p1, fun x y hp hg => ?_⟩
          obtain ⟨c, hc, hcc⟩ := h2 x y hg
          cases hc
          exact p2 x y hcc hp
def sp_paint_of (K : PySem.W.Frag) : Sp := fun vs H Q _ => ∃ a p x y, vs = [.ref a, .int x, .int y] ∧ PrimAt H a p ∧ p.ok ∧ (Bd x ∧ Bd y) ∧ ∀ H2, Same H H2 → Q (oS (p.paint x y)) H2
theorem spv_covers {sh : Sh} {a : Addr} {ns : List Int} {z : Str} {x y : Int} {H : Hp} (ha : IntsAt H a ns) (ok : PtsOk sh ns) (hz : z.length ≤ 100) (hb : Bd x ∧ Bd y) : SpV Same (sp_covers K) [.str sh.str, .ref a, .str z, .int x, .int y] H (fun v _ => v = .bl (cov sh ns z x y)) :=
  fun H1 e Q q E => ⟨sh, a, ns, z, x, y, rfl, Rel.tup e ha, ok, hz, hb, fun H2 e2 => q _ H2 e2 rfl⟩
theorem sh_line (sh : Sh) : (decide (V.str sh.str = V.str "line") || decide (V.str sh.str = V.str "polyline")) = (match sh with | .line => true | .poly => true | _ => false) := by
  cases sh <;> decide +kernel
theorem ok_paint_of (T : Txt K mg) : FnOk P w K mg base CX0 5 (He.ga K "paint_of") (fdOf K (He.ga K "paint_of")) p_paint_of (sp_paint_of K) := by
  refine T.paint_of.fn.ok sc_paint_of (fun vs H Q E h => ?_) (fun cdv A outer s H vs Q E hr h => ?_)
  · obtain ⟨a, p, x, y, rfl, ha, ok, hb, q⟩ := h
    rfl
  · obtain ⟨a, p, x, y, rfl, ha, ok, hb, q⟩ := h
    refine ⟨_, (pss_cons (ps_set (i := 3) sc_paint_of.nd rfl (Or.inl rfl) (pe_ix (r := rIxT K) ix_tup (pv 0) pe_int (fun _ _ => rfl))) (pss_cons (ps_if (PW.pt (pw_or (pt_cmpR op_eq (pe_ix (r := rIxT K) ix_tup (pv 0) pe_int (fun _ _ => rfl)) pe_str (nomark _)) (pw_or1 (pt_cmpR op_eq (pe_ix (r := rIxT K) ix_tup (pv 0) pe_int (fun _ _ => rfl)) pe_str (nomark _))))) (pss_one (ps_set (i := 3) sc_paint_of.nd rfl (Or.inl rfl) (pe_ix (r := rIxT K) ix_tup (pv 0) pe_int (fun _ _ => rfl)))) pss_nil) (pss_cons (ps_if (pt_cmpR op_isN1 (pv 3) pe_non (nomark _)) (pss_one (ps_ret pe_non)) pss_nil) (pss_cons (ps_if (PW.pt (pw_and (pt_cmpR op_notN1 (pe_ix (r := rIxT K) ix_tup (pv 0) pe_int (fun _ _ => rfl)) pe_non (nomark _)) (pw_and1 (pt_not (pt_val (pe_call (ok_contains T) (hr.mono (by decide)) (by rfl) T.contains.mg T.contains.fn.kp (bd_contains T) .nil pass0 (pa_cons (pe_ix (r := rIxT K) ix_tup (pv 0) pe_int (fun _ _ => rfl)) (pa_cons (pv 1) (pa_cons (pv 2) pa_nil))))))))) (pss_one (ps_ret pe_non)) pss_nil) (pss_cons (ps_if (pt_val (pe_call (ok_covers T) (hr.mono (by decide)) (by rfl) T.covers.mg T.covers.fn.kp (bd_covers T) .nil pass0 (pa_cons (pe_ix (r := rIxT K) ix_tup (pv 0) pe_int (fun _ _ => rfl)) (pa_cons (pe_ix (r := rIxT K) ix_tup (pv 0) pe_int (fun _ _ => rfl)) (pa_cons (pe_ix (r := rIxT K) ix_tup (pv 0) pe_int (fun _ _ => rfl)) (pa_cons (pv 1) (pa_cons (pv 2) pa_nil))))))) (pss_one (ps_ret (pv 3))) pss_nil) (pss_one (ps_ret pe_non))))))), ?_⟩
    obtain ⟨pa, cv, h1, h2, h3⟩ := ha
    refine EvS.run (R := Same) (φ := fun v _ => v = oS (p.paint x y)) ?_ fun v H2 e2 p => by rw [p]; exact q H2 e2
    have hno : p.ink = none → p.paint x y = none := fun h => by
      unfold Prim.paint
      rw [h]
      split <;> rfl
    walk_at "as"
    refine es_via (σ0 := [some (.ref a), some (.int x), some (.int y), some (oS p.ink)]) ?_ fun main => ?_
    · cases hi : p.ink with
      | none =>
        apply es_whenT
        · apply et_is
          · walk_at "ev"
          · rfl
        · apply es_ret
          · walk_at "ev"
          · intro _ _
            rw [hno hi]
            rfl
      | some z =>
        apply es_whenF
        · apply et_is
          · walk_at "ev"
          · rfl
        refine es_when (b := !clipC p.clip x y) ?_ ?_ ?_
        · cases hc : p.clip with
          | none =>
            rw [hc] at h3
            have h3 : cv = .non := h3
            subst h3
            refine et_is (a := false && true) (et_and ?_ fun z => nomatch z) rfl
            apply et_is
            · walk_at "ev"
            · rfl
          | some r =>
            rw [hc] at h3
            obtain ⟨ca, rfl, h4⟩ : ∃ c, cv = .ref c ∧ RectAt H c r := h3
            refine et_is (a := true && !contains r x y) (et_and ?_ fun _ => ?_) rfl
            · apply et_is
              · walk_at "ev"
              · rfl
            · exact et_not (et_B (ev_call (by walk_at "ev") (spv_contains (K := K) h4)))
        · intro hcl
          have hcl : clipC p.clip x y = false := by
            cases e : clipC p.clip x y with
            | false => rfl
            | true =>
              rw [e] at hcl
              cases hcl
          apply es_ret
          · walk_at "ev"
          · intro _ _
            unfold Prim.paint Prim.geo
            rw [hcl]
            rfl
        intro hcl
        have hcl : clipC p.clip x y = true := by
          cases e : clipC p.clip x y with
          | true => rfl
          | false =>
            rw [e] at hcl
            cases hcl
        refine es_when (b := cov p.sh p.pts p.text x y) ?_ ?_ ?_
        · exact et_B (ev_call (by walk_at "ev") (spv_covers (K := K) (sh := p.sh) h2 ok.pts ok.text hb))
        · intro hcv
          apply es_ret
          · walk_at "ev"
          · intro _ _
            unfold Prim.paint Prim.geo
            rw [hcl, hcv, hi]
            rfl
        · intro hcv
          apply es_ret
          · walk_at "ev"
          · intro _ _
            unfold Prim.paint Prim.geo
            rw [hcl, hcv]
            rfl
    cases hsh : p.sh with
    | line =>
      have hi : p.ink = p.stroke := by
        unfold Prim.ink
        rw [hsh]
      apply es_ifT
      · apply et_is
        · walk_at "ev"
        · rw [sh_line, hsh]
      · walk_at "as"
        rw [hi] at main
        exact main
    | poly =>
      have hi : p.ink = p.stroke := by
        unfold Prim.ink
        rw [hsh]
      apply es_ifT
      · apply et_is
        · walk_at "ev"
        · rw [sh_line, hsh]
      · walk_at "as"
        rw [hi] at main
        exact main
    | _ =>
      have hi : p.ink = p.fill := by
        unfold Prim.ink
        rw [hsh]
      apply es_ifF
      · apply et_is
        · walk_at "ev"
        · rw [sh_line, hsh]
      · apply es_skip
        rw [hi] at main
        exact main
end
end Cs

namespace Cs
open PySem PySem.Spec PyProof.Rows L2
local macro_rules | `(tactic| walk_at "hp") => `(tactic| first | assumption)
local macro_rules | `(tactic| walk_at "num") => `(tactic| first | assumption | omega | decide)
local macro_rules | `(tactic| walk_at "rv") => `(tactic| first
  | (with_reducible exact rv_I0)
  | ((with_reducible apply rv_ixT); (walk_at "hp"); (rfl))
  | ((with_reducible apply rv_eq); (rfl))
  | ((with_reducible apply rv_ne); (rfl))
  | (with_reducible exact rv_isN)
  | (with_reducible exact rv_notN)
  | (with_reducible exact rv_inS)
  | ((with_reducible apply rv_I); (first | exact Or.inr ⟨by walk_at "num", by walk_at "num"⟩ | exact Or.inl ⟨by walk_at "num", by walk_at "num"⟩ | exact ⟨by walk_at "num", by walk_at "num"⟩ | exact ⟨by walk_at "num", by walk_at "num", by walk_at "num"⟩ | walk_at "num"))
  | ((with_reducible apply rv_ixS) <;> walk_at "num"))
local macro_rules | `(tactic| walk_at "rc") => `(tactic| first
  | (with_reducible exact rc_abs) | (with_reducible exact rc_max2) | (with_reducible exact rc_min2) | (with_reducible exact rc_int1)
  | ((with_reducible apply rc_lenT); walk_at "hp") | ((with_reducible apply rc_lenZ); walk_at "num"))
local macro_rules | `(tactic| walk_at "ev") => `(tactic| first
  | (with_reducible exact ev_c)
  | ((with_reducible apply ev_var); rfl)
  | ((with_reducible apply ev_op); (walk_at "ev"); (walk_at "ev"); (walk_at "rv"))
  | ((with_reducible apply ev_un); (walk_at "ev"); (exact ru_neg))
  | ((with_reducible apply ev_cb); (walk_at "ev"); (walk_at "rc"))
  | ((with_reducible apply ev_andV); (walk_at "ev"); (intro _; walk_at "ev"))
  | ((with_reducible apply ev_chain); (walk_at "ev"); (walk_at "ev"); (walk_at "rv"); (intro _; walk_at "ev"); (intro _; walk_at "rv"))
  | (with_reducible exact ea_nil)
  | ((with_reducible apply ea_cons); (walk_at "ev"); (walk_at "ev"))
  | ((with_reducible apply et_test); (walk_at "ev"))
  | ((with_reducible apply et_B); (walk_at "ev"))
  | ((with_reducible apply et_and); (walk_at "ev"); (intro _; walk_at "ev"))
  | ((with_reducible apply et_or); (walk_at "ev"); (intro _; walk_at "ev"))
  | ((with_reducible apply et_not); (walk_at "ev"))
  | (with_reducible exact eo_none)
  | ((with_reducible apply eo_some); (walk_at "ev")))
local macro_rules | `(tactic| walk_at "sz") => `(tactic| exact Nat.le_of_ble_eq_true rfl)
local macro_rules | `(tactic| walk_at "as") => `(tactic| ((with_reducible apply es_asg); (walk_at "ev")))
local macro_rules | `(tactic| walk_at "tp") => `(tactic| ((with_reducible apply ep_tup); (walk_at "ev"); (walk_at "sz")))
local macro_rules | `(tactic| walk_at "no") => `(tactic| ((with_reducible apply es_whenF); ((with_reducible apply et_is); (walk_at "ev"); (decide +kernel))))
local macro_rules | `(tactic| walk_at "yes") => `(tactic| ((with_reducible apply es_whenT); ((with_reducible apply et_is); (walk_at "ev"); (decide +kernel))))
section
variable {P : Program} {w : World} {K : PySem.W.Frag} {mg : Str → Option Value} {base : Heap}
def sp_l_sign_width (K : PySem.W.Frag) : Sp := fun vs H Q _ => ∃ c, vs = [.str ⟨#[c]⟩] ∧ ∀ H2, Same H H2 → Q (.int (gw c)) H2
theorem ok_l_sign_width (T : Txt K mg) : FnOk P w K mg base CX0 1 (He.ga K "_law_sign_width") (fdOf K (He.ga K "_law_sign_width")) p_l_sign_width (sp_l_sign_width K) := by
  refine T.l_sign_width.fn.ok sc_l_sign_width (fun vs H Q E h => ?_) (fun cdv A outer s H vs Q E hr h => ?_)
  · obtain ⟨c, rfl, q⟩ := h
    rfl
  · obtain ⟨c, rfl, q⟩ := h
    refine ⟨_, (pss_cons (ps_if (pt_cmpR op_inS (pv 0) pe_str (by rfl)) (pss_one (ps_ret pe_int)) pss_nil) (pss_cons (ps_if (pt_cmpR op_inS (pv 0) pe_str (by rfl)) (pss_one (ps_ret pe_int)) pss_nil) (pss_cons (ps_if (pt_cmpR op_inS (pv 0) pe_str (by rfl)) (pss_one (ps_ret pe_int)) pss_nil) (pss_cons (ps_if (pt_cmpR op_inS (pv 0) pe_str (by rfl)) (pss_one (ps_ret pe_int)) pss_nil) (pss_one (ps_ret pe_int)))))), ?_⟩
    refine EvS.run (R := Same) (φ := fun v _ => v = .int (gw c)) ?_ fun v H2 e2 p => by rw [p]; exact q H2 e2
    unfold gw
    apply es_when
    · walk_at "ev"
    · intro hb
      apply es_ret
      · walk_at "ev"
      · intro _ _
        rw [if_pos (show c ∈ gw1.cps.toList from of_decide_eq_true hb)]
    intro h1
    rw [if_neg (show ¬ c ∈ gw1.cps.toList from of_decide_eq_false h1)]
    apply es_when
    · walk_at "ev"
    · intro hb
      apply es_ret
      · walk_at "ev"
      · intro _ _
        rw [if_pos (gw2_law.mp (of_decide_eq_true hb))]
    intro h2
    rw [if_neg fun z => of_decide_eq_false h2 (gw2_law.mpr z)]
    apply es_when
    · walk_at "ev"
    · intro hb
      apply es_ret
      · walk_at "ev"
      · intro _ _
        rw [if_pos (show c ∈ gw3.cps.toList from of_decide_eq_true hb)]
    intro h3
    rw [if_neg (show ¬ c ∈ gw3.cps.toList from of_decide_eq_false h3)]
    apply es_when
    · walk_at "ev"
    · intro hb
      apply es_ret
      · walk_at "ev"
      · intro _ _
        rw [if_pos (show c ∈ gw4.cps.toList from of_decide_eq_true hb)]
    intro h4
    rw [if_neg (show ¬ c ∈ gw4.cps.toList from of_decide_eq_false h4)]
    apply es_ret
    · walk_at "ev"
    · exact fun _ _ => rfl
theorem spv_lglyph {c : Nat} {H : Hp} : SpV Same (sp_l_sign_width K) [.str ⟨#[c]⟩] H (fun x _ => x = .int (gw c)) := fun H1 e Q q E => ⟨c, rfl, fun H2 e2 => q _ H2 e2 rfl⟩
def sp_l_width (K : PySem.W.Frag) : Sp := fun vs H Q _ => ∃ z, vs = [.str z] ∧ ∀ H2, Same H H2 → Q (.int (tw z)) H2
theorem gws_take {cs : List Nat} {i c : Nat} (h : cs[i]? = some c) : gws (cs.take (i + 1)) = gws (cs.take i) + gw c := by
  rw [← gws_sum, ← gws_sum, List.take_add_one, h, List.map_append, List.sum_append]
  show _ + (gw c + 0) = _
  omega
theorem ok_l_width (T : Txt K mg) : FnOk P w K mg base CX0 2 (He.ga K "_law_width") (fdOf K (He.ga K "_law_width")) p_l_width (sp_l_width K) := by
  refine T.l_width.fn.ok sc_l_width (fun vs H Q E h => ?_) (fun cdv A outer s H vs Q E hr h => ?_)
  · obtain ⟨z, rfl, q⟩ := h
    rfl
  · obtain ⟨z, rfl, q⟩ := h
    refine ⟨_, (pss_cons (ps_set (i := 1) sc_l_width.nd rfl (Or.inl rfl) pe_int) (pss_cons (ps_for PassesOwn.never rfl (pi_str (pv 0)) (pg_name (i := 2) sc_l_width.nd rfl (Or.inl rfl)) (pss_one (ps_set (i := 1) sc_l_width.nd rfl (Or.inl rfl) (pe_op op_add (pe_op op_add (pv 1) pe_int) (pe_call (ok_l_sign_width T) (hr.mono (by decide)) (by rfl) T.l_sign_width.mg T.l_sign_width.fn.kp (bd_l_sign_width T) .nil pass0 (pa_cons (pv 2) pa_nil)))))) (pss_one (ps_ret (pe_callB (cb_max2 rfl) (by rfl) T.b_max PyProof.Rows.boot_max (pa_cons (pe_op op_sub (pv 1) pe_int) (pa_cons pe_int pa_nil))))))), ?_⟩
    refine EvS.run (R := Same) (φ := fun v _ => v = .int (tw z)) ?_ fun v H2 e2 p => by rw [p]; exact q H2 e2
    walk_at "as"
    apply es_seq
    · refine es_forS (z := z) (by walk_at "ev") (fun i σ _ => ∃ c, σ = [some (.str z), some (.int (gws (z.cps.toList.take i) + i)), c]) (fun H1 e => ⟨none, rfl⟩) ?_ (ψ := fun σ _ => ∃ c, σ = [some (.str z), some (.int (gws z.cps.toList + z.cps.size)), c]) ?_
      · rintro i c σ' H1 e ⟨c0, rfl⟩ hc
        have hc' : z.cps.toList[i]? = some c := by rw [Array.getElem?_toList]; exact hc
        apply es_asg1
        · refine ev_op (ev_op (by walk_at "ev") (by walk_at "ev") rv_I0) (ev_call (by walk_at "ev") (spv_lglyph (K := K))) rv_I0
        · intro _ _
          refine ⟨some (.str ⟨#[c]⟩), ?_⟩
          rw [gws_take hc']
          have e1 : gws (z.cps.toList.take i) + gw c + ((i + 1 : Nat) : Int) = gws (z.cps.toList.take i) + (i : Int) + 1 + gw c := by omega
          rw [e1]
          rfl
      · rintro σ' H1 e ⟨c0, rfl⟩
        exact ⟨c0, by rw [← Array.length_toList, List.take_length]⟩
    · rintro σ' H1 e ⟨c0, rfl⟩
      apply es_ret
      · walk_at "ev"
      · intro _ _
        have g0 := gws_nonneg z.cps.toList
        unfold tw
        by_cases hz : z.cps.size = 0
        · have h0 : z.cps.toList = [] := List.eq_nil_of_length_eq_zero (by rw [Array.length_toList]; exact hz)
          rw [if_pos hz, hz, h0]
          rfl
        · rw [if_neg hz, if_neg (by omega)]
theorem spv_lwidth {z : Str} {H : Hp} : SpV Same (sp_l_width K) [.str z] H (fun x _ => x = .int (tw z)) := fun H1 e Q q E => ⟨z, rfl, fun H2 e2 => q _ H2 e2 rfl⟩
def sp_l_inked (K : PySem.W.Frag) : Sp := fun vs H Q _ => ∃ z x y, vs = [.str z, .int x, .int y] ∧ ∀ H2, Same H H2 → Q (.bl (inked z x y)) H2
theorem ok_l_inked (T : Txt K mg) : FnOk P w K mg base CX0 2 (He.ga K "_law_inked") (fdOf K (He.ga K "_law_inked")) p_l_inked (sp_l_inked K) := by
  refine T.l_inked.fn.ok sc_l_inked (fun vs H Q E h => ?_) (fun cdv A outer s H vs Q E hr h => ?_)
  · obtain ⟨z, x, y, rfl, q⟩ := h
    rfl
  · obtain ⟨z, x, y, rfl, q⟩ := h
    refine ⟨_, (pss_cons (ps_set (i := 3) sc_l_inked.nd rfl (Or.inl rfl) pe_int) (pss_cons (ps_for PassesOwn.never rfl (pi_str (pv 0)) (pg_name (i := 4) sc_l_inked.nd rfl (Or.inl rfl)) (pss_cons (ps_set (i := 5) sc_l_inked.nd rfl (Or.inl rfl) (pe_call (ok_l_sign_width T) (hr.mono (by decide)) (by rfl) T.l_sign_width.mg T.l_sign_width.fn.kp (bd_l_sign_width T) .nil pass0 (pa_cons (pv 4) pa_nil))) (pss_cons (ps_if (PW.pt (pw_and (pt_cmpR op_le (pv 3) (pv 1) (nomark _)) (pw_and1 (pt_cmpR op_lt (pv 1) (pe_op op_add (pv 3) (pv 5)) (nomark _))))) (pss_one (ps_ret (pe_and (pe_cmpR op_ne (pv 4) pe_str (nomark _)) (pe_and (pe_cmpR op_le pe_int (pv 2) (nomark _)) (pe_one (pe_cmpR op_lt (pv 2) pe_int (nomark _))))))) pss_nil) (pss_one (ps_set (i := 3) sc_l_inked.nd rfl (Or.inl rfl) (pe_op op_add (pe_op op_add (pv 3) (pv 5)) pe_int)))))) (pss_one (ps_ret pe_bl)))), ?_⟩
    refine EvS.run (R := Same) (φ := fun v _ => v = .bl (inked z x y)) ?_ fun v H2 e2 p => by rw [p]; exact q H2 e2
    walk_at "as"
    apply es_seq
    · refine es_forS (z := z) (by walk_at "ev") (fun i σ _ => ∃ l c w, σ = [some (.str z), some (.int x), some (.int y), some (.int l), c, w] ∧ inkGo x 0 z.cps.toList = inkGo x l (z.cps.toList.drop i)) (fun H1 e => ⟨0, none, none, rfl, rfl⟩) ?_ (ψ := fun σ _ => inkGo x 0 z.cps.toList = false) ?_
      · rintro i c σ' H1 e ⟨l, c0, w0, rfl, hl⟩ hc
        have hd := drop_at (show z.cps.toList[i]? = some c by rw [Array.getElem?_toList]; exact hc)
        rw [hd] at hl
        have g1 := gw_pos c
        apply es_asg
        · exact ev_call (by walk_at "ev") (spv_lglyph (K := K))
        apply es_when
        · walk_at "ev"
        · intro hx
          have hx1 := of_decide_eq_true (Bool.and_eq_true_iff.mp hx).1
          have hx2 := of_decide_eq_true (Bool.and_eq_true_iff.mp hx).2
          apply es_ret
          · walk_at "ev"
          · intro _ _
            rw [inked_eq, hl]
            unfold inkGo
            rw [if_pos hx2, str_blank, decide_eq_true hx1, Bool.true_and, Bool.and_comm]
        · intro hx
          apply es_asg1
          · walk_at "ev"
          · intro _ _
            refine ⟨l + gw c + 1, _, _, rfl, ?_⟩
            rw [hl]
            unfold inkGo
            by_cases hx2 : x < l + gw c
            · have hx1 : ¬ l ≤ x := fun z => by
                rw [decide_eq_true z, decide_eq_true hx2] at hx
                cases hx
              have h0 := ink_lt (x := x) (z.cps.toList.drop (i + 1)) (l + gw c + 1) (by omega)
              rw [if_pos hx2, decide_eq_false hx1, Bool.false_and, ← h0]
              cases List.drop (i + 1) z.cps.toList <;> rfl
            · rw [if_neg hx2]
              cases List.drop (i + 1) z.cps.toList <;> rfl
      · rintro σ' H1 e ⟨l, c0, w0, rfl, hl⟩
        rw [hl, ← Array.length_toList, List.drop_length]
        rfl
    · intro σ' H1 e hf
      apply es_ret
      · walk_at "ev"
      · intro _ _
        rw [inked_eq, hf, Bool.and_false]
theorem spv_linked {z : Str} {x y : Int} {H : Hp} : SpV Same (sp_l_inked K) [.str z, .int x, .int y] H (fun v _ => v = .bl (inked z x y)) := fun H1 e Q q E => ⟨z, x, y, rfl, fun H2 e2 => q _ H2 e2 rfl⟩
def IsText : Sh → Prop
  | .ts => True
  | .tm => True
  | .te => True
  | _ => False
def sp_l_around (K : PySem.W.Frag) : Sp := fun vs H Q _ => ∃ sh a c0 c1 z, vs = [.str (Sh.str sh), .ref a, .str z] ∧ IsText sh ∧ IntsAt H a [c0, c1] ∧ ∀ b H2, Same H H2 → RectAt H2 b ⟨tleft sh c0 (tw z), c1, tw z, 7⟩ → Q (.ref b) H2
theorem ok_l_around (T : Txt K mg) : FnOk P w K mg base CX0 3 (He.ga K "_law_around") (fdOf K (He.ga K "_law_around")) p_l_around (sp_l_around K) := by
  refine T.l_around.fn.ok sc_l_around (fun vs H Q E h => ?_) (fun cdv A outer s H vs Q E hr h => ?_)
  · obtain ⟨sh, a, c0, c1, z, rfl, it, ha, q⟩ := h
    rfl
  · obtain ⟨sh, a, c0, c1, z, rfl, it, ha, q⟩ := h
    refine ⟨_, (pss_cons (ps_if (pt_cmpR op_eq (pv 0) pe_str (nomark _)) (pss_one (ps_ret (pv 1))) pss_nil) (pss_cons (ps_if (pt_cmpR op_eq (pv 0) pe_str (nomark _)) (pss_cons (ps_set (i := 3) sc_l_around.nd rfl (Or.inl rfl) (pe_op op_add (pe_op op_mul pe_int (pe_ix (r := rIxT K) ix_tup (pv 1) pe_int (fun _ _ => rfl))) pe_int)) (pss_one (ps_ret (pe_tup (pa_cons (pe_op op_sub (pe_ix (r := rIxT K) ix_tup (pv 1) pe_int (fun _ _ => rfl)) (pe_ix (r := rIxT K) ix_tup (pv 1) pe_int (fun _ _ => rfl))) (pa_cons (pe_op op_sub (pe_ix (r := rIxT K) ix_tup (pv 1) pe_int (fun _ _ => rfl)) (pe_ix (r := rIxT K) ix_tup (pv 1) pe_int (fun _ _ => rfl))) (pa_cons (pv 3) (pa_cons (pv 3) pa_nil)))))))) pss_nil) (pss_cons (ps_if (PW.pt (pw_or (pt_cmpR op_eq (pv 0) pe_str (nomark _)) (pw_or1 (pt_cmpR op_eq (pv 0) pe_str (nomark _))))) (pss_cons (ps_setLc (i := 4) (own := [("_law_k", 8)]) (g := gName 8) rfl sc_l_around.nd rfl rfl (sw_true rfl rfl rfl (by decide +kernel)) (pi_range3 (by rfl) T.b_range (pa_cons pe_int (pa_cons (pe_callB (r := rLenQ K) cb_lenQ (by rfl) T.b_len PySem.boot_len (pa_cons (pv 1) pa_nil)) (pa_cons pe_int pa_nil)))) (blkOk_by (own := [("_law_k", 8)]) (N := n_l_around) (sc := defScope s_l_around) (by decide +kernel)) (fun _ _ _ _ _ => pg_name (i := 8) sc_l_around.nd rfl (Or.inl rfl)) (fun _ _ _ _ _ => pts_nil) (fun _ _ _ _ _ => (pe_ix (r := rIxT K) ix_tup (pv 1) (pv 8) (fun _ _ => rfl)))) (pss_cons (ps_setLc (i := 5) (own := [("_law_k", 8)]) (g := gName 8) rfl sc_l_around.nd rfl rfl (sw_true rfl rfl rfl (by decide +kernel)) (pi_range3 (by rfl) T.b_range (pa_cons pe_int (pa_cons (pe_callB (r := rLenQ K) cb_lenQ (by rfl) T.b_len PySem.boot_len (pa_cons (pv 1) pa_nil)) (pa_cons pe_int pa_nil)))) (blkOk_by (own := [("_law_k", 8)]) (N := n_l_around) (sc := defScope s_l_around) (by decide +kernel)) (fun _ _ _ _ _ => pg_name (i := 8) sc_l_around.nd rfl (Or.inl rfl)) (fun _ _ _ _ _ => pts_nil) (fun _ _ _ _ _ => (pe_ix (r := rIxT K) ix_tup (pv 1) (pv 8) (fun _ _ => rfl)))) (pss_one (ps_ret (pe_tup (pa_cons (pe_callB (cr_min rfl) (by rfl) T.b_min PyProof.Rows.boot_min (pa_cons (pv 4) pa_nil)) (pa_cons (pe_callB (cr_min rfl) (by rfl) T.b_min PyProof.Rows.boot_min (pa_cons (pv 5) pa_nil)) (pa_cons (pe_op op_add (pe_op op_sub (pe_callB (cr_max rfl) (by rfl) T.b_max PyProof.Rows.boot_max (pa_cons (pv 4) pa_nil)) (pe_callB (cr_min rfl) (by rfl) T.b_min PyProof.Rows.boot_min (pa_cons (pv 4) pa_nil))) pe_int) (pa_cons (pe_op op_add (pe_op op_sub (pe_callB (cr_max rfl) (by rfl) T.b_max PyProof.Rows.boot_max (pa_cons (pv 5) pa_nil)) (pe_callB (cr_min rfl) (by rfl) T.b_min PyProof.Rows.boot_min (pa_cons (pv 5) pa_nil))) pe_int) pa_nil))))))))) pss_nil) (pss_cons (ps_set (i := 6) sc_l_around.nd rfl (Or.inl rfl) (pe_call (ok_l_width T) (hr.mono (by decide)) (by rfl) T.l_width.mg T.l_width.fn.kp (bd_l_width T) .nil pass0 (pa_cons (pv 2) pa_nil))) (pss_cons (ps_set (i := 7) sc_l_around.nd rfl (Or.inl rfl) (pe_ix (r := rIxT K) ix_tup (pv 1) pe_int (fun _ _ => rfl))) (pss_cons (ps_if (pt_cmpR op_eq (pv 0) pe_str (nomark _)) (pss_one (ps_set (i := 7) sc_l_around.nd rfl (Or.inl rfl) (pe_op op_sub (pv 7) (pe_op op_fdiv (pv 6) pe_int)))) pss_nil) (pss_cons (ps_if (pt_cmpR op_eq (pv 0) pe_str (nomark _)) (pss_one (ps_set (i := 7) sc_l_around.nd rfl (Or.inl rfl) (pe_op op_sub (pv 7) (pv 6)))) pss_nil) (pss_one (ps_ret (pe_tup (pa_cons (pv 7) (pa_cons (pe_ix (r := rIxT K) ix_tup (pv 1) pe_int (fun _ _ => rfl)) (pa_cons (pv 6) (pa_cons pe_int pa_nil)))))))))))))), ?_⟩
    refine EvS.run (R := Same) (φ := fun v H2 => ∃ b, v = .ref b ∧ RectAt H2 b ⟨tleft sh c0 (tw z), c1, tw z, 7⟩) ?_ fun v H2 e2 ⟨b, p1, p2⟩ => by rw [p1]; exact q b H2 e2 p2
    have ha := ints2 ha
    cases sh with
    | rect => exact it.elim
    | line => exact it.elim
    | poly => exact it.elim
    | circ => exact it.elim
    | ts =>
      walk_at "no"
      walk_at "no"
      walk_at "no"
      refine es_asg (ev_call (by walk_at "ev") (spv_lwidth (K := K))) ?_
      walk_at "as"
      walk_at "no"
      walk_at "no"
      apply es_retP
      · walk_at "tp"
      · exact fun v H2 e ⟨p, hv, hp⟩ => ⟨p, hv, hp⟩
    | tm =>
      walk_at "no"
      walk_at "no"
      walk_at "no"
      refine es_asg (ev_call (by walk_at "ev") (spv_lwidth (K := K))) ?_
      walk_at "as"
      apply es_ifT
      · apply et_is
        · walk_at "ev"
        · decide +kernel
      walk_at "as"
      walk_at "no"
      apply es_retP
      · walk_at "tp"
      · exact fun v H2 e ⟨p, hv, hp⟩ => ⟨p, hv, hp⟩
    | te =>
      walk_at "no"
      walk_at "no"
      walk_at "no"
      refine es_asg (ev_call (by walk_at "ev") (spv_lwidth (K := K))) ?_
      walk_at "as"
      walk_at "no"
      apply es_ifT
      · apply et_is
        · walk_at "ev"
        · decide +kernel
      walk_at "as"
      apply es_retP
      · walk_at "tp"
      · exact fun v H2 e ⟨p, hv, hp⟩ => ⟨p, hv, hp⟩
theorem spv_laround {sh : Sh} {a : Addr} {c0 c1 : Int} {z : Str} {H : Hp} (it : IsText sh) (ha : IntsAt H a [c0, c1]) : SpV Same (sp_l_around K) [.str sh.str, .ref a, .str z] H (fun v H2 => ∃ b, v = .ref b ∧ RectAt H2 b ⟨tleft sh c0 (tw z), c1, tw z, 7⟩) :=
  fun H1 e Q q E => ⟨sh, a, c0, c1, z, rfl, it, Rel.tup e ha, fun b H2 e2 h1 => q _ H2 e2 ⟨b, rfl, h1⟩⟩
def sp_l_on_line (K : PySem.W.Frag) : Sp := fun vs H Q _ => ∃ a x1 y1 x2 y2 x y, vs = [.ref a, .int x, .int y] ∧ IntsAt H a [x1, y1, x2, y2] ∧ (Bd x1 ∧ Bd y1 ∧ Bd x2 ∧ Bd y2 ∧ Bd x ∧ Bd y) ∧ ∀ H2, Same H H2 → Q (.bl (lineC x1 y1 x2 y2 x y)) H2
theorem ints4 {a b c d : Int} {H : Hp} {p : Addr} (h : IntsAt H p [a, b, c, d]) : H p = some (.tup [.int a, .int b, .int c, .int d]) := h
theorem ok_l_on_line (T : Txt K mg) : FnOk P w K mg base CX0 1 (He.ga K "_law_on_line") (fdOf K (He.ga K "_law_on_line")) p_l_on_line (sp_l_on_line K) := by
  refine T.l_on_line.fn.ok sc_l_on_line (fun vs H Q E h => ?_) (fun cdv A outer s H vs Q E hr h => ?_)
  · obtain ⟨a, x1, y1, x2, y2, x, y, rfl, ha, ⟨⟨b1, b1'⟩, ⟨b2, b2'⟩, ⟨b3, b3'⟩, ⟨b4, b4'⟩, ⟨b5, b5'⟩, ⟨b6, b6'⟩⟩, q⟩ := h
    rfl
  · obtain ⟨a, x1, y1, x2, y2, x, y, rfl, ha, ⟨⟨b1, b1'⟩, ⟨b2, b2'⟩, ⟨b3, b3'⟩, ⟨b4, b4'⟩, ⟨b5, b5'⟩, ⟨b6, b6'⟩⟩, q⟩ := h
    refine ⟨_, (pss_cons (ps_set (i := 3) sc_l_on_line.nd rfl (Or.inl rfl) (pe_op op_sub (pe_ix (r := rIxT K) ix_tup (pv 0) pe_int (fun _ _ => rfl)) (pe_ix (r := rIxT K) ix_tup (pv 0) pe_int (fun _ _ => rfl)))) (pss_cons (ps_set (i := 4) sc_l_on_line.nd rfl (Or.inl rfl) (pe_op op_sub (pe_ix (r := rIxT K) ix_tup (pv 0) pe_int (fun _ _ => rfl)) (pe_ix (r := rIxT K) ix_tup (pv 0) pe_int (fun _ _ => rfl)))) (pss_cons (ps_if (PW.pt (pw_or (pt_cmpR op_lt (pv 1) (pe_callB (cb_min2 rfl) (by rfl) T.b_min PyProof.Rows.boot_min (pa_cons (pe_ix (r := rIxT K) ix_tup (pv 0) pe_int (fun _ _ => rfl)) (pa_cons (pe_ix (r := rIxT K) ix_tup (pv 0) pe_int (fun _ _ => rfl)) pa_nil))) (nomark _)) (pw_or1 (pt_cmpR op_gt (pv 1) (pe_callB (cb_max2 rfl) (by rfl) T.b_max PyProof.Rows.boot_max (pa_cons (pe_ix (r := rIxT K) ix_tup (pv 0) pe_int (fun _ _ => rfl)) (pa_cons (pe_ix (r := rIxT K) ix_tup (pv 0) pe_int (fun _ _ => rfl)) pa_nil))) (nomark _))))) (pss_one (ps_ret pe_bl)) pss_nil) (pss_cons (ps_if (PW.pt (pw_or (pt_cmpR op_lt (pv 2) (pe_callB (cb_min2 rfl) (by rfl) T.b_min PyProof.Rows.boot_min (pa_cons (pe_ix (r := rIxT K) ix_tup (pv 0) pe_int (fun _ _ => rfl)) (pa_cons (pe_ix (r := rIxT K) ix_tup (pv 0) pe_int (fun _ _ => rfl)) pa_nil))) (nomark _)) (pw_or1 (pt_cmpR op_gt (pv 2) (pe_callB (cb_max2 rfl) (by rfl) T.b_max PyProof.Rows.boot_max (pa_cons (pe_ix (r := rIxT K) ix_tup (pv 0) pe_int (fun _ _ => rfl)) (pa_cons (pe_ix (r := rIxT K) ix_tup (pv 0) pe_int (fun _ _ => rfl)) pa_nil))) (nomark _))))) (pss_one (ps_ret pe_bl)) pss_nil) (pss_one (ps_ret (pe_cmpR op_le (pe_op op_mul pe_int (pe_callB cb_abs (by rfl) T.b_abs PyProof.Rows.boot_abs (pa_cons (pe_op op_sub (pe_op op_mul (pe_op op_sub (pv 2) (pe_ix (r := rIxT K) ix_tup (pv 0) pe_int (fun _ _ => rfl))) (pv 3)) (pe_op op_mul (pe_op op_sub (pv 1) (pe_ix (r := rIxT K) ix_tup (pv 0) pe_int (fun _ _ => rfl))) (pv 4))) pa_nil))) (pe_callB (cb_max2 rfl) (by rfl) T.b_max PyProof.Rows.boot_max (pa_cons (pe_callB cb_abs (by rfl) T.b_abs PyProof.Rows.boot_abs (pa_cons (pv 3) pa_nil)) (pa_cons (pe_callB cb_abs (by rfl) T.b_abs PyProof.Rows.boot_abs (pa_cons (pv 4) pa_nil)) pa_nil))) (nomark _)))))))), ?_⟩
    refine EvS.run (R := Same) (φ := fun v _ => v = .bl (lineC x1 y1 x2 y2 x y)) ?_ fun v H2 e2 p => by rw [p]; exact q H2 e2
    have ha := ints4 ha
    walk_at "as"
    walk_at "as"
    apply es_when
    · walk_at "ev"
    · intro hb
      apply es_ret
      · walk_at "ev"
      · intro _ _
        unfold lineC imin imax
        rcases Bool.or_eq_true_iff.mp hb with h | h <;> rw [h] <;> simp
    intro hb
    apply es_when
    · walk_at "ev"
    · intro hb
      apply es_ret
      · walk_at "ev"
      · intro _ _
        unfold lineC imin imax
        rcases Bool.or_eq_true_iff.mp hb with h | h <;> rw [h] <;> simp
    intro hb2
    apply es_ret
    · walk_at "ev"
    · intro _ _
      unfold lineC imin imax
      obtain ⟨h1, h2⟩ := Bool.or_eq_false_iff.mp hb
      obtain ⟨h3, h4⟩ := Bool.or_eq_false_iff.mp hb2
      rw [h1, h2, h3, h4]
      rfl
end
end Cs

namespace Cs
open PySem PySem.Spec PyProof.Rows L2
local macro_rules | `(tactic| walk_at "hp") => `(tactic| first | assumption)
local macro_rules | `(tactic| walk_at "num") => `(tactic| first | assumption | omega | decide)
local macro_rules | `(tactic| walk_at "rv") => `(tactic| first
  | (with_reducible exact rv_I0)
  | ((with_reducible apply rv_ixT); (walk_at "hp"); (rfl))
  | ((with_reducible apply rv_eq); (rfl))
  | ((with_reducible apply rv_ne); (rfl))
  | (with_reducible exact rv_isN)
  | (with_reducible exact rv_notN)
  | (with_reducible exact rv_inS)
  | ((with_reducible apply rv_I); (first | exact Or.inr ⟨by walk_at "num", by walk_at "num"⟩ | exact Or.inl ⟨by walk_at "num", by walk_at "num"⟩ | exact ⟨by walk_at "num", by walk_at "num"⟩ | exact ⟨by walk_at "num", by walk_at "num", by walk_at "num"⟩ | walk_at "num"))
  | ((with_reducible apply rv_ixS) <;> walk_at "num"))
local macro_rules | `(tactic| walk_at "rc") => `(tactic| first
  | (with_reducible exact rc_abs) | (with_reducible exact rc_max2) | (with_reducible exact rc_min2) | (with_reducible exact rc_int1)
  | ((with_reducible apply rc_lenT); walk_at "hp") | ((with_reducible apply rc_lenZ); walk_at "num"))
local macro_rules | `(tactic| walk_at "ev") => `(tactic| first
  | (with_reducible exact ev_c)
  | ((with_reducible apply ev_var); rfl)
  | ((with_reducible apply ev_op); (walk_at "ev"); (walk_at "ev"); (walk_at "rv"))
  | ((with_reducible apply ev_un); (walk_at "ev"); (exact ru_neg))
  | ((with_reducible apply ev_cb); (walk_at "ev"); (walk_at "rc"))
  | ((with_reducible apply ev_andV); (walk_at "ev"); (intro _; walk_at "ev"))
  | ((with_reducible apply ev_chain); (walk_at "ev"); (walk_at "ev"); (walk_at "rv"); (intro _; walk_at "ev"); (intro _; walk_at "rv"))
  | (with_reducible exact ea_nil)
  | ((with_reducible apply ea_cons); (walk_at "ev"); (walk_at "ev"))
  | ((with_reducible apply et_test); (walk_at "ev"))
  | ((with_reducible apply et_B); (walk_at "ev"))
  | ((with_reducible apply et_and); (walk_at "ev"); (intro _; walk_at "ev"))
  | ((with_reducible apply et_or); (walk_at "ev"); (intro _; walk_at "ev"))
  | ((with_reducible apply et_not); (walk_at "ev"))
  | (with_reducible exact eo_none)
  | ((with_reducible apply eo_some); (walk_at "ev")))
local macro_rules | `(tactic| walk_at "sz") => `(tactic| exact Nat.le_of_ble_eq_true rfl)
local macro_rules | `(tactic| walk_at "as") => `(tactic| ((with_reducible apply es_asg); (walk_at "ev")))
local macro_rules | `(tactic| walk_at "tp") => `(tactic| ((with_reducible apply ep_tup); (walk_at "ev"); (walk_at "sz")))
local macro_rules | `(tactic| walk_at "no") => `(tactic| ((with_reducible apply es_whenF); ((with_reducible apply et_is); (walk_at "ev"); (decide +kernel))))
local macro_rules | `(tactic| walk_at "yes") => `(tactic| ((with_reducible apply es_whenT); ((with_reducible apply et_is); (walk_at "ev"); (decide +kernel))))
section
variable {P : Program} {w : World} {K : PySem.W.Frag} {mg : Str → Option Value} {base : Heap}
def sp_l_covers (K : PySem.W.Frag) : Sp := fun vs H Q _ => ∃ sh a ns z x y, vs = [.str (Sh.str sh), .ref a, .str z, .int x, .int y] ∧ IntsAt H a ns ∧ PtsOk sh ns ∧ (Bd x ∧ Bd y) ∧ ∀ H2, Same H H2 → Q (.bl (cov sh ns z x y)) H2
theorem spv_holds {a : Addr} {r : R4} {x y : Int} {H : Hp} (ha : RectAt H a r) : SpV Same (sp_l_holds K) [.ref a, .int x, .int y] H (fun v _ => v = .bl (contains r x y)) := fun H1 e Q q E => ⟨a, r, x, y, rfl, Rel.tup e ha, fun H2 e2 => q _ H2 e2 rfl⟩
theorem spv_lline {a : Addr} {x1 y1 x2 y2 x y : Int} {H : Hp} (ha : IntsAt H a [x1, y1, x2, y2]) (hb : Bd x1 ∧ Bd y1 ∧ Bd x2 ∧ Bd y2 ∧ Bd x ∧ Bd y) : SpV Same (sp_l_on_line K) [.ref a, .int x, .int y] H (fun v _ => v = .bl (lineC x1 y1 x2 y2 x y)) :=
  fun H1 e Q q E => ⟨a, x1, y1, x2, y2, x, y, rfl, Rel.tup e ha, hb, fun H2 e2 => q _ H2 e2 rfl⟩
/-- the law's polyline, for a line as well -/
def covL (sh : Sh) (ns : List Int) (x y : Int) : Bool := anyN (max 1 (ns.length / 2 - 1)) (segL ns x y)
theorem covL_line {ns : List Int} {z : Str} {x y : Int} (h : ns.length = 4) : covL .line ns x y = cov .line ns z x y := by
  obtain ⟨c0, c1, c2, c3, rfl⟩ := len4 h
  unfold covL anyN
  rw [show max 1 (([c0, c1, c2, c3] : List Int).length / 2 - 1) = 1 by simp]
  show (segL [c0, c1, c2, c3] x y 0 || false) = lineC c0 c1 c2 c3 x y
  rw [Bool.or_false]
  rfl
theorem l_loop {H : Hp} {a : Addr} {ns : List Int} {x y : Int} {sh : Sh} {tb us : TS} {φ : V → Hp → Prop} {z : Str} {ta : TA} {v8 : Option V} (ha : IntsAt H a ns) (h2 : 2 ≤ ns.length) (hl : ns.length ≤ 20) (he : ns.length % 2 = 0)
    (h0 : EvA Same ta [some (.str sh.str), some (.ref a), some (.str z), some (.int x), some (.int y), some (.int ((ns.map V.int).length - 2)), none, none, none] H [.int 0, .int (imax ((ns.map V.int).length - 2) 1), .int 2])
    (hbody : ∀ (i : Nat) (k6 k7 : Option V) H1, Same H H1 → i < max 1 (ns.length / 2 - 1) → EvS Same tb [some (.str sh.str), some (.ref a), some (.str z), some (.int x), some (.int y), some (.int ((ns.map V.int).length - 2)), some (.int (0 + (i : Nat) * 2)), k7, none] H1 φ
      (fun σ _ => segL ns x y i = false ∧ ∃ k6 k7, σ = [some (.str sh.str), some (.ref a), some (.str z), some (.int x), some (.int y), some (.int ((ns.map V.int).length - 2)), k6, k7, none]))
    (hend : ∀ σ H1, Same H H1 → covL sh ns x y = false → EvS Same us σ H1 φ Out) :
    EvS Same (tSeq (tFor (iRng3 ta) (gName 6) tb) us) [some (.str sh.str), some (.ref a), some (.str z), some (.int x), some (.int y), some (.int ((ns.map V.int).length - 2)), none, none, none] H φ Out := by
  have em : ((ns.map V.int).length : Int) - 2 = 2 * ((ns.length / 2 - 1 : Nat) : Int) := by
    rw [List.length_map]
    omega
  apply es_seq
  · refine es_forR3 (n := max 1 (ns.length / 2 - 1)) h0 (by rw [em]; exact rg_law _ (by omega)) (fun i σ _ => (∃ k6 k7, σ = [some (.str sh.str), some (.ref a), some (.str z), some (.int x), some (.int y), some (.int ((ns.map V.int).length - 2)), k6, k7, none]) ∧ ∀ j, j < i → segL ns x y j = false)
      (fun H1 e => ⟨⟨none, none, rfl⟩, fun j hj => absurd hj (Nat.not_lt_zero _)⟩) ?_ (ψ := fun σ _ => covL sh ns x y = false) (fun σ' H1 _ p => anyN_false p.2)
    rintro i σ' H1 hi e ⟨⟨k6, k7, rfl⟩, hf⟩
    refine es_mono (hbody i k6 k7 H1 e hi) ?_
    rintro σ2 H2 e2 ⟨hs, hσ⟩
    refine ⟨hσ, fun j hj => ?_⟩
    by_cases h : j = i
    · rw [h]
      exact hs
    · exact hf j (by omega)
  · exact hend
theorem ok_l_covers (T : Txt K mg) : FnOk P w K mg base CX0 4 (He.ga K "_law_covers") (fdOf K (He.ga K "_law_covers")) p_l_covers (sp_l_covers K) := by
  refine T.l_covers.fn.ok sc_l_covers (fun vs H Q E h => ?_) (fun cdv A outer s H vs Q E hr h => ?_)
  · obtain ⟨sh, a, ns, z, x, y, rfl, ha, ok, ⟨⟨bx, bx'⟩, ⟨bY, bY'⟩⟩, q⟩ := h
    rfl
  · obtain ⟨sh, a, ns, z, x, y, rfl, ha, ok, ⟨⟨bx, bx'⟩, ⟨bY, bY'⟩⟩, q⟩ := h
    refine ⟨_, (pss_cons (ps_if (pt_cmpR op_eq (pv 0) pe_str (nomark _)) (pss_one (ps_ret (pe_call (ok_l_holds T) (hr.mono (by decide)) (by rfl) T.l_holds.mg T.l_holds.fn.kp (bd_l_holds T) .nil pass0 (pa_cons (pv 1) (pa_cons (pv 3) (pa_cons (pv 4) pa_nil)))))) pss_nil) (pss_cons (ps_if (pt_cmpR op_eq (pv 0) pe_str (nomark _)) (pss_one (ps_ret (pe_cmpR op_le (pe_op op_add (pe_op op_pow (pe_op op_sub (pv 3) (pe_ix (r := rIxT K) ix_tup (pv 1) pe_int (fun _ _ => rfl))) pe_int) (pe_op op_pow (pe_op op_sub (pv 4) (pe_ix (r := rIxT K) ix_tup (pv 1) pe_int (fun _ _ => rfl))) pe_int)) (pe_op op_add (pe_op op_mul (pe_ix (r := rIxT K) ix_tup (pv 1) pe_int (fun _ _ => rfl)) (pe_ix (r := rIxT K) ix_tup (pv 1) pe_int (fun _ _ => rfl))) (pe_ix (r := rIxT K) ix_tup (pv 1) pe_int (fun _ _ => rfl))) (nomark _)))) pss_nil) (pss_cons (ps_if (PW.pt (pw_or (pt_cmpR op_eq (pv 0) pe_str (nomark _)) (pw_or1 (pt_cmpR op_eq (pv 0) pe_str (nomark _))))) (pss_cons (ps_set (i := 5) sc_l_covers.nd rfl (Or.inl rfl) (pe_op op_sub (pe_callB (r := rLenQ K) cb_lenQ (by rfl) T.b_len PySem.boot_len (pa_cons (pv 1) pa_nil)) pe_int)) (pss_cons (ps_for PassesOwn.never rfl (pi_range3 (by rfl) T.b_range (pa_cons pe_int (pa_cons (pe_callB (cb_max2 rfl) (by rfl) T.b_max PyProof.Rows.boot_max (pa_cons (pv 5) (pa_cons pe_int pa_nil))) (pa_cons pe_int pa_nil)))) (pg_name (i := 6) sc_l_covers.nd rfl (Or.inl rfl)) (pss_cons (ps_set (i := 7) sc_l_covers.nd rfl (Or.inl rfl) (pe_callB (cb_min2 rfl) (by rfl) T.b_min PyProof.Rows.boot_min (pa_cons (pe_op op_add (pv 6) pe_int) (pa_cons (pv 5) pa_nil)))) (pss_one (ps_if (pt_val (pe_call (ok_l_on_line T) (hr.mono (by decide)) (by rfl) T.l_on_line.mg T.l_on_line.fn.kp (bd_l_on_line T) .nil pass0 (pa_cons (pe_tup (pa_cons (pe_ix (r := rIxT K) ix_tup (pv 1) (pv 6) (fun _ _ => rfl)) (pa_cons (pe_ix (r := rIxT K) ix_tup (pv 1) (pe_op op_add (pv 6) pe_int) (fun _ _ => rfl)) (pa_cons (pe_ix (r := rIxT K) ix_tup (pv 1) (pv 7) (fun _ _ => rfl)) (pa_cons (pe_ix (r := rIxT K) ix_tup (pv 1) (pe_op op_add (pv 7) pe_int) (fun _ _ => rfl)) pa_nil))))) (pa_cons (pv 3) (pa_cons (pv 4) pa_nil))))) (pss_one (ps_ret pe_bl)) pss_nil)))) (pss_one (ps_ret pe_bl)))) pss_nil) (pss_cons (ps_set (i := 8) sc_l_covers.nd rfl (Or.inl rfl) (pe_call (ok_l_around T) (hr.mono (by decide)) (by rfl) T.l_around.mg T.l_around.fn.kp (bd_l_around T) .nil pass0 (pa_cons (pv 0) (pa_cons (pv 1) (pa_cons (pv 2) pa_nil))))) (pss_one (ps_ret (pe_call (ok_l_inked T) (hr.mono (by decide)) (by rfl) T.l_inked.mg T.l_inked.fn.kp (bd_l_inked T) .nil pass0 (pa_cons (pv 2) (pa_cons (pe_op op_sub (pv 3) (pe_ix (r := rIxT K) ix_tup (pv 8) pe_int (fun _ _ => rfl))) (pa_cons (pe_op op_sub (pv 4) (pe_ix (r := rIxT K) ix_tup (pv 8) pe_int (fun _ _ => rfl))) pa_nil)))))))))), ?_⟩
    refine EvS.run (R := Same) (φ := fun v _ => v = .bl (cov sh ns z x y)) ?_ fun v H2 e2 p => by rw [p]; exact q H2 e2
    have ok0 := ok
    obtain ⟨hb, ok⟩ := ok
    have bd := at0_bd hb
    by_cases hlp : sh = .line ∨ sh = .poly
    · have hn : 2 ≤ ns.length ∧ ns.length ≤ 20 ∧ ns.length % 2 = 0 := by
        rcases hlp with h | h
        · subst h
          have hl : ns.length = 4 := ok
          omega
        · subst h
          obtain ⟨h1, h2, h3⟩ : ns.length % 2 = 0 ∧ 2 ≤ ns.length ∧ ns.length ≤ 20 := ok
          exact ⟨h2, h3, h1⟩
      obtain ⟨h2, hl, he⟩ := hn
      have hcov : cov sh ns z x y = covL sh ns x y := by
        rcases hlp with h | h
        · subst h
          exact (covL_line ok).symm
        · subst h
          exact (polyL h2 he).symm
      apply es_whenF
      · apply et_is
        · walk_at "ev"
        · rcases hlp with h | h <;> subst h <;> decide +kernel
      apply es_whenF
      · apply et_is
        · walk_at "ev"
        · rcases hlp with h | h <;> subst h <;> decide +kernel
      apply es_whenT
      · apply et_is
        · walk_at "ev"
        · rcases hlp with h | h <;> subst h <;> decide +kernel
      refine es_asg (ev_op (ev_cb (by walk_at "ev") (rc_lenT ha)) (by walk_at "ev") rv_I0) ?_
      refine l_loop (sh := sh) ha h2 hl he ?_ ?_ ?_ (v8 := none)
      · exact ea_cons (by walk_at "ev") (ea_cons (ev_cb (by walk_at "ev") rc_max2) (ea_cons (by walk_at "ev") ea_nil))
      · intro i k6 k7 H1 e hi
        have ha1 := Rel.tup e ha
        have hk : (0 : Int) + (i : Nat) * 2 = ((2 * i : Nat) : Int) := by omega
        have hme : min (2 * i + 2) (ns.length - 2) + 1 < ns.length := by omega
        have hki : 2 * i + 1 < ns.length := by omega
        have hmin : (if ((ns.map V.int).length : Int) - 2 < 0 + (i : Nat) * 2 + 2 then ((ns.map V.int).length : Int) - 2 else 0 + (i : Nat) * 2 + 2) = ((min (2 * i + 2) (ns.length - 2) : Nat) : Int) := by
          rw [List.length_map]
          split <;> omega
        refine es_asg (v := .int ((min (2 * i + 2) (ns.length - 2) : Nat) : Int)) (ev_is (ev_cb (by walk_at "ev") rc_min2) (congrArg V.int hmin)) ?_
        refine es_if1 (b := segL ns x y i) ?_ ?_ ?_
        · apply et_B
          refine fun H2 e2 Q q => ep_callP (P := fun v _ => v = .bl (segL ns x y i)) (PA := fun vs H => ∃ p, vs = [.ref p, .int x, .int y] ∧ IntsAt H p [at0 ns (2 * i), at0 ns (2 * i + 1), at0 ns (min (2 * i + 2) (ns.length - 2)), at0 ns (min (2 * i + 2) (ns.length - 2) + 1)]) (eap_cons (ep_tup (vs := [.int (at0 ns (2 * i)), .int (at0 ns (2 * i + 1)), .int (at0 ns (min (2 * i + 2) (ns.length - 2))), .int (at0 ns (min (2 * i + 2) (ns.length - 2) + 1))]) ?_ (by walk_at "sz")) ?_) ?_ H2 e2 Q fun v H3 e3 p => by rw [p]; exact q H3 e3
          · refine ea_cons (ev_op (by walk_at "ev") (by walk_at "ev") (rv_ixT ha1 (at_ints hk (by omega)))) (ea_cons (ev_op (by walk_at "ev") (ev_op (by walk_at "ev") (by walk_at "ev") rv_I0) (rv_ixT ha1 (at_ints (by omega) (by omega)))) (ea_cons (ev_op (by walk_at "ev") (by walk_at "ev") (rv_ixT ha1 (at_ints rfl (by omega)))) (ea_cons (ev_op (by walk_at "ev") (ev_op (by walk_at "ev") (by walk_at "ev") rv_I0) (rv_ixT ha1 (at_ints (by omega) (by omega)))) ea_nil)))
          · rintro v H3 e3 ⟨p, rfl, hp⟩
            refine EvA.p (ea_cons (by walk_at "ev") (ea_cons (by walk_at "ev") ea_nil)) fun H4 e4 => ⟨p, rfl, Rel.tup e4 hp⟩
          · rintro vs H3 e3 ⟨p, rfl, hp⟩ Q q
            exact spv_lline (K := K) hp ⟨bd _, bd _, bd _, bd _, ⟨bx, bx'⟩, ⟨bY, bY'⟩⟩ H3 (Same.refl _) Q q _
        · intro hs
          apply es_ret
          · walk_at "ev"
          · intro _ _
            rw [hcov]
            unfold covL
            rw [anyN_true hi hs]
        · intro hs
          exact es_next fun H2 e2 => ⟨hs, _, _, rfl⟩
      · intro σ H1 e hf
        apply es_ret
        · walk_at "ev"
        · intro _ _
          rw [hcov, hf]
    cases sh with
    | rect =>
      walk_at "yes"
      obtain ⟨c0, c1, c2, c3, rfl⟩ := len4 ok
      apply es_ret
      · exact ev_call (by walk_at "ev") (spv_holds (K := K) (r := ⟨c0, c1, c2, c3⟩) ha)
      · exact fun H2 e => rfl
    | circ =>
      obtain ⟨h3, _⟩ : ns.length = 3 ∧ 0 ≤ at0 ns 2 := ok
      obtain ⟨c0, c1, c2, rfl⟩ := len3 h3
      obtain ⟨b0, b0'⟩ : -1000 ≤ c0 ∧ c0 ≤ 1000 := bd 0
      obtain ⟨b1, b1'⟩ : -1000 ≤ c1 ∧ c1 ≤ 1000 := bd 1
      obtain ⟨b2, b2'⟩ : -1000 ≤ c2 ∧ c2 ≤ 1000 := bd 2
      walk_at "no"
      walk_at "yes"
      apply es_ret
      · walk_at "ev"
      · intro _ _
        rw [pow_two, pow_two]
        rfl
    | line => exact (hlp (.inl rfl)).elim
    | poly => exact (hlp (.inr rfl)).elim
    | ts =>
      obtain ⟨c0, c1, rfl⟩ := len2 (show ns.length = 2 from ok)
      walk_at "no"
      walk_at "no"
      walk_at "no"
      refine es_asgP (ep_call (by walk_at "ev") (spv_laround (K := K) (sh := .ts) trivial ha)) ?_
      rintro v H1 e1 ⟨b, rfl, hr1⟩
      apply es_ret
      · exact ev_call (by walk_at "ev") (spv_linked (K := K))
      · exact fun H2 e => rfl
    | tm =>
      obtain ⟨c0, c1, rfl⟩ := len2 (show ns.length = 2 from ok)
      walk_at "no"
      walk_at "no"
      walk_at "no"
      refine es_asgP (ep_call (by walk_at "ev") (spv_laround (K := K) (sh := .tm) trivial ha)) ?_
      rintro v H1 e1 ⟨b, rfl, hr1⟩
      apply es_ret
      · exact ev_call (by walk_at "ev") (spv_linked (K := K))
      · exact fun H2 e => rfl
    | te =>
      obtain ⟨c0, c1, rfl⟩ := len2 (show ns.length = 2 from ok)
      walk_at "no"
      walk_at "no"
      walk_at "no"
      refine es_asgP (ep_call (by walk_at "ev") (spv_laround (K := K) (sh := .te) trivial ha)) ?_
      rintro v H1 e1 ⟨b, rfl, hr1⟩
      apply es_ret
      · exact ev_call (by walk_at "ev") (spv_linked (K := K))
      · exact fun H2 e => rfl
end
end Cs

namespace Cs
open PySem PySem.Spec PyProof.Rows L2
local macro_rules | `(tactic| walk_at "hp") => `(tactic| first | assumption)
local macro_rules | `(tactic| walk_at "num") => `(tactic| first | assumption | omega | decide)
local macro_rules | `(tactic| walk_at "rv") => `(tactic| first
  | (with_reducible exact rv_I0)
  | ((with_reducible apply rv_ixT); (walk_at "hp"); (rfl))
  | ((with_reducible apply rv_eq); (rfl))
  | ((with_reducible apply rv_ne); (rfl))
  | (with_reducible exact rv_isN)
  | (with_reducible exact rv_notN)
  | (with_reducible exact rv_inS)
  | ((with_reducible apply rv_I); (first | exact Or.inr ⟨by walk_at "num", by walk_at "num"⟩ | exact Or.inl ⟨by walk_at "num", by walk_at "num"⟩ | exact ⟨by walk_at "num", by walk_at "num"⟩ | exact ⟨by walk_at "num", by walk_at "num", by walk_at "num"⟩ | walk_at "num"))
  | ((with_reducible apply rv_ixS) <;> walk_at "num"))
local macro_rules | `(tactic| walk_at "rc") => `(tactic| first
  | (with_reducible exact rc_abs) | (with_reducible exact rc_max2) | (with_reducible exact rc_min2) | (with_reducible exact rc_int1)
  | ((with_reducible apply rc_lenT); walk_at "hp") | ((with_reducible apply rc_lenZ); walk_at "num"))
local macro_rules | `(tactic| walk_at "ev") => `(tactic| first
  | (with_reducible exact ev_c)
  | ((with_reducible apply ev_var); rfl)
  | ((with_reducible apply ev_op); (walk_at "ev"); (walk_at "ev"); (walk_at "rv"))
  | ((with_reducible apply ev_un); (walk_at "ev"); (exact ru_neg))
  | ((with_reducible apply ev_cb); (walk_at "ev"); (walk_at "rc"))
  | ((with_reducible apply ev_andV); (walk_at "ev"); (intro _; walk_at "ev"))
  | ((with_reducible apply ev_chain); (walk_at "ev"); (walk_at "ev"); (walk_at "rv"); (intro _; walk_at "ev"); (intro _; walk_at "rv"))
  | (with_reducible exact ea_nil)
  | ((with_reducible apply ea_cons); (walk_at "ev"); (walk_at "ev"))
  | ((with_reducible apply et_test); (walk_at "ev"))
  | ((with_reducible apply et_B); (walk_at "ev"))
  | ((with_reducible apply et_and); (walk_at "ev"); (intro _; walk_at "ev"))
  | ((with_reducible apply et_or); (walk_at "ev"); (intro _; walk_at "ev"))
  | ((with_reducible apply et_not); (walk_at "ev"))
  | (with_reducible exact eo_none)
  | ((with_reducible apply eo_some); (walk_at "ev")))
local macro_rules | `(tactic| walk_at "sz") => `(tactic| exact Nat.le_of_ble_eq_true rfl)
local macro_rules | `(tactic| walk_at "as") => `(tactic| ((with_reducible apply es_asg); (walk_at "ev")))
local macro_rules | `(tactic| walk_at "tp") => `(tactic| ((with_reducible apply ep_tup); (walk_at "ev"); (walk_at "sz")))
local macro_rules | `(tactic| walk_at "no") => `(tactic| ((with_reducible apply es_whenF); ((with_reducible apply et_is); (walk_at "ev"); (decide +kernel))))
local macro_rules | `(tactic| walk_at "yes") => `(tactic| ((with_reducible apply es_whenT); ((with_reducible apply et_is); (walk_at "ev"); (decide +kernel))))
section
variable {P : Program} {w : World} {K : PySem.W.Frag} {mg : Str → Option Value} {base : Heap}
def sp_l_paint (K : PySem.W.Frag) : Sp := fun vs H Q _ => ∃ a p x y, vs = [.ref a, .int x, .int y] ∧ PrimAt H a p ∧ p.ok ∧ (Bd x ∧ Bd y) ∧ ∀ H2, Same H H2 → Q (oS (p.paint x y)) H2
theorem spv_lcovers {sh : Sh} {a : Addr} {ns : List Int} {z : Str} {x y : Int} {H : Hp} (ha : IntsAt H a ns) (ok : PtsOk sh ns) (hb : Bd x ∧ Bd y) : SpV Same (sp_l_covers K) [.str sh.str, .ref a, .str z, .int x, .int y] H (fun v _ => v = .bl (cov sh ns z x y)) :=
  fun H1 e Q q E => ⟨sh, a, ns, z, x, y, rfl, Rel.tup e ha, ok, hb, fun H2 e2 => q _ H2 e2 rfl⟩
theorem ok_l_paint (T : Txt K mg) : FnOk P w K mg base CX0 5 (He.ga K "_law_paint") (fdOf K (He.ga K "_law_paint")) p_l_paint (sp_l_paint K) := by
  refine T.l_paint.fn.ok sc_l_paint (fun vs H Q E h => ?_) (fun cdv A outer s H vs Q E hr h => ?_)
  · obtain ⟨a, p, x, y, rfl, ha, ok, hb, q⟩ := h
    rfl
  · obtain ⟨a, p, x, y, rfl, ha, ok, hb, q⟩ := h
    refine ⟨_, (pss_cons (ps_set (i := 3) sc_l_paint.nd rfl (Or.inl rfl) (pe_ix (r := rIxT K) ix_tup (pv 0) pe_int (fun _ _ => rfl))) (pss_cons (ps_if (PW.pt (pw_or (pt_cmpR op_eq (pe_ix (r := rIxT K) ix_tup (pv 0) pe_int (fun _ _ => rfl)) pe_str (nomark _)) (pw_or1 (pt_cmpR op_eq (pe_ix (r := rIxT K) ix_tup (pv 0) pe_int (fun _ _ => rfl)) pe_str (nomark _))))) (pss_one (ps_set (i := 3) sc_l_paint.nd rfl (Or.inl rfl) (pe_ix (r := rIxT K) ix_tup (pv 0) pe_int (fun _ _ => rfl)))) pss_nil) (pss_cons (ps_if (PW.pt (pw_or (pt_cmpR op_isN1 (pv 3) pe_non (nomark _)) (pw_or1 (pt_not (pt_val (pe_call (ok_l_covers T) (hr.mono (by decide)) (by rfl) T.l_covers.mg T.l_covers.fn.kp (bd_l_covers T) .nil pass0 (pa_cons (pe_ix (r := rIxT K) ix_tup (pv 0) pe_int (fun _ _ => rfl)) (pa_cons (pe_ix (r := rIxT K) ix_tup (pv 0) pe_int (fun _ _ => rfl)) (pa_cons (pe_ix (r := rIxT K) ix_tup (pv 0) pe_int (fun _ _ => rfl)) (pa_cons (pv 1) (pa_cons (pv 2) pa_nil))))))))))) (pss_one (ps_ret pe_non)) pss_nil) (pss_cons (ps_if (PW.pt (pw_and (pt_cmpR op_notN1 (pe_ix (r := rIxT K) ix_tup (pv 0) pe_int (fun _ _ => rfl)) pe_non (nomark _)) (pw_and1 (pt_not (pt_val (pe_call (ok_l_holds T) (hr.mono (by decide)) (by rfl) T.l_holds.mg T.l_holds.fn.kp (bd_l_holds T) .nil pass0 (pa_cons (pe_ix (r := rIxT K) ix_tup (pv 0) pe_int (fun _ _ => rfl)) (pa_cons (pv 1) (pa_cons (pv 2) pa_nil))))))))) (pss_one (ps_ret pe_non)) pss_nil) (pss_one (ps_ret (pv 3))))))), ?_⟩
    obtain ⟨pa, cv, h1, h2, h3⟩ := ha
    refine EvS.run (R := Same) (φ := fun v _ => v = oS (p.paint x y)) ?_ fun v H2 e2 p => by rw [p]; exact q H2 e2
    have hno : p.ink = none → p.paint x y = none := fun h => by
      unfold Prim.paint
      rw [h]
      split <;> rfl
    walk_at "as"
    refine es_via (σ0 := [some (.ref a), some (.int x), some (.int y), some (oS p.ink)]) ?_ fun main => ?_
    · cases hi : p.ink with
      | none =>
        refine es_whenT (et_is (a := true || true) (et_or ?_ fun z => nomatch z) rfl) ?_
        · apply et_is
          · walk_at "ev"
          · rfl
        · apply es_ret
          · walk_at "ev"
          · intro _ _
            rw [hno hi]
            rfl
      | some z =>
        refine es_when (b := !cov p.sh p.pts p.text x y) (et_is (a := false || !cov p.sh p.pts p.text x y) (et_or ?_ fun _ => et_not (et_B (ev_call (by walk_at "ev") (spv_lcovers (K := K) (sh := p.sh) h2 ok.pts hb)))) rfl) ?_ ?_
        · apply et_is
          · walk_at "ev"
          · rfl
        · intro hcv
          have hcv : cov p.sh p.pts p.text x y = false := by
            cases e : cov p.sh p.pts p.text x y with
            | false => rfl
            | true =>
              rw [e] at hcv
              cases hcv
          apply es_ret
          · walk_at "ev"
          · intro _ _
            unfold Prim.paint Prim.geo
            rw [hcv, Bool.and_false]
            rfl
        intro hcv
        have hcv : cov p.sh p.pts p.text x y = true := by
          cases e : cov p.sh p.pts p.text x y with
          | true => rfl
          | false =>
            rw [e] at hcv
            cases hcv
        refine es_when (b := !clipC p.clip x y) ?_ ?_ ?_
        · cases hc : p.clip with
          | none =>
            rw [hc] at h3
            have h3 : cv = .non := h3
            subst h3
            refine et_is (a := false && true) (et_and ?_ fun z => nomatch z) rfl
            apply et_is
            · walk_at "ev"
            · rfl
          | some r =>
            rw [hc] at h3
            obtain ⟨ca, rfl, h4⟩ : ∃ c, cv = .ref c ∧ RectAt H c r := h3
            refine et_is (a := true && !contains r x y) (et_and ?_ fun _ => ?_) rfl
            · apply et_is
              · walk_at "ev"
              · rfl
            · exact et_not (et_B (ev_call (by walk_at "ev") (spv_holds (K := K) h4)))
        · intro hcl
          have hcl : clipC p.clip x y = false := by
            cases e : clipC p.clip x y with
            | false => rfl
            | true =>
              rw [e] at hcl
              cases hcl
          apply es_ret
          · walk_at "ev"
          · intro _ _
            unfold Prim.paint Prim.geo
            rw [hcl]
            rfl
        intro hcl
        have hcl : clipC p.clip x y = true := by
          cases e : clipC p.clip x y with
          | true => rfl
          | false =>
            rw [e] at hcl
            cases hcl
        apply es_ret
        · walk_at "ev"
        · intro _ _
          unfold Prim.paint Prim.geo
          rw [hcl, hcv, hi]
          rfl
    cases hsh : p.sh with
    | line =>
      have hi : p.ink = p.stroke := by
        unfold Prim.ink
        rw [hsh]
      apply es_ifT
      · apply et_is
        · walk_at "ev"
        · rw [sh_line, hsh]
      · walk_at "as"
        rw [hi] at main
        exact main
    | poly =>
      have hi : p.ink = p.stroke := by
        unfold Prim.ink
        rw [hsh]
      apply es_ifT
      · apply et_is
        · walk_at "ev"
        · rw [sh_line, hsh]
      · walk_at "as"
        rw [hi] at main
        exact main
    | _ =>
      have hi : p.ink = p.fill := by
        unfold Prim.ink
        rw [hsh]
      apply es_ifF
      · apply et_is
        · walk_at "ev"
        · rw [sh_line, hsh]
      · apply es_skip
        rw [hi] at main
        exact main
theorem spv_paint {a : Addr} {p : Prim} {x y : Int} {H : Hp} (ha : PrimAt H a p) (ok : p.ok) (hb : Bd x ∧ Bd y) : SpV Same (sp_paint_of K) [.ref a, .int x, .int y] H (fun v _ => v = oS (p.paint x y)) := fun H1 e Q q E => ⟨a, p, x, y, rfl, ha.keep e, ok, hb, fun H2 e2 => q _ H2 e2 rfl⟩
theorem spv_lpaint {a : Addr} {p : Prim} {x y : Int} {H : Hp} (ha : PrimAt H a p) (ok : p.ok) (hb : Bd x ∧ Bd y) : SpV Same (sp_l_paint K) [.ref a, .int x, .int y] H (fun v _ => v = oS (p.paint x y)) := fun H1 e Q q E => ⟨a, p, x, y, rfl, ha.keep e, ok, hb, fun H2 e2 => q _ H2 e2 rfl⟩
theorem spv_ident {a : Addr} {p : Prim} {H : Hp} (ha : PrimAt H a p) : SpV Same (sp_identity K) [.ref a] H (fun v H2 => ∃ b, v = .ref b ∧ IdAt H2 b p.who) := fun H1 e Q q E => ⟨a, p, rfl, ha.keep e, fun b H2 e2 h => q _ H2 e2 ⟨b, rfl, h⟩⟩
theorem oS_some (o : Option Str) : (!decide (oS o = V.non)) = o.isSome := by
  cases o <;> rfl
/-- a scene that is asked at a pixel of the page -/
structure Ask (H : Hp) (a : Addr) (w h : Int) (ps : List Prim) (x y : Int) : Prop where
  at_ : SceneAt H a w h ps
  ok : ∀ p ∈ ps, p.ok
  len : ps.length ≤ 1000
  pg : contains ⟨0, 0, w, h⟩ x y = true
  bx : Bd x
  bY : Bd y
theorem Ask.keep {R : Rl} [Rel R] {H H' : Hp} {a : Addr} {w h : Int} {ps : List Prim} {x y : Int} (k : Ask H a w h ps x y) (e : R H H') : Ask H' a w h ps x y := ⟨k.at_.keep e, k.ok, k.len, k.pg, k.bx, k.bY⟩
def sp_hits (K : PySem.W.Frag) : Sp := fun vs H Q _ => ∃ a w h ps x y, vs = [.ref a, .int x, .int y] ∧ Ask H a w h ps x y ∧ ∀ b as H2, Same H H2 → H2 b = some (.tup (as.map V.ref)) → IdsAt H2 as (hitsM ps x y) → Q (.ref b) H2
/-- contains(page_of(scene), x, y) -/
theorem et_page {σ : L2.St} {H : Hp} {a : Addr} {w h : Int} {ps : List Prim} {x y : Int} {E1 E2 : XK} {ta tx ty : TE} (k : Ask H a w h ps x y) (h1 : Ev Same ta σ H (.ref a)) (h2 : ∀ H1, Same H H1 → Ev Same tx σ H1 (.int x)) (h3 : ∀ H1, Same H H1 → Ev Same ty σ H1 (.int y)) :
    EvT Same (tNot (tB (tCall (sp_contains K) [] E1 (tCons (tCall (sp_page_of K) [] E2 (tCons ta tNil)) (tCons tx (tCons ty tNil)))))) σ H false := by
  refine et_is (a := !true) (et_not (et_B ?_)) rfl
  refine fun H2 e2 Q q => ep_callP (P := fun v _ => v = .bl true) (PA := fun vs H => ∃ p, vs = [.ref p, .int x, .int y] ∧ RectAt H p ⟨0, 0, w, h⟩) (eap_cons (ep_call (ea_cons h1 ea_nil) (spv_page (K := K) k.at_)) ?_) ?_ H2 e2 Q fun v H3 e3 p => by rw [p]; exact q H3 e3
  · rintro v H3 e3 ⟨p, rfl, hp⟩
    refine EvA.p (ea_cons (h2 H3 e3) (ea_cons (h3 H3 e3) ea_nil)) fun H4 e4 => ⟨p, rfl, Rel.tup e4 hp⟩
  · rintro vs H3 e3 ⟨p, rfl, hp⟩ Q q
    have := spv_contains (K := K) (x := x) (y := y) hp H3 (Same.refl _) Q (fun v H2 e2 hv => q v H2 e2 (by rw [hv, k.pg])) E1
    exact this
def HitsLv (ps : List Prim) (x y : Int) (i : Nat) (acc : List V) (H : Hp) : Prop := ∃ bs, acc = bs.map V.ref ∧ IdsAt H bs (((ps.reverse.take i).filter (Prim.hit x y)).map Prim.who)
theorem hitsLv_kt {ps : List Prim} {x y : Int} (i : Nat) (l : List V) (H1 H2 : Hp) (e : KT H1 H2) (h : HitsLv ps x y i l H1) : HitsLv ps x y i l H2 := by
  obtain ⟨bs, e1, e2⟩ := h
  exact ⟨bs, e1, e2.kt e⟩
theorem ok_hits (T : Txt K mg) : FnOk P w K mg base CX0 6 (He.ga K "hits") (fdOf K (He.ga K "hits")) p_hits (sp_hits K) := by
  refine T.hits.fn.ok sc_hits (fun vs H Q E h => ?_) (fun cdv A outer s H vs Q E hr h => ?_)
  · obtain ⟨a, w, h, ps, x, y, rfl, k, q⟩ := h
    rfl
  · obtain ⟨a, w, h, ps, x, y, rfl, k, q⟩ := h
    refine ⟨_, (pss_cons (ps_if (pt_not (pt_val (pe_call (ok_contains T) (hr.mono (by decide)) (by rfl) T.contains.mg T.contains.fn.kp (bd_contains T) .nil pass0 (pa_cons (pe_call (ok_page_of T) (hr.mono (by decide)) (by rfl) T.page_of.mg T.page_of.fn.kp (bd_page_of T) .nil pass0 (pa_cons (pv 0) pa_nil)) (pa_cons (pv 1) (pa_cons (pv 2) pa_nil)))))) (pss_one (ps_ret (pe_tup pa_nil))) pss_nil) (pss_one (ps_ret (pe_callTy cb_tupOf (by rfl) T.b_tuple PyProof.Rows.boot_tuple (pa_cons (pe_lc (own := [("item", 3)]) (g := gName 3) rfl sc_hits.nd (RT.pi_revA (by rfl) T.b_reversed (pe_ix (r := rIxT K) ix_tup (pv 0) pe_int (fun _ _ => rfl))) (blkOk_by (own := [("item", 3)]) (N := n_hits) (sc := defScope s_hits) (by decide +kernel)) (fun _ _ _ _ _ => pg_name (i := 3) sc_hits.nd rfl (Or.inl rfl)) (fun _ _ _ _ _ => (pts_one (pt_cmpR op_notN1 (pe_call (ok_paint_of T) (hr.mono (by decide)) (by rfl) T.paint_of.mg T.paint_of.fn.kp (bd_paint_of T) .nil pass0 (pa_cons (pv 3) (pa_cons (pv 1) (pa_cons (pv 2) pa_nil)))) pe_non (nomark _)))) (fun _ _ _ _ _ => (pe_call (ok_identity T) (hr.mono (by decide)) (by rfl) T.identity.mg T.identity.fn.kp (bd_identity T) .nil pass0 (pa_cons (pv 3) pa_nil)))) pa_nil))))), ?_⟩
    obtain ⟨ta, as, h1, h2, h3⟩ := id k.at_
    refine EvS.run (R := Same) (φ := fun v H2 => ∃ b bs, v = .ref b ∧ H2 b = some (.tup (bs.map V.ref)) ∧ IdsAt H2 bs (hitsM ps x y)) ?_ fun v H2 e2 ⟨b, bs, p1, p2, p3⟩ => by rw [p1]; exact q b bs H2 e2 p2 p3
    apply es_whenF
    · exact et_page k (by walk_at "ev") (fun _ _ => by walk_at "ev") (fun _ _ => by walk_at "ev")
    have hl : as.length = ps.length := pair_len h3
    have hk := k.len
    apply es_retP
    · refine ep_cbL (P := fun v H2 => ∃ b bs, v = .ref b ∧ H2 b = some (.tup (bs.map V.ref)) ∧ IdsAt H2 bs (hitsM ps x y)) (lc_ofRev (a := ta) (xs := as.map V.ref) (by walk_at "ev") h2 (by rw [List.length_map]; omega) (HitsLv ps x y) hitsLv_kt ⟨[], rfl, .nil⟩ ?_ (fun _ => rfl)) ?_
      · rintro i x0 acc H1 hi e hx ⟨bs, rfl, hb⟩
        rw [List.length_map] at hi hx
        obtain ⟨ai, rfl, hai⟩ := map_get hx
        obtain ⟨pi, hpi, hpa⟩ := pair_rev h3 hai hi
        have hpa1 := hpa.keep e
        have hok := k.ok pi (by rw [← List.mem_reverse]; exact List.mem_of_getElem? hpi)
        refine ⟨Prim.hit x y pi, ?_, ?_, ?_⟩
        · apply et_is
          · apply et_test
            exact ev_op (ev_call (by walk_at "ev") (spv_paint (K := K) hpa1 hok ⟨k.bx, k.bY⟩)) (by walk_at "ev") rv_notN
          · exact oS_some _
        · intro hh
          refine EvP.imp (ep_call (by walk_at "ev") (spv_ident (K := K) hpa1)) ?_
          rintro v H2 e2 ⟨b, rfl, hbb⟩
          refine ⟨bs ++ [b], by rw [List.map_append]; rfl, ?_⟩
          rw [take_filter hpi, if_pos hh, List.map_append]
          exact pair_snoc (hb.keep e2) hbb
        · intro hh
          refine ⟨bs, rfl, ?_⟩
          rw [take_filter hpi, if_neg (by rw [hh]; decide)]
          exact hb
      · rintro p acc H1 e hp ⟨bs, rfl, hb⟩ Q q
        refine ⟨p, _, rfl, .inl ⟨SqL.of hp, fun l hl2 => q _ _ (same_new hl2) ⟨l, bs, rfl, upd_same, ?_⟩⟩⟩
        have hb := IdsAt.keep (same_new (o := .tup (bs.map V.ref)) hl2) hb
        rw [List.length_map, hl, show ps.length = ps.reverse.length by rw [List.length_reverse], List.take_length] at hb
        exact hb
    · exact fun v H2 e h => h
def sp_color_at (K : PySem.W.Frag) : Sp := fun vs H Q _ => ∃ a w h ps x y, vs = [.ref a, .int x, .int y] ∧ Ask H a w h ps x y ∧ ∀ H2, Same H H2 → Q (.str (colM ps x y)) H2
theorem ok_color_at (T : Txt K mg) : FnOk P w K mg base CX0 6 (He.ga K "color_at") (fdOf K (He.ga K "color_at")) p_color_at (sp_color_at K) := by
  refine T.color_at.fn.ok sc_color_at (fun vs H Q E h => ?_) (fun cdv A outer s H vs Q E hr h => ?_)
  · obtain ⟨a, w, h, ps, x, y, rfl, k, q⟩ := h
    rfl
  · obtain ⟨a, w, h, ps, x, y, rfl, k, q⟩ := h
    obtain ⟨t_WHITE, h_WHITE⟩ := T.c_WHITE
    refine ⟨_, (pss_cons (ps_if (pt_not (pt_val (pe_call (ok_contains T) (hr.mono (by decide)) (by rfl) T.contains.mg T.contains.fn.kp (bd_contains T) .nil pass0 (pa_cons (pe_call (ok_page_of T) (hr.mono (by decide)) (by rfl) T.page_of.mg T.page_of.fn.kp (bd_page_of T) .nil pass0 (pa_cons (pv 0) pa_nil)) (pa_cons (pv 1) (pa_cons (pv 2) pa_nil)))))) (pss_one (ps_ret pe_non)) pss_nil) (pss_cons (ps_for PassesOwn.never rfl (RT.pi_revA (by rfl) T.b_reversed (pe_ix (r := rIxT K) ix_tup (pv 0) pe_int (fun _ _ => rfl))) (pg_name (i := 3) sc_color_at.nd rfl (Or.inl rfl)) (pss_cons (ps_set (i := 4) sc_color_at.nd rfl (Or.inl rfl) (pe_call (ok_paint_of T) (hr.mono (by decide)) (by rfl) T.paint_of.mg T.paint_of.fn.kp (bd_paint_of T) .nil pass0 (pa_cons (pv 3) (pa_cons (pv 1) (pa_cons (pv 2) pa_nil))))) (pss_one (ps_if (pt_cmpR op_notN1 (pv 4) pe_non (nomark _)) (pss_one (ps_ret (pv 4))) pss_nil)))) (pss_one (ps_ret (pe_glob (v := .str "#ffffff") rfl h_WHITE ⟨_, rfl⟩))))), ?_⟩
    obtain ⟨ta, as, h1, h2, h3⟩ := id k.at_
    refine EvS.run (R := Same) (φ := fun v _ => v = .str (colM ps x y)) ?_ fun v H2 e2 p => by rw [p]; exact q H2 e2
    apply es_whenF
    · exact et_page k (by walk_at "ev") (fun _ _ => by walk_at "ev") (fun _ _ => by walk_at "ev")
    have hl : as.length = ps.length := pair_len h3
    apply es_seq
    · refine es_forRev (a := ta) (xs := as.map V.ref) (by walk_at "ev") h2 (fun i σ _ => (∃ v3 v4, σ = [some (.ref a), some (.int x), some (.int y), v3, v4]) ∧ firstC x y ps.reverse = firstC x y (ps.reverse.drop i)) (fun H1 e => ⟨⟨none, none, rfl⟩, rfl⟩) ?_ (ψ := fun σ _ => firstC x y ps.reverse = white) ?_
      · rintro i x0 σ' H1 hi e ⟨⟨v3, v4, rfl⟩, hf⟩ hx
        rw [List.length_map] at hi hx
        obtain ⟨ai, rfl, hai⟩ := map_get hx
        obtain ⟨pi, hpi, hpa⟩ := pair_rev h3 hai hi
        have hpa1 := hpa.keep e
        have hok := k.ok pi (by rw [← List.mem_reverse]; exact List.mem_of_getElem? hpi)
        rw [drop_at hpi] at hf
        refine es_asg (ev_call (by walk_at "ev") (spv_paint (K := K) hpa1 hok ⟨k.bx, k.bY⟩)) ?_
        cases hc : pi.paint x y with
        | none =>
          apply es_if1F
          · apply et_is
            · walk_at "ev"
            · rfl
          · refine es_next fun H2 e2 => ⟨⟨_, _, rfl⟩, ?_⟩
            rw [hf]
            show (match pi.paint x y with | some c => c | none => firstC x y (ps.reverse.drop (i + 1))) = _
            rw [hc]
        | some c =>
          apply es_if1T
          · apply et_is
            · walk_at "ev"
            · rfl
          · apply es_ret
            · walk_at "ev"
            · intro _ _
              unfold colM
              rw [hf]
              show _ = V.str (match pi.paint x y with | some c => c | none => firstC x y (ps.reverse.drop (i + 1)))
              rw [hc]
              rfl
      · rintro σ' H1 e ⟨_, hf⟩
        rw [hf, List.length_map, hl, show ps.length = ps.reverse.length by rw [List.length_reverse], List.drop_length]
        rfl
    · intro σ' H1 e hf
      apply es_ret
      · walk_at "ev"
      · intro _ _
        unfold colM
        rw [hf]
        rfl
def sp_l_hits (K : PySem.W.Frag) : Sp := fun vs H Q _ => ∃ a w h ps x y, vs = [.ref a, .int x, .int y] ∧ Ask H a w h ps x y ∧ ∀ b as H2, Same H H2 → H2 b = some (.lst (as.map V.ref)) → IdsAt H2 as (hitsM ps x y) → Q (.ref b) H2
theorem ok_l_hits (T : Txt K mg) : FnOk P w K mg base CX0 6 (He.ga K "_law_hits") (fdOf K (He.ga K "_law_hits")) p_l_hits (sp_l_hits K) := by
  refine T.l_hits.fn.ok sc_l_hits (fun vs H Q E h => ?_) (fun cdv A outer s H vs Q E hr h => ?_)
  · obtain ⟨a, w, h, ps, x, y, rfl, k, q⟩ := h
    rfl
  · obtain ⟨a, w, h, ps, x, y, rfl, k, q⟩ := h
    refine ⟨_, (pss_cons (ps_if (pt_not (pt_val (pe_call (ok_l_holds T) (hr.mono (by decide)) (by rfl) T.l_holds.mg T.l_holds.fn.kp (bd_l_holds T) .nil pass0 (pa_cons (pe_tup (pa_cons pe_int (pa_cons pe_int (pa_cons (pe_ix (r := rIxT K) ix_tup (pv 0) pe_int (fun _ _ => rfl)) (pa_cons (pe_ix (r := rIxT K) ix_tup (pv 0) pe_int (fun _ _ => rfl)) pa_nil))))) (pa_cons (pv 1) (pa_cons (pv 2) pa_nil)))))) (pss_one (ps_ret (pe_lst pa_nil))) pss_nil) (pss_cons (ps_set (i := 3) sc_l_hits.nd rfl (Or.inl rfl) (pe_lst pa_nil)) (pss_cons (ps_for PassesOwn.never rfl (pi_tup (pe_ix (r := rIxT K) ix_tup (pv 0) pe_int (fun _ _ => rfl))) (pg_name (i := 4) sc_l_hits.nd rfl (Or.inl rfl)) (pss_one (ps_if (pt_cmpR op_notN1 (pe_call (ok_l_paint T) (hr.mono (by decide)) (by rfl) T.l_paint.mg T.l_paint.fn.kp (bd_l_paint T) .nil pass0 (pa_cons (pv 4) (pa_cons (pv 1) (pa_cons (pv 2) pa_nil)))) pe_non (nomark _)) (pss_one (ps_set (i := 3) sc_l_hits.nd rfl (Or.inl rfl) (pe_op op_cat (pe_lst (pa_cons (pe_slice (r := rSlA K) sl_tupA (pv 4) po_none (po_some pe_int)) pa_nil)) (pv 3)))) pss_nil))) (pss_one (ps_ret (pv 3)))))), ?_⟩
    obtain ⟨ta, as, h1, h2, h3⟩ := id k.at_
    refine EvS.run (R := Same) (φ := fun v H2 => ∃ b bs, v = .ref b ∧ H2 b = some (.lst (bs.map V.ref)) ∧ IdsAt H2 bs (hitsM ps x y)) ?_ fun v H2 e2 ⟨b, bs, p1, p2, p3⟩ => by rw [p1]; exact q b bs H2 e2 p2 p3
    have hl : as.length = ps.length := pair_len h3
    have hk := k.len
    apply es_whenF
    · refine et_is (a := !true) (et_not (et_B ?_)) rfl
      refine fun H2 e2 Q q => ep_callP (P := fun v _ => v = .bl true) (PA := fun vs H => ∃ p, vs = [.ref p, .int x, .int y] ∧ RectAt H p ⟨0, 0, w, h⟩) (eap_cons (ep_tup (vs := [.int 0, .int 0, .int w, .int h]) (by walk_at "ev") (by walk_at "sz")) ?_) ?_ H2 e2 Q fun v H3 e3 p => by rw [p]; exact q H3 e3
      · rintro v H3 e3 ⟨p, rfl, hp⟩
        exact EvA.p (ea_cons (by walk_at "ev") (ea_cons (by walk_at "ev") ea_nil)) fun H4 e4 => ⟨p, rfl, Rel.tup e4 hp⟩
      · rintro vs H3 e3 ⟨p, rfl, hp⟩ Q q
        exact spv_holds (K := K) (x := x) (y := y) hp H3 (Same.refl _) Q (fun v H2 e2 hv => q v H2 e2 (by rw [hv, k.pg])) _
    refine es_asgP (ep_lst (vs := []) (by walk_at "ev") (by walk_at "sz")) ?_
    rintro v H1 e1 ⟨f0, rfl, hf0⟩
    have h2 := Rel.tup e1 h2
    have h3 := h3.keep e1
    have h1 := Rel.tup e1 h1
    apply es_seq
    · refine es_forT (a := ta) (xs := as.map V.ref) (by walk_at "ev") h2 (fun i σ H => ∃ f bs v4, σ = [some (.ref a), some (.int x), some (.int y), some (.ref f), v4] ∧ H f = some (.lst (bs.map V.ref)) ∧ IdsAt H bs (((ps.take i).filter (Prim.hit x y)).map Prim.who).reverse)
        (fun H2 e2 => ⟨f0, [], none, rfl, e2 _ _ hf0, .nil⟩) ?_ (ψ := fun σ H => ∃ f bs v4, σ = [some (.ref a), some (.int x), some (.int y), some (.ref f), v4] ∧ H f = some (.lst (bs.map V.ref)) ∧ IdsAt H bs (hitsM ps x y)) ?_
      · rintro i x0 σ' H2 e2 ⟨f, bs, v4, rfl, hf, hb⟩ hx
        obtain ⟨ai, rfl, hai⟩ := map_get hx
        obtain ⟨pi, hpi, hpa⟩ := pair_get h3 hai
        have hpa1 := hpa.keep e2
        have hok := k.ok pi (List.mem_of_getElem? hpi)
        refine es_if1 (b := Prim.hit x y pi) ?_ ?_ ?_
        · apply et_is
          · apply et_test
            exact ev_op (ev_call (by walk_at "ev") (spv_lpaint (K := K) hpa1 hok ⟨k.bx, k.bY⟩)) (by walk_at "ev") rv_notN
          · exact oS_some _
        · intro hh
          obtain ⟨pa, cv, g1, g2, g3⟩ := hpa1
          refine es_asgP1 (ep_consCat (P := fun v H => ∃ c, v = .ref c ∧ IdAt H c pi.who) (EvP.imp (ep_slT (lo := none) (hi := some 3) (by walk_at "ev") eo_none (eo_some ev_c) g1) fun v H2 e2 ⟨c, g1, g2⟩ => ⟨c, g1, g2⟩) (fun v H1 H2 e ⟨c, g1, g2⟩ => ⟨c, g1, Rel.tup e g2⟩) (fun _ _ => by walk_at "ev") hf (by
            have := pair_len hb
            rw [List.length_map, this, List.length_reverse, List.length_map]
            have h9 := List.length_filter_le (Prim.hit x y) (ps.take i)
            have h8 := List.length_take_le i ps
            have h7 : (ps.take i).length ≤ ps.length := by rw [List.length_take]; omega
            omega)) ?_
          rintro v H3 e3 ⟨f', x', rfl, hf', c, rfl, hc⟩
          refine ⟨f', c :: bs, _, rfl, hf', ?_⟩
          rw [take_filter hpi, if_pos hh, List.map_append, List.reverse_append]
          exact .cons hc (hb.keep e3)
        · intro hh
          refine es_next fun H3 e3 => ⟨f, bs, _, rfl, e3 _ _ hf, ?_⟩
          rw [take_filter hpi, if_neg (by rw [hh]; decide)]
          exact hb.keep e3
      · rintro σ' H2 e2 ⟨f, bs, v4, rfl, hf, hb⟩
        refine ⟨f, bs, v4, rfl, hf, ?_⟩
        rw [List.length_map, hl, List.take_length] at hb
        unfold hitsM
        rw [List.filter_reverse, List.map_reverse]
        exact hb
    · rintro σ' H2 e2 ⟨f, bs, v4, rfl, hf, hb⟩
      apply es_ret
      · walk_at "ev"
      · exact fun H3 e3 => ⟨f, bs, rfl, e3 _ _ hf, hb.keep e3⟩
end
end Cs

namespace Cs
open PySem PySem.Spec PyProof.Rows L2
/-! ### dicts keyed by identities, and by None or an int: the object itself is told -/
def Kn (a : Addr) (o : Obj) : HO := .ext fun h => h.get? a = some o
theorem kn_ok {P : Program} {w : World} {H : Hp} {h : Heap} {a : Addr} {o : Obj} (e : h.get? a = some o) : ObjOk P w H h a (Kn a o) := ⟨e, ⟨_, e⟩, fun _ _ p k => k _ p⟩
def oK : Option Int → Option Key
  | none => none
  | some i => some (.inl i)
def Id3.nk (d : Id3) : List (Option Key) := [oK d.plot, some (.inr d.role), some (.inr d.key)]
theorem oK_inj {a b : Option Int} (e : oK a = oK b) : a = b := by
  cases a with
  | none => cases b with
    | none => rfl
    | some j => exact nomatch e
  | some i => cases b with
    | none => exact nomatch e
    | some j =>
      have e : some (Sum.inl i : Key) = some (.inl j) := e
      injection e with e
      injection e with e
      rw [e]
theorem nk_inj {a b : Id3} (e : a.nk = b.nk) : a = b := by
  obtain ⟨p, r, k⟩ := a
  obtain ⟨p', r', k'⟩ := b
  unfold Id3.nk at e
  injection e with e1 e
  injection e with e2 e
  injection e with e3 e
  injection e2 with e2
  injection e2 with e2
  injection e3 with e3
  injection e3 with e3
  have e1 : p = p' := oK_inj e1
  have e2 : r = r' := e2
  have e3 : k = k' := e3
  rw [e1, e2, e3]
theorem nk_none_of {P : Program} {w : World} {o : Option Int} {u : Value} (r : RelV (oI o) u) : (noneKind P w).is (oK o) u = true := by
  cases o with
  | none =>
    obtain rfl : u = Value.none := r
    rfl
  | some i =>
    obtain ⟨t, rfl⟩ : ∃ t, u = Value.int i t := r
    exact mixKind_int P w i t
theorem nk_str_of {P : Program} {w : World} {z : Str} {u : Value} (r : RelV (.str z) u) : (noneKind P w).is (some (.inr z)) u = true := by
  obtain ⟨t, rfl⟩ : ∃ t, u = Value.str z t := r
  exact mixKind_str P w z t
theorem id_key {P : Program} {w : World} {H : Hp} {h : Heap} {a : Addr} {d : Id3} (ok : HOk P w H h) (e : IdAt H a d) : (tupleKind (noneKind P w)).is h d.nk a := by
  obtain ⟨_, its, r, o, h1, h2, n, h3⟩ := (show ObjOk P w H h a (.tup d.vs) from ok a _ e)
  refine ⟨o, its.toArray, n, h1, h2, h3, ?_⟩
  have r : Vals [oI d.plot, .str d.role, .str d.key] its := r
  cases r with
  | cons r1 q => cases q with
    | cons r2 q2 => cases q2 with
      | cons r3 q3 =>
        cases q3
        exact .cons (nk_none_of r1) (.cons (nk_str_of r2) (.cons (nk_str_of r3) .nil))
def NRel (H : Hp) : List (Id3 × V) → List (List (Option Key) × Addr × Value) → Prop := Paired fun p q => q.1 = p.1.nk ∧ IdAt H q.2.1 p.1 ∧ RelV p.2 q.2.2
theorem NRel.val {H : Hp} {kvs : List (Id3 × V)} {xs : List (List (Option Key) × Addr × Value)} (r : NRel H kvs xs) (k : Id3) : RelO (valV kvs k) ((atKey xs k.nk).map (·.2)) := by
  unfold NRel at r
  induction r with
  | nil => exact True.intro
  | @cons p q ps qs h t ih =>
    obtain ⟨h1, _, h2⟩ := h
    by_cases e : p.1 = k
    · have e' : q.1 = k.nk := by rw [h1, e]
      have b : atKey (q :: qs) k.nk = some q.2 := by simp [atKey, List.find?_cons, e']
      rw [valV_pos e, b]; exact h2
    · have e' : ¬ q.1 = k.nk := fun z => e (nk_inj (h1.symm.trans z))
      have b : atKey (q :: qs) k.nk = atKey qs k.nk := by simp [atKey, List.find?_cons, e']
      rw [valV_neg e, b]; exact ih
theorem NRel.repl {H : Hp} {kvs : List (Id3 × V)} {xs : List (List (Option Key) × Addr × Value)} (r : NRel H kvs xs) (k : Id3) {y : V} {u : Value} (ry : RelV y u) :
    NRel H (kvs.map fun kv => if kv.1 = k then (kv.1, y) else kv) (xs.map (putAt k.nk u)) := by
  unfold NRel at r ⊢
  induction r with
  | nil => exact .nil
  | @cons p q ps qs h t ih =>
    rw [List.map_cons, List.map_cons]
    refine .cons ?_ ih
    obtain ⟨h1, h2, h3⟩ := h
    unfold putAt
    by_cases e : p.1 = k
    · rw [if_pos e, if_pos (by rw [h1, e])]; exact ⟨h1, h2, ry⟩
    · rw [if_neg e, if_neg (fun z => e (nk_inj (h1.symm.trans z)))]; exact ⟨h1, h2, h3⟩
theorem NRel.put {H : Hp} {kvs : List (Id3 × V)} {xs : List (List (Option Key) × Addr × Value)} (r : NRel H kvs xs) (k : Id3) {b : Addr} {y : V} {u : Value} (hb : IdAt H b k) (ry : RelV y u) : NRel H (putK kvs k y) (storedH xs k.nk b u) := by
  have e : (kvs.any fun kv => decide (kv.1 = k)) = (atKey xs k.nk).isSome := by
    rw [valV_any, (r.val k).isSome_eq, Option.isSome_map]
  unfold putK storedH
  rw [e]
  by_cases q : (atKey xs k.nk).isSome = true
  · rw [if_pos q, if_pos q]; exact r.repl k ry
  · rw [if_neg q, if_neg q]; exact Paired.snoc r ⟨rfl, hb, ry⟩
theorem NRel.keep {H H' : Hp} {kvs : List (Id3 × V)} {xs : List (List (Option Key) × Addr × Value)} (r : NRel H kvs xs) (e : KT H H') : NRel H' kvs xs := Paired.mapP r fun _ _ z => ⟨z.1, e _ _ z.2.1, z.2.2⟩
/-- the object o is a dict of these entries -/
def NO (P : Program) (w : World) (H : Hp) (o : Obj) (kvs : List (Id3 × V)) : Prop := ∃ ess ep xs, o.ExactDict ∧ o.data = .dict ess ep ∧ ess.toList = xs.map (entryOfKey (tupleKind (noneKind P w))) ∧ (xs.map (·.1)).Nodup ∧ NRel H kvs xs
def NDo (P : Program) (w : World) (H : Hp) (d : Addr) (o : Obj) (kvs : List (Id3 × V)) : Prop := kvs.length ≤ 100000 ∧ (d == sysModules) = false ∧ H d = some (Kn d o) ∧ NO P w H o kvs
def ND (P : Program) (w : World) (H : Hp) (d : Addr) (kvs : List (Id3 × V)) : Prop := ∃ o, NDo P w H d o kvs
theorem ND.keep {P : Program} {w : World} {H H' : Hp} {d : Addr} {kvs : List (Id3 × V)} (h : ND P w H d kvs) (e : Same H H') : ND P w H' d kvs := by
  obtain ⟨o, h1, h2, h3, ess, ep, xs, g1, g2, g3, g4, g5⟩ := h
  exact ⟨o, h1, h2, e _ _ h3, ess, ep, xs, g1, g2, g3, g4, g5.keep (kt_of e)⟩
theorem ND.other {P : Program} {w : World} {H H' : Hp} {d : Addr} {kvs : List (Id3 × V)} (h : ND P w H d kvs) (e : KT H H') (ed : H' d = H d) : ND P w H' d kvs := by
  obtain ⟨o, h1, h2, h3, ess, ep, xs, g1, g2, g3, g4, g5⟩ := h
  exact ⟨o, h1, h2, ed.trans h3, ess, ep, xs, g1, g2, g3, g4, g5.keep e⟩
section
variable {X : Cx} {pins : List (Addr × Obj)} {σ : L2.St} {H : Hp} {s : Shared} {d : Addr} {kvs : List (Id3 × V)} {o : Obj}
theorem ndo_of (I : Inv X pins σ H s) (h : NDo X.prog X.w H d o kvs) : (d == sysModules) = false ∧ ∃ xs, NRel H kvs xs ∧ s.heap.DictOfH (tupleKind (noneKind X.prog X.w)) d xs ∧ xs.length ≤ sizeLine := by
  obtain ⟨h1, h2, h3, ess, ep, xs, g1, g2, g3, g4, g5⟩ := h
  refine ⟨h2, xs, g5, ⟨o, ess, ep, (I.hok d _ h3).1, g1, g2, g3, fun x hx => ?_, g4⟩, ?_⟩
  · have all : ∀ {l : List (Id3 × V)} {m : List (List (Option Key) × Addr × Value)}, NRel H l m → ∀ x ∈ m, (tupleKind (noneKind X.prog X.w)).is s.heap x.1 x.2.1 := by
      intro l m q
      unfold NRel at q
      induction q with
      | nil => intro x hx; exact nomatch hx
      | @cons p q ps qs hq t ih =>
        intro x hx
        rcases List.mem_cons.mp hx with e | hx
        · subst e
          rw [hq.1]
          exact id_key I.hok hq.2.1
        · exact ih x hx
    exact all g5 x hx
  · rw [← Paired.length g5]
    have hz : (100000 : Nat) ≤ sizeLine := Nat.le_of_ble_eq_true rfl
    omega
theorem nd_of (I : Inv X pins σ H s) (h : ND X.prog X.w H d kvs) : (d == sysModules) = false ∧ ∃ xs, NRel H kvs xs ∧ s.heap.DictOfH (tupleKind (noneKind X.prog X.w)) d xs ∧ xs.length ≤ sizeLine := let ⟨_, h⟩ := h; ndo_of I h
/-- behind a store -/
theorem nd_write {h' : Heap} {t' : Nat} {xs : List (List (Option Key) × Addr × Value)} (I : Inv X pins σ H s) (h : ND X.prog X.w H d kvs) {kvs' : List (Id3 × V)} (hl : kvs'.length ≤ 100000) (rel : NRel H kvs' xs) (dd : h'.DictOfH (tupleKind (noneKind X.prog X.w)) d xs) (hs : Heap.SameBut d s.heap h') :
    ∃ H', Inv X pins σ H' { s with heap := h', toks := t' } ∧ ND X.prog X.w H' d kvs' ∧ ∀ a, a ≠ d → H' a = H a := by
  obtain ⟨o, h1, h2, h3, _⟩ := h
  obtain ⟨q, es, ep, hq, e1, e2, e3, _, e5⟩ := dd
  have kt : KT H (upd H d (Kn d q)) := fun a ys ha => by
    rw [upd_ne (ne_of ha h3 (fun z => nomatch z))]
    exact ha
  refine ⟨upd H d (Kn d q), d_write I (by rw [h3]; exact True.intro) hs ⟨q, hq⟩ (kn_ok hq), ⟨q, hl, h2, upd_same, es, ep, xs, e1, e2, e3, e5, rel.keep kt⟩, fun a ha => upd_ne ha⟩
end
/-! in, not in -/
def rInDN (P : Program) (w : World) : R2 := fun x y H Q => ∃ b d k kvs, x = .ref b ∧ y = .ref d ∧ IdAt H b k ∧ ND P w H d kvs ∧ Q (.bl (valV kvs k).isSome) H
def rNotInDN (P : Program) (w : World) : R2 := fun x y H Q => ∃ b d k kvs, x = .ref b ∧ y = .ref d ∧ IdAt H b k ∧ ND P w H d kvs ∧ Q (.bl (!(valV kvs k).isSome)) H
theorem op_inDN {X : Cx} (hu : X.A.units + 65 < cLine) : OpR X (compareOp .In) (rInDN X.prog X.w) := by
  intro pins s σ H x y v u Q I rx ry h
  obtain ⟨b, d, k, kvs, rfl, rfl, hb, hd, q⟩ := h
  obtain rfl : v = Value.ref b := rx
  obtain rfl : u = Value.ref d := ry
  obtain ⟨h2, xs, rel, dd, hz⟩ := nd_of I hd
  refine wpAny_in_heap (tupleKind_room_in1 (by omega)) (id_key I.hok hb) h2 dd ?_
  have e := (rel.val k).isSome_eq
  rw [Option.isSome_map] at e
  rw [← e]
  exact ⟨.bl (valV kvs k).isSome, H, I.tok _, rfl, q⟩
theorem op_notinDN {X : Cx} (hu : X.A.units + 65 < cLine) : OpR X (compareOp .NotIn) (rNotInDN X.prog X.w) := by
  intro pins s σ H x y v u Q I rx ry h
  obtain ⟨b, d, k, kvs, rfl, rfl, hb, hd, q⟩ := h
  obtain rfl : v = Value.ref b := rx
  obtain rfl : u = Value.ref d := ry
  obtain ⟨h2, xs, rel, dd, hz⟩ := nd_of I hd
  refine wpAny_notIn_heap (tupleKind_room_in1 (by omega)) (id_key I.hok hb) h2 dd ?_
  have e := (rel.val k).isSome_eq
  rw [Option.isSome_map] at e
  rw [← e]
  exact ⟨.bl (!(valV kvs k).isSome), H, I.tok _, rfl, q⟩
/-! get -/
theorem nd_is {X : Cx} {pins : List (Addr × Obj)} {σ : L2.St} {H : Hp} {s : Shared} {d : Addr} {kvs : List (Id3 × V)} (I : Inv X pins σ H s) (h : ND X.prog X.w H d kvs) : s.TypeIs (.ref d) "dict" ∧ (∀ b, Value.ref d = .ref b → ∃ ob, s.heap.get? b = some ob ∧ ob.dict = none) := by
  obtain ⟨h2, xs, rel, dd, hz⟩ := nd_of I h
  refine ⟨dd.typeIs, fun b q => ?_⟩
  cases q
  obtain ⟨ob, _, _, h1, h2, _⟩ := dd
  exact ⟨ob, h1, h2.2.1⟩
def tGetN1 (P : Program) (w : World) (td ty : TE) : TE := fun σ H Q => td σ H fun x H1 => ∃ d kv0, x = .ref d ∧ ND P w H1 d kv0 ∧ ty σ H1 fun y H2 => ∃ b k kvs, y = .ref b ∧ IdAt H2 b k ∧ ND P w H2 d kvs ∧ Q ((valV kvs k).getD .non) H2
def tGetN2 (P : Program) (w : World) (td ty tx : TE) : TE := fun σ H Q => td σ H fun x H1 => ∃ d kv0, x = .ref d ∧ ND P w H1 d kv0 ∧ ty σ H1 fun y H2 => tx σ H2 fun z H3 => ∃ b k kvs, y = .ref b ∧ IdAt H3 b k ∧ ND P w H3 d kvs ∧ Q ((valV kvs k).getD z) H3
section
variable {X : Cx} {o e f : Expr} {apos cpos : Pos} {td ty tx : TE}
theorem pe_getN1 {P : Program} {w : World} (ho : PE X o td) (he : PE X e ty) (m : M1 X o "get" apos e cpos := by exact ⟨rfl, rfl, rfl, rfl⟩) (hu : X.A.units + 65 < cLine := by exact hu65 (by assumption)) (hP : X.prog = P := by rfl) (hw : X.w = w := by rfl) : PE X (.Call (.Attribute o "get" apos) [e] [] cpos) (tGetN1 P w td ty) := by
  subst hP hw
  refine ⟨fun pins s σ H Q I h => ?_⟩
  refine wpAny_Call_method m.base m.few m.line PySem.F.plainAttrs_dict PySem.F.slot_dict_get PySem.F.type_dict_get (thn (ho.run pins s σ H _ I h) fun u s1 ⟨x, H1, I1, rx, d, kv0, ex, hd, q1⟩ => ?_)
  subst ex
  obtain rfl : u = Value.ref d := rx
  obtain ⟨t1, t2⟩ := nd_is I1 hd
  refine ⟨t1, t2, ?_⟩
  rw [m.trees]
  refine Calls.callWith_builtin rfl (Calls.evalArgs_plain (Calls.spliced_cons (thn (he.run pins s1 σ H1 _ I1 q1) fun iv s2 ⟨y, H2, I2, ry, b, k, kvs, ey, hb, hd2, q2⟩ => Calls.spliced_nil ?_)))
  subst ey
  obtain rfl : iv = Value.ref b := ry
  obtain ⟨h2, xs, rel, dd, hz⟩ := nd_of I2 hd2
  refine call_meetsIn PySem.F.slot_dict_get dd.typeIs PySem.F.entry_dict_get (PySem.F.args_dict_get_2 _ _) (meetsH_dict_get (tupleKind (noneKind X.prog X.w)) d b h2) ⟨tupleKind_room_in1 (by omega), k.nk, xs, id_key I2.hok hb, dd, ⟨_, H2, I2.tok _, ?_, q2⟩⟩
  exact (rel.val k).getD rfl
theorem pe_getN2 {P : Program} {w : World} (ho : PE X o td) (he : PE X e ty) (hf : PE X f tx) (m : M2 X o "get" apos e f cpos := by exact ⟨rfl, rfl, rfl, rfl⟩) (hu : X.A.units + 65 < cLine := by exact hu65 (by assumption)) (hP : X.prog = P := by rfl) (hw : X.w = w := by rfl) : PE X (.Call (.Attribute o "get" apos) [e, f] [] cpos) (tGetN2 P w td ty tx) := by
  subst hP hw
  refine ⟨fun pins s σ H Q I h => ?_⟩
  refine wpAny_Call_method m.base m.few m.line PySem.F.plainAttrs_dict PySem.F.slot_dict_get PySem.F.type_dict_get (thn (ho.run pins s σ H _ I h) fun u s1 ⟨x, H1, I1, rx, d, kv0, ex, hd, q1⟩ => ?_)
  subst ex
  obtain rfl : u = Value.ref d := rx
  obtain ⟨t1, t2⟩ := nd_is I1 hd
  refine ⟨t1, t2, ?_⟩
  rw [m.trees]
  refine Calls.callWith_builtin rfl (Calls.evalArgs_plain (Calls.spliced_cons (thn (he.run pins s1 σ H1 _ I1 q1) fun iv s2 ⟨y, H2, I2, ry, q2⟩ =>
    Calls.spliced_cons (thn (hf.run pins s2 σ H2 _ I2 q2) fun fv s3 ⟨z, H3, I3, rz, b, k, kvs, ey, hb, hd2, q3⟩ => Calls.spliced_nil ?_))))
  subst ey
  obtain rfl : iv = Value.ref b := ry
  obtain ⟨h2, xs, rel, dd, hz⟩ := nd_of I3 hd2
  refine call_meetsIn PySem.F.slot_dict_get dd.typeIs PySem.F.entry_dict_get (PySem.F.args_dict_get_3 _ _ _) (meetsH_dict_get_default (tupleKind (noneKind X.prog X.w)) d b h2 fv) ⟨tupleKind_room_in1 (by omega), k.nk, xs, id_key I3.hok hb, dd, ⟨_, H3, I3.tok _, ?_, q3⟩⟩
  exact (rel.val k).getD rz
end
/-! d[k] = v -/
def sPutN (P : Program) (w : World) (td ty tv : TE) : TS := fun D σ H => tv σ H fun v H1 => td σ H1 fun x H2 => ty σ H2 fun y H3 => ∃ d b k kvs, x = .ref d ∧ y = .ref b ∧ IdAt H3 b k ∧ ND P w H3 d kvs ∧ kvs.length < 100000 ∧ ∀ H4, ND P w H4 d (putK kvs k v) → (∀ a, a ≠ d → H4 a = H3 a) → D.nx σ H4
theorem ps_putN {X : Cx} {o i value : Expr} {pos pos' : Pos} {td ty tv : TE} (hu : X.A.units + 65 < cLine) (ho : PE X o td) (hi : PE X i ty) (hv : PE X value tv) (hs : swapsWith value (some (.Subscript o i pos')) pos.line X.env = pure false) :
    PS X (.Assign [.Subscript o i pos'] value pos) (sPutN X.prog X.w td ty tv) := by
  refine ⟨fun pins s σ H D I h => ?_⟩
  refine wpAny_Assign_Subscript (thn (hv.run pins s σ H _ I h) fun r s1 ⟨v, H1, I1, rv, q1⟩ => thn (ho.run pins s1 σ H1 _ I1 q1) fun u s2 ⟨x, H2, I2, rx, q2⟩ => thn (hi.run pins s2 σ H2 _ I2 q2) fun iv s3 ⟨y, H3, I3, ry, d, b, k, kvs, ex, ey, hb, hd, hl, q3⟩ => ?_) hs
  subst ex ey
  obtain rfl : u = Value.ref d := rx
  obtain rfl : iv = Value.ref b := ry
  obtain ⟨h2, xs, rel, dd, hz⟩ := nd_of I3 hd
  refine wpAny_setItem_heap (hsz := hz) (tupleKind_room_in1 (by omega)) (id_key I3.hok hb) dd fun h' dd' hs => ?_
  obtain ⟨H4, I4, g1, g2⟩ := nd_write (t' := s3.toks + (tupleKind (noneKind X.prog X.w)).draws k.nk) I3 hd (by have := length_putK kvs k v; omega) (rel.put k hb rv) dd' hs
  exact ⟨σ, H4, I4, q3 H4 g1 g2⟩
end Cs

namespace Cs
open PySem PySem.Spec PyProof.Rows L2
/-! ### the keys in their order -/
def Itn (P : Program) (w : World) (d : Addr) (o : Obj) (kvs : List (Id3 × V)) : It :=
  ⟨fun i H => NDo P w H d o kvs ∧ i < kvs.length, fun i H x H' => H' = H ∧ ∃ k v b, kvs[i]? = some (k, v) ∧ x = .ref b ∧ IdAt H b k, fun i H => NDo P w H d o kvs ∧ kvs.length ≤ i⟩
section
variable {X : Cx} {pins : List (Addr × Obj)} {σ : L2.St} {H : Hp} {s : Shared} {d : Addr} {kvs : List (Id3 × V)} {o : Obj}
theorem ndo_raw (I : Inv X pins σ H s) (h : NDo X.prog X.w H d o kvs) : (d == sysModules) = false ∧ s.heap.get? d = some o ∧ o.ExactDict ∧ ∃ (es : Array DictEntry) (ep : Nat), o.data = .dict es ep ∧ es.size = kvs.length ∧
    ∀ (i : Nat) (k : Id3) (v : V), kvs[i]? = some (k, v) → ∃ (en : DictEntry) (q : Addr), es[i]? = some en ∧ en.key = .ref q ∧ IdAt H q k := by
  obtain ⟨h1, h2, h3, ess, ep, xs, g1, g2, g3, g4, g5⟩ := h
  refine ⟨h2, (I.hok d _ h3).1, g1, ess, ep, g2, ?_, fun i k v e => ?_⟩
  · have l1 : ess.size = xs.length := size_of_entries g3
    have l2 : kvs.length = xs.length := Paired.length g5
    omega
  · obtain ⟨b, hb, e1, e2, _⟩ := paired_get g5 e
    have q := entry_at g3 i
    rw [hb] at q
    exact ⟨_, b.2.1, q, rfl, e2⟩
end
theorem turn_keysN {P : Program} {w : World} {K : PySem.W.Frag} {tg : Expr} {d : Addr} {o : Obj} {es : Array DictEntry} {ep : Nat} {kvs : List (Id3 × V)} (it : Addr) (hod : o.data = .dict es ep) : Turn P w K tg (Itn P w d o kvs) [it] it (fun i h => h.IsKeyIter it d i kvs.length ep) where
  mem := by simp
  obj := fun i h st b hb => by
    have e : b = it := by simpa using hb
    subst e
    obtain ⟨oi, e, c, dd⟩ := st
    exact ⟨oi, e, fun v z => by rw [dd] at z; cases z⟩
  keep := fun i h h' st k => st.at fun oi e => k it (by simp) oi e
  item := by
    intro X hP hw hK hc i pins s σ H E I hf st hg
    subst hP hw hK
    obtain ⟨hd, hi⟩ := hg
    obtain ⟨f0, f1, f2, f3, f4, f5⟩ := hf it (by simp)
    obtain ⟨hs, hgd, hx, es', ep', hdt, hsz, ent⟩ := ndo_raw I hd
    obtain ⟨rfl, rfl⟩ := dict_ep hod hdt
    obtain ⟨⟨k, v⟩, hkv⟩ : ∃ p, kvs[i]? = some p := ⟨kvs[i], List.getElem?_eq_getElem hi⟩
    obtain ⟨en, q, hen, hkey, hq⟩ := ent i k v hkv
    refine next_key_item st hgd hdt hsz hen fun h' st' sb => ?_
    have I1 : Inv X pins σ H { s with heap := h' } := I.turned (t' := s.toks) (fun b ob hb e => (sb.2 b hb).trans e) f0 f1 f3 f4 f5
    obtain ⟨oi, e, c, dd⟩ := id st'
    exact ⟨en.key, rfl, go_of (s := { s with heap := h' }) e c dd (by decide) ⟨.ref q, H, I1, hkey, ⟨rfl, k, v, q, hkv, rfl, hq⟩, st', fun b hb => (hf b hb).1⟩⟩
  done := by
    intro X hP hw hK hc i pins s σ H E I hf st hg
    subst hP hw hK
    obtain ⟨hd, hi⟩ := hg
    obtain ⟨f0, f1, f2, f3, f4, f5⟩ := hf it (by simp)
    obtain ⟨hs, hgd, hx, es', ep', hdt, hsz, ent⟩ := ndo_raw I hd
    obtain ⟨rfl, rfl⟩ := dict_ep hod hdt
    exact next_key_end (I.ok.hd hc) st hgd hdt hsz hi fun h' eb => ⟨rfl, I.turned (t' := s.toks) (fun b ob hb e => eb b ob hb e) f0 f1 f3 f4 f5⟩
  self := fun A i s Q E st h => wpAny_pyIter_keyiter st h
def iKeysN (P : Program) (w : World) (td : TE) : TI := fun σ H R => td σ H fun x H1 => ∃ d o kvs, x = .ref d ∧ NDo P w H1 d o kvs ∧ R (Itn P w d o kvs) H1
theorem pi_keysN {X : Cx} {tg e : Expr} {td : TE} (he : PE X e td) : PI X tg e (iKeysN X.prog X.w td) := by
  refine ⟨fun pins s σ H R I h => ?_⟩
  refine thn (he.run pins s σ H _ I h) fun u s1 ⟨x, H1, I1, rx, d, o, kvs, ex, hd, q⟩ => ?_
  subst ex
  obtain rfl : u = Value.ref d := rx
  obtain ⟨hs, hgd, hx, es, ep, hdt, hsz, ent⟩ := ndo_raw I1 hd
  refine iter_keys hs hgd hx hdt (pi_one (tk := s1.toks) I1 _ (turn_keysN _ hdt) ⟨_, Heap.get?_push_size _ rfl, rfl, ?_⟩ q)
  rw [hsz] <;> rfl
/-! list(d) -/
theorem isN_of {H : Hp} {kvs : List (Id3 × V)} {xs : List (List (Option Key) × Addr × Value)} (r : NRel H kvs xs) : Paired (fun (q : Id3 × V) b => IdAt H b q.1) kvs (xs.map fun x => x.2.1) := by
  unfold NRel at r
  induction r with
  | nil => exact Paired.nil
  | cons h t ih => exact Paired.cons h.2.1 ih
def rListDN (P : Program) (w : World) : List V → Hp → VK → Prop := fun xs H Q => ∃ d kvs, xs = [V.ref d] ∧ ND P w H d kvs ∧ ∀ p bs, H p = none → Paired (fun q b => IdAt H b q.1) kvs bs → Q (.ref p) (upd H p (.lst (bs.map V.ref)))
theorem call_list_dN {X : Cx} (hc : X.calm = true) : CallR X (.type "list") (rListDN X.prog X.w) := by
  intro pins s σ H xs us Q I r h
  obtain ⟨d, kvs, rfl, ⟨o, hd⟩, q⟩ := h
  obtain ⟨u, rfl, rx⟩ := r.one
  cases rx
  obtain ⟨hs, ho, hx, _⟩ := ndo_raw I hd
  obtain ⟨h1, _, _, es, ep, ks, _, hdt, he, hn, pr⟩ := hd
  have l1 : es.size = ks.length := size_of_entries he
  have l2 : kvs.length = ks.length := Paired.length pr
  have hz : (100000 : Nat) ≤ sizeLine := Nat.le_of_ble_eq_true rfl
  refine PySem.W.kdl_call (kdl_raw hs hx hdt) (I.ok.hd hc) ho (by omega) fun h' tk acc' c' kp e it => ?_
  have ea : acc'.toList = ks.map fun x => Value.ref x.2.1 := by
    have hl : acc'.toList.length = ks.length := by rw [Array.length_toList, it.1]; exact l1
    apply List.ext_getElem?
    intro j
    rw [List.getElem?_map]
    cases hj : acc'.toList[j]? with
    | none =>
      have h1 := List.getElem?_eq_none_iff.mp hj
      rw [List.getElem?_eq_none (by omega)]
      all_goals rfl
    | some v =>
      obtain ⟨en, hen, hv⟩ := it.2 j v (by rw [← Array.getElem?_toList]; exact hj)
      have qe := entry_at he j
      rw [hen] at qe
      cases hb : ks[j]? with
      | none =>
        rw [hb] at qe
        exact nomatch (show some en = none from qe)
      | some b =>
        rw [hb] at qe
        have e2 : en = entryOfKey (tupleKind (noneKind X.prog X.w)) b := Option.some.inj qe
        rw [hv, e2]
        all_goals rfl
  have eb : acc'.toList = (ks.map fun x => x.2.1).map Value.ref := by rw [ea, List.map_map]; all_goals rfl
  have rv : Vals ((ks.map fun x => x.2.1).map V.ref) acc'.toList := by rw [eb]; exact vals_refs _
  have hz2 : ((ks.map fun x => x.2.1).map V.ref).length ≤ sizeLine := by rw [List.length_map, List.length_map]; omega
  refine ⟨.ref s.heap.objs.size, _, I.laid (t' := tk) (o := .lst ((ks.map fun x => x.2.1).map V.ref)) kp (Nat.le_refl _) ?_, rfl, q _ _ (I.hok.fresh (Nat.le_refl _)) (isN_of pr)⟩
  exact ⟨hz2, acc'.toList, c', rv, by rw [Array.toArray_toList]; exact e⟩
/-! ### {identity: value for ..} -/
theorem nd_empty {P : Program} {w : World} {H : Hp} {D : Addr} (hb : (D == sysModules) = false) : ND P w (upd H D (Kn D { cls := .type "dict", data := .dict #[] })) D [] :=
  ⟨_, Nat.zero_le _, hb, upd_same, #[], 0, [], ⟨rfl, rfl, rfl⟩, rfl, rfl, List.nodup_nil, .nil⟩
theorem d_dictSetN {X : Cx} {pins : List (Addr × Obj)} {σ : L2.St} {H : Hp} {s : Shared} {E : Value → Shared → Prop} {D b : Addr} {kvs : List (Id3 × V)} {k : Id3} {v : V} {r : Value} {Q : Unit → Shared → Prop} (hu : X.A.units + 65 < cLine) (I : Inv X pins σ H s) (hD : ND X.prog X.w H D kvs) (hz : kvs.length < 100000)
    (hb : IdAt H b k) (rv : RelV v r) (h : ∀ H' s', Inv X pins σ H' s' → ND X.prog X.w H' D (putK kvs k v) → (∀ a, a ≠ D → H' a = H a) → Q () s') : wpAny (model X.prog X.w) X.A (dictSet D (.ref b) r) Q E s := by
  obtain ⟨hd, xs, rel, dd, hx⟩ := nd_of I hD
  refine wpAny_dictSet_heap (hsz := hx) (show X.A.units < cLine by omega) (id_key I.hok hb) dd fun h' dd' hs => ?_
  obtain ⟨H4, I4, g1, g2⟩ := nd_write (t' := s.toks + (tupleKind (noneKind X.prog X.w)).draws k.nk) I hD (by have := length_putK kvs k v; omega) (rel.put k hb rv) dd' hs
  exact h H4 _ I4 g1 g2
/-- D the new dict -/
def tDcN (P : Program) (w : World) (wi : TI) (g : TG) (tt : TT) (tk tv : TE) (vs : List Nat) : TE := fun σ H Q => wi σ H fun J H1 => ∀ D o0, H1 D = none → ND P w (upd H1 D o0) D [] → ∃ W : Nat → Nat → Hp → Prop, (∃ m, W 0 m (upd H1 D o0)) ∧ ∀ i m H, W i m H →
  (J.stop i H ∧ Q (.ref D) H) ∨ (J.go i H ∧ ∃ Nx : Hp → Prop, (∀ H', Nx H' → ∃ m', m' < m ∧ W (i + 1) m' H') ∧ ∀ x H', J.yld i H x H' → g x (wipe σ vs) H' fun σ2 H2 => wipe σ2 vs = wipe σ vs ∧ tt σ2 H2 fun b H3 =>
    if b = true then tk σ2 H3 fun y H4 => tv σ2 H4 fun z H5 => ∃ b k kvs, y = .ref b ∧ IdAt H5 b k ∧ ND P w H5 D kvs ∧ kvs.length < 100000 ∧ ∀ H6, ND P w H6 D (putK kvs k z) → (∀ a, a ≠ D → H6 a = H5 a) → Nx H6 else Nx H3)
section
variable {X : Cx}
theorem dcN_core {pins : List (Addr × Obj)} {s : Shared} {σ : L2.St} {H : Hp} {Q : VK} {kx vx tg iter : Expr} {ifs : List Expr} {scope : Scope} {own : List (Str × Nat)} {pos pos' : Pos} {wi : TI} {g : TG} {tt : TT} {tk tv : TE} {use : Option (Value → Sem Unit)} {Qf : Value → Shared → Prop}
    (hu : X.A.units + 65 < cLine) (hc : X.calm = true) (hN : X.N.Nodup) (I : Inv X pins σ H s) (hi : PI X tg iter wi) (ok : BlkOk X.N X.env.scope scope own)
    (hg : ∀ (s : Shared) (H : Hp) (C : Addr) (cl : List (Str × Addr)) (fp : List Addr), PG (X.blk s H scope (compEnvC scope cl C X.env) fp) tg g) (ht : ∀ (s : Shared) (H : Hp) (C : Addr) (cl : List (Str × Addr)) (fp : List Addr), PTs (X.blk s H scope (compEnvC scope cl C X.env) fp) ifs tt)
    (hk : ∀ (s : Shared) (H : Hp) (C : Addr) (cl : List (Str × Addr)) (fp : List Addr), PE (X.blk s H scope (compEnvC scope cl C X.env) fp) kx tk)
    (he : ∀ (s : Shared) (H : Hp) (C : Addr) (cl : List (Str × Addr)) (fp : List Addr), PE (X.blk s H scope (compEnvC scope cl C X.env) fp) vx tv) (hs : ∀ x, foldedSetIterable iter X.env x = pure x)
    (h : tDcN X.prog X.w wi g tt tk tv (own.map (·.2)) σ H Q)
    (hRR : ∀ D C s' m H', Inv X pins σ H' s' → Q (.ref D) H' → s'.heap.Ns C m → FpOk X pins H' C → compPost (model X.prog X.w) X.A X.xe use Qf (.ref D) C (.ok .next) s') :
    wpAny (model X.prog X.w) X.A (comprehension (.DictComp kx vx [⟨tg, iter, ifs, 0⟩] scope pos) scope X.env pos' newDict false (eval iter X.env) use) Qf X.xe s := by
  have hfree : ∀ y ∈ scope.names, y.2 = .free → ∃ c, X.env.cells.lookup y.1 = some c := fun y hy e => by
    rcases ok.free y hy e with k | k
    · exact I.ok.has _ (.inl k)
    · exact I.ok.has _ (.inr k)
  refine wpAny_comprehension_free (use := use) rfl hs (closure_ok hfree) ok.kind (fun y hy e => by rw [ok.uniq y hy, e])
    (thn (hi.run pins s σ H _ I h) fun xv s1 hx => thn hx fun itv s2 h2 => ?_)
  obtain ⟨it, fp, tn, J, H2, e, I2, T, st2, f2, q⟩ := h2
  subst e
  refine wpAny_newObj_type (newEnv_comp ?_)
  have hDm : (s2.heap.objs.size == sysModules) = false := beq_eq_false_iff_ne.mpr (Nat.ne_of_gt I2.big)
  generalize hD : s2.heap.objs.size = D at hDm
  have hDn : H2 D = none := I2.hok.fresh (Nat.le_of_eq hD)
  obtain ⟨W, ⟨m0, w0⟩, turn⟩ := q D (Kn D { cls := .type "dict", data := .dict #[] }) hDn (nd_empty hDm)
  generalize hs3 : ({ s2 with heap := s2.heap.push { cls := .type "dict", data := .dict #[] } } : Shared) = s3
  have I3 : Inv X pins σ (upd H2 D (Kn D { cls := .type "dict", data := .dict #[] })) s3 := by
    rw [← hs3]
    refine I2.laid (t' := s2.toks) (fun b o e => Heap.get?_push_of_some _ e) (Nat.le_of_eq hD) ?_
    rw [← hD]
    exact kn_ok (Heap.get?_push_size _ rfl)
  have h3 : s3.heap = s2.heap.push { cls := .type "dict", data := .dict #[] } := by rw [← hs3]
  have sz : ∀ b ∈ fp, b < s2.heap.objs.size := fun b hb => by
    obtain ⟨o, e, _⟩ := T.obj _ _ st2 b hb
    exact Heap.lt_size e
  have f3 : ∀ b ∈ fp, FpOk X pins (upd H2 D (Kn D { cls := .type "dict", data := .dict #[] })) b ∧ b < s3.heap.objs.size := fun b hb => by
    have hlt := sz b hb
    refine ⟨⟨?_, (f2 b hb).2⟩, by rw [h3, Heap.size_push]; exact Nat.lt_succ_of_lt hlt⟩
    rw [upd_ne (by rw [← hD]; exact Nat.ne_of_lt hlt)]
    exact (f2 b hb).1
  have st3 : tn 0 s3.heap := T.keep _ _ _ st2 fun b _ o e => by rw [h3]; exact Heap.get?_push_of_some _ e
  have I4 := block_start I3 ok hN f3
  have pg := hg s3 (upd H2 D (Kn D { cls := .type "dict", data := .dict #[] })) s3.heap.objs.size (cellsFrom (s3.heap.objs.size + 1) scope.names (cloFrom X.env.cells scope.names [])) fp
  have pt := ht s3 (upd H2 D (Kn D { cls := .type "dict", data := .dict #[] })) s3.heap.objs.size (cellsFrom (s3.heap.objs.size + 1) scope.names (cloFrom X.env.cells scope.names [])) fp
  have pk := hk s3 (upd H2 D (Kn D { cls := .type "dict", data := .dict #[] })) s3.heap.objs.size (cellsFrom (s3.heap.objs.size + 1) scope.names (cloFrom X.env.cells scope.names [])) fp
  have pe := he s3 (upd H2 D (Kn D { cls := .type "dict", data := .dict #[] })) s3.heap.objs.size (cellsFrom (s3.heap.objs.size + 1) scope.names (cloFrom X.env.cells scope.names [])) fp
  show codeAny _ _ (.compStart (.DictComp kx vx [⟨tg, iter, ifs, 0⟩] scope pos) 0 (.ref it) (.ref D) (compEnvC scope (cellsFrom (s3.heap.objs.size + 1) scope.names (cloFrom X.env.cells scope.names [])) s3.heap.objs.size X.env)) (compPost (model X.prog X.w) X.A X.xe use Qf (.ref D) s3.heap.objs.size) { s3 with heap := pushCells (s3.heap.push { cls := .type "dict", data := .dict #[] }) scope.names }
  have nfp : ∀ b ∈ fp, (upd H2 D (Kn D { cls := .type "dict", data := .dict #[] })) b = none := fun b hb => (f3 b hb).1.1
  generalize hce : compEnvC scope (cellsFrom (s3.heap.objs.size + 1) scope.names (cloFrom X.env.cells scope.names [])) s3.heap.objs.size X.env = ce at I4 pg pt pk pe ⊢
  have cL : ce.locals = s3.heap.objs.size := by subst hce; rfl
  generalize hH3 : upd H2 D (Kn D { cls := .type "dict", data := .dict #[] }) = H3 at I3 I4 pg pt pk pe w0 nfp f3
  generalize hs4 : ({ s3 with heap := pushCells (s3.heap.push { cls := .type "dict", data := .dict #[] }) scope.names } : Shared) = s4 at I4 ⊢
  have st4 : tn 0 s4.heap := T.keep _ _ _ st3 fun b _ o e => by rw [← hs4]; exact pushCells_keeps _ _ _ _ (Heap.get?_push_of_some _ e)
  have stat : ∀ {σ' : L2.St} {H' : Hp} {s' : Shared}, Inv (X.blk s3 H3 scope ce fp) [] σ' H' s' → (∀ b ∈ fp, H' b = none) → ∀ b ∈ fp, FpOk (X.blk s3 H3 scope ce fp) [] H' b := fun {σ' H' s'} I' hn b hb =>
    ⟨hn b hb, (I'.ok.exf b hb).1, I'.ok.exfs b hb, .inl hb, fun x c e => (I'.ok.exf b hb).2 x c e, fun p hp => absurd (show p ∈ ([] : List (Addr × Obj)) ++ [] from hp) (by simp)⟩
  have loop : codeAny (model X.prog X.w) X.A (.compLoop (.DictComp kx vx [⟨tg, iter, ifs, 0⟩] scope pos) 0 (.ref it) (.ref D) ce) (compPost (model X.prog X.w) X.A X.xe use Qf (.ref D) s3.heap.objs.size) s4 := by
    refine compLoop_anyD (fun n s' => ∃ i H', Inv (X.blk s3 H3 scope ce fp) [] (wipe σ (own.map (·.2))) H' s' ∧ tn i s'.heap ∧ (∀ b ∈ fp, H' b = none) ∧ W i n H') ?_ m0 ⟨0, H3, I4, st4, nfp, w0⟩
    rintro n s5 ⟨i, H5, I5, st5, n5, w5⟩
    rcases turn i n H5 w5 with ⟨stop, qq⟩ | ⟨go, Nx, hNx, step⟩
    · have td := T.done (X.blk s3 H3 scope ce fp) rfl rfl rfl hc i [] s5 _ H5 (fun _ _ => False) I5 (stat I5 n5) st5 stop
      refine thnF td fun r s6 ⟨hr, I6⟩ => ?_
      subst hr
      have I7 : Inv X pins σ H5 s6 := I3.call' (ch := fp) I6.os I6.base I6.hok I6.bare fun b hb => ⟨(f3 b hb).1.2.2.2.1, (f3 b hb).1.2.1, (f3 b hb).1.2.2.2.2.1, (f3 b hb).1.2.2.2.2.2⟩
      have nC : H5 s3.heap.objs.size = none := by
        have z : H5 ce.locals = none := I6.free
        rw [cL] at z
        exact z
      obtain ⟨m, hn, _⟩ := I6.loc
      have hn : s6.heap.Ns ce.locals m := hn
      rw [cL] at hn
      exact hRR D s3.heap.objs.size s6 m H5 I7 qq hn (I3.fpOk (Nat.le_refl _) nC)
    · have ti := T.item (X.blk s3 H3 scope ce fp) rfl rfl rfl hc i [] s5 _ H5 (fun _ _ => False) I5 (stat I5 n5) st5 go
      refine thnF ti fun r s6 ⟨u, hr, h6⟩ => ?_
      subst hr
      refine thnF h6 fun _ s7 ⟨x, H7, I7, r7, y7, st7, n7⟩ => ?_
      have I7' := I7.pinned (stat I7 n7) (T.obj _ _ st7)
      refine thnF (pg.run _ s7 _ H7 x u _ I7' r7 (step x H7 y7)) fun _ s8 ⟨σ8, H8, I8, hw8, q8⟩ => ?_
      refine thnF (pt.run _ s8 σ8 H8 _ I8 q8) fun b s9 ⟨H9, I9, q9⟩ => ?_
      have fin : ∀ {s' : Shared} {H' : Hp}, Inv (X.blk s3 H3 scope ce fp) ([] ++ pinsAt fp s7.heap) σ8 H' s' → Nx H' → ∃ m, m < n ∧ ∃ i H', Inv (X.blk s3 H3 scope ce fp) [] (wipe σ (own.map (·.2))) H' s' ∧ tn i s'.heap ∧ (∀ b ∈ fp, H' b = none) ∧ W i m H' := fun {s' H'} I' nx => by
        obtain ⟨m', hm, w'⟩ := hNx H' nx
        have pin' : ∀ b ∈ fp, ∀ o, s7.heap.get? b = some o → s'.heap.get? b = some o ∧ H' b = none := fun b hb o e =>
          let z := I'.pin (b, o) (List.mem_append_right _ (List.mem_append_right _ (mem_pinsAt hb e)))
          ⟨z.1, z.2.1⟩
        have hl : (wipe σ (own.map (·.2))).length = σ8.length := by rw [← hw8, wipe_length]
        refine ⟨m', hm, i + 1, H', (I'.unpinned (pins := [])).weak hl (fun j v e => ?_), T.keep _ _ _ st7 fun b hb o e => (pin' b hb o e).1, fun b hb => ?_, w'⟩
        · rw [← hw8] at e
          exact (wipe_some e).1
        · obtain ⟨o, e, _⟩ := T.obj _ _ st7 b hb
          exact (pin' b hb o e).2
      cases b with
      | false =>
        simp only [Bool.false_eq_true, if_false] at q9 ⊢
        exact fin I9 q9
      | true =>
        simp only [if_true] at q9 ⊢
        refine thnF (pk.run _ s9 σ8 H9 _ I9 q9) fun z s10 ⟨yk, H10, I10, r10, q10⟩ => ?_
        refine thnF (pe.run _ s10 σ8 H10 _ I10 q10) fun z2 s11 ⟨yv, H11, I11, r11, b, k, kvs, ek, hb11, hD11, hz11, nx⟩ => ?_
        subst ek
        obtain rfl : z = Value.ref b := r10
        exact d_dictSetN (X := X.blk s3 H3 scope ce fp) hu I11 hD11 hz11 hb11 r11 fun H12 s12 I12 g1 g2 => fin I12 (nx H12 g1 g2)
  exact codeAny_compStart_dict loop (T.self X.A 0 _ _ _ st4 loop)
theorem pe_dcN {kx vx tg iter : Expr} {ifs : List Expr} {scope : Scope} {own : List (Str × Nat)} {pos : Pos} {wi : TI} {g : TG} {tt : TT} {tk tv : TE} (hu : X.A.units + 65 < cLine) (hc : X.calm = true) (hN : X.N.Nodup) (hi : PI X tg iter wi) (ok : BlkOk X.N X.env.scope scope own)
    (hg : ∀ (s : Shared) (H : Hp) (C : Addr) (cl : List (Str × Addr)) (fp : List Addr), PG (X.blk s H scope (compEnvC scope cl C X.env) fp) tg g) (ht : ∀ (s : Shared) (H : Hp) (C : Addr) (cl : List (Str × Addr)) (fp : List Addr), PTs (X.blk s H scope (compEnvC scope cl C X.env) fp) ifs tt)
    (hk : ∀ (s : Shared) (H : Hp) (C : Addr) (cl : List (Str × Addr)) (fp : List Addr), PE (X.blk s H scope (compEnvC scope cl C X.env) fp) kx tk)
    (he : ∀ (s : Shared) (H : Hp) (C : Addr) (cl : List (Str × Addr)) (fp : List Addr), PE (X.blk s H scope (compEnvC scope cl C X.env) fp) vx tv) (hs : ∀ x, foldedSetIterable iter X.env x = pure x := by intro _; rfl) :
    PE X (.DictComp kx vx [⟨tg, iter, ifs, 0⟩] scope pos) (tDcN X.prog X.w wi g tt tk tv (own.map (·.2))) := by
  refine ⟨fun pins s σ H Q I h => ?_⟩
  rw [arm_eval_DictComp]
  refine dcN_core hu hc hN I hi ok hg ht hk he hs h fun D C s' m H' I' q hn f => ⟨m, hn, fun h'' sb => ?_⟩
  obtain ⟨f0, f1, f2, f3, f4, f5⟩ := f
  exact ⟨.ref D, H', I'.turned (t' := s'.toks) (fun b o hb e => (sb.2 b hb).trans e) f0 f1 f3 f4 f5, rfl, q⟩
/-- name = {..} on one line, the name a local -/
theorem ps_setDcN {i : Nat} {y : Str} {py : Pos} {kx vx tg iter : Expr} {ifs : List Expr} {scope : Scope} {own : List (Str × Nat)} {pos spos : Pos} {wi : TI} {g : TG} {tt : TT} {tk tv : TE} (hu : X.A.units + 65 < cLine) (hc : X.calm = true) (hN : X.N.Nodup) (hy : X.N[i]? = some y) (hyl : X.env.scope.names.lookup y = some .local)
    (hsw : swapsWith (.DictComp kx vx [⟨tg, iter, ifs, 0⟩] scope pos) (some (.Name y py)) spos.line X.env = pure true) (hi : PI X tg iter wi) (ok : BlkOk X.N X.env.scope scope own)
    (hg : ∀ (s : Shared) (H : Hp) (C : Addr) (cl : List (Str × Addr)) (fp : List Addr), PG (X.blk s H scope (compEnvC scope cl C X.env) fp) tg g) (ht : ∀ (s : Shared) (H : Hp) (C : Addr) (cl : List (Str × Addr)) (fp : List Addr), PTs (X.blk s H scope (compEnvC scope cl C X.env) fp) ifs tt)
    (hk : ∀ (s : Shared) (H : Hp) (C : Addr) (cl : List (Str × Addr)) (fp : List Addr), PE (X.blk s H scope (compEnvC scope cl C X.env) fp) kx tk)
    (he : ∀ (s : Shared) (H : Hp) (C : Addr) (cl : List (Str × Addr)) (fp : List Addr), PE (X.blk s H scope (compEnvC scope cl C X.env) fp) vx tv) (hs : ∀ x, foldedSetIterable iter X.env x = pure x := by intro _; rfl) :
    PS X (.Assign [.Name y py] (.DictComp kx vx [⟨tg, iter, ifs, 0⟩] scope pos) spos) (tAsg (tDcN X.prog X.w wi g tt tk tv (own.map (·.2))) (gName i)) := by
  refine ⟨fun pins s σ H D I h => ?_⟩
  rw [exec_Assign_Name_used _ _ _ _ hsw]
  refine wpAny_bind (wpAny_standAt (wpAny_bind ?_))
  show wpAny _ X.A (do let _ ← comprehension (.DictComp kx vx [⟨tg, iter, ifs, 0⟩] scope pos) scope X.env (firstIterPos [⟨tg, iter, ifs, 0⟩] pos) newDict false (eval iter X.env) (some (assign (.Name y py) X.env))) _ _ s
  have h : tDcN X.prog X.w wi g tt tk tv (own.map (·.2)) σ H (fun x H1 => gName i x σ H1 D.nx) := h
  refine wpAny_bind (thn (dcN_core (Qf := fun _ s' => SP X pins D .next s') hu hc hN I hi ok hg ht hk he hs h fun L C s' m H' I' q hn f => ?_) fun _ s' hq => wpAny_pure (wpAny_pure hq))
  show wpAny _ _ (assign (.Name y py) X.env (.ref L)) _ _ _
  refine wpAny_assign_Name (store_ok2 (v := V.ref L) I' hN hy (.inl hyl) rfl (fun s2 I2 ⟨a, sb, ha⟩ => ?_) (.inr hyl))
  obtain ⟨f0, f1, f2, f3, f4, f5⟩ := f
  have haC : C ≠ a := by
    rcases ha with z | z
    · rw [z]; exact f1
    · exact fun e => f4 y a z e.symm
  refine ⟨m, hn.sameBut sb haC, fun h3 sb3 => ?_⟩
  exact ⟨_, H', I2.turned (t' := s2.toks) (fun b o hb e => (sb3.2 b hb).trans e) f0 f1 f3 f4 f5, q⟩
theorem sw_trueD {kx vx : Expr} {gs : List Comprehension} {scope : Scope} {pos py : Pos} {y : Str} {l : Nat} {env : Env} (hk : env.scope.kind = .function) (hy : env.scope.names.lookup y = some .local) (hl : (py.line == pos.line) = true)
    (ha : (scope.names.any fun (n, k) => n == y && (k == .local || k == .cell)) = false) : swapsWith (.DictComp kx vx gs scope pos) (some (.Name y py)) l env = pure true := by
  have ky : env.kindOf y = some .local := hy
  have hb : env.blockKind = .function := by unfold Env.blockKind; rw [hk]; rfl
  unfold swapsWith
  simp only [hb, ky, ha, Expr.pos, hl]
  rfl
end
end Cs

namespace Cs
open PySem PySem.Spec PyProof.Rows L2
/-! ### list(reversed(a list)) -/
section
variable {prog : Program} {w : World} {A : Around} {E : Value → Shared → Prop} {s : Shared}
theorem lr_init {R : Result → Shared → Prop} {it l S : Addr} {items : Array Value} (hh : A.handled = none) (hit : s.heap.IsRevIter it l ((items.size : Int) - 1)) (hl : s.heap.IsList l items) (hne : l ≠ it) (hn : items.size ≤ sizeLine) (hSi : S ≠ it) (hSl : S ≠ l) (hS : s.heap.get? S = some { cls := .type "list", data := .seq #[] })
    (hR : ∀ (h' : Heap) (tk : Nat) (acc' : Array Value) (c' : Nat), (∀ b o, b ≠ S → b ≠ it → s.heap.get? b = some o → h'.get? b = some o) → h'.get? S = some { cls := .type "list", dict := none, data := .seq acc' c', slots := #[] } → ItemsOf (fun i v => items[items.size - 1 - i]? = some v) acc' items.size → R (.ok (.ret .none)) { s with heap := h', toks := tk }) :
    wpAny (model prog w) A.in1 (Builtin.«list.__init__» ⟨[.ref S, .ref it], []⟩)
      (fun fin s' => match fin with | .done f => R (.ok f) s' | .again c' => c'.quiet = true ∧ codeAny (model prog w) A c' R s') (fun e s' => R (.error e) s') s := by
  have W := (Walks.listRev (prog := prog) (w := w) (A := A.in1) hh it l hne items).toS
  have hSf : S ∉ [it, l] := by simp only [List.mem_cons, List.not_mem_nil, or_false, not_or]; exact ⟨hSi, hSl⟩
  show wpAny _ _ (do let old ← Builtin.List.listItems (.ref S); Builtin.List.listUpdate (.ref S) (fun _ => #[]); letGo old.toList.reverse; Builtin.List.listExtendWith (.ref S) (.ref it) .none) _ _ s
  refine wpAny_bind ?_
  unfold Builtin.List.listItems
  refine wpAny_bind (wpAny_seqItems hS rfl (wpAny_pure ?_))
  show wpAny _ _ (updateSeq S (fun _ => #[]) >>= fun _ => letGo (#[] : Array Value).toList.reverse >>= fun _ => Builtin.List.listExtendWith (.ref S) (.ref it) .none) _ _ s
  refine wpAny_bind (wpAny_updateSeq hS rfl ?_)
  have hS₂ := Heap.get?_update_self (Obj.mapSeq (fun _ => (#[] : Array Value))) hS rfl
  have oth : ∀ b o, b ≠ S → s.heap.get? b = some o → (s.heap.update S (Obj.mapSeq (fun _ => (#[] : Array Value)))).get? b = some o :=
    fun b o hb e => (Heap.get?_update_other _ _ (Ne.symm hb)).trans e
  refine wpAny_bind (wpAny_letGo ?_)
  generalize hh2 : (s.heap.update S (Obj.mapSeq (fun _ => (#[] : Array Value)))) = h2 at hS₂ oth ⊢
  have hit1 : h2.IsRevIter it l ((items.size : Int) - 1) := hit.at fun o e => oth it o (Ne.symm hSi) e
  have hl1 : h2.IsList l items := by
    obtain ⟨o, e, r⟩ := hl
    exact ⟨o, oth l o (Ne.symm hSl) e, r⟩
  have hT : ({ s with heap := h2 } : Shared).TypeIs (.ref it) "list_reverseiterator" := Heap.IsRevIter.typeIs (s := { s with heap := h2 }) hit1
  have h1 : Builtin.List.listSameRef (.ref S) (.ref it) = false := by simp [Builtin.List.listSameRef, hSi]
  unfold Builtin.List.listExtendWith
  refine wpAny_bind (wpAny_typeOf hT ?_)
  rw [if_neg (by rw [h1]; decide)]
  refine wpAny_bind (wpAny_pyIter_revIter (s := { s with heap := h2 }) hit1 ?_)
  refine wpAny_bind (wpAny_holding ?_)
  unfold Builtin.List.listLengthHint
  refine wpAny_bind (wpAny_specialOf hT RT.nolen_lri ?_)
  show wpAny _ A.in1 (specialOf (Value.ref it) (Str.ofString "__length_hint__") >>= _) _ _ _
  refine wpAny_bind (wpAny_specialOf hT RT.hint_lri ?_)
  generalize hid : ("list_reverseiterator.__length_hint__" : String) = id0
  wp_delta
  rw [show splitId id0 = some ("list_reverseiterator", "__length_hint__") from by subst hid; decide +kernel]
  subst hid
  refine wpAny_bind (wpAny_isInstance (b := true) hT (by rw [isSubtype_type]; kernel_rfl) ?_)
  refine wpAny_pure ?_
  rw [if_neg (by decide)]
  have e0 : ((items.size : Nat) : Int) - 1 - ((0 : Nat) : Int) = (items.size : Int) - 1 := by omega
  refine wpAny_pure ⟨plainId_quiet F.plain_extend_loop _, codeAny_extend_loopS W hn _ hSf _ items.size 0 _ _ _ rfl (Nat.zero_le _) ⟨Nat.zero_le _, by rw [e0]; exact hit1, hl1⟩ hS₂ (ItemsOf.nil _) fun s' acc' c' hm hS' hacc => ?_⟩
  rw [Moved.eq_with hm]
  refine hR s'.heap s'.toks acc' c' (fun b o hb hbi e => hm.heap b o (fun hmem => ?_) (oth b o hb e)) hS' hacc
  rcases List.mem_cons.mp hmem with e' | hmem
  · exact hb e'
  · exact hbi (List.mem_singleton.mp hmem)
theorem call_list_rev {it l : Addr} {items : Array Value} {Q : Value → Shared → Prop} (hh : A.handled = none) (hit : s.heap.IsRevIter it l ((items.size : Int) - 1)) (hl : s.heap.IsList l items) (hne : l ≠ it) (hn : items.size ≤ sizeLine)
    (hQ : ∀ (h' : Heap) (tk : Nat) (acc' : Array Value) (c' : Nat), (∀ b o, b ≠ it → s.heap.get? b = some o → h'.get? b = some o) → h'.get? s.heap.objs.size = some { cls := .type "list", dict := none, data := .seq acc' c', slots := #[] } → ItemsOf (fun i v => items[items.size - 1 - i]? = some v) acc' items.size → Q (.ref s.heap.objs.size) { s with heap := h', toks := tk }) :
    wpAny (model prog w) A (call (.type "list") [.ref it]) Q E s := by
  obtain ⟨oi, hoi, _⟩ := id hit
  obtain ⟨ol, hol, _⟩ := id hl
  refine callType_codes (Q₁ := fun obj s₁ => obj = .ref s.heap.objs.size ∧ s₁ = { s with heap := s.heap.push { cls := .type "list", data := .seq #[] } }) PySem.F.called_list (PySem.F.typeCall_list_1 _) PySem.F.entry_list_init
    (code_list_new _ ⟨rfl, rfl⟩) fun obj s₁ h₁ => ?_
  obtain ⟨rfl, rfl⟩ := h₁
  have hS : (s.heap.push { cls := .type "list", data := .seq #[] }).get? s.heap.objs.size = some { cls := .type "list", data := .seq #[] } := Heap.get?_push_size _ rfl
  refine ⟨⟨_, hS, rfl⟩, PySem.F.args_list_init_2 _ _, lr_init (A := A.in1) hh (hit.at fun o e => Heap.get?_push_of_some _ e) (hl.push _) hne hn (Nat.ne_of_gt (Heap.lt_size hoi)) (Nat.ne_of_gt (Heap.lt_size hol)) hS (fun h' tk acc' c' hk hS' hacc => ?_)⟩
  exact ⟨rfl, hQ h' tk acc' c' (fun b o hb e => hk b o (Nat.ne_of_lt (Heap.lt_size e)) hb (Heap.get?_push_of_some _ e)) hS' hacc⟩
end
def tListRev (K : PySem.W.Frag) (te : TE) : TE := fun σ H Q => te σ H fun x H1 => ∃ a xs, x = .ref a ∧ SqL K H1 a xs ∧ ∀ p, H1 p = none → Q (.ref p) (upd H1 p (.lst xs.reverse))
theorem pe_listRev {X : Cx} {e : Expr} {te : TE} {p p2 pos pos2 : Pos} (hc : X.calm = true) (hg : Gl X "list") (hm : X.mg "list" = none) (hg2 : Gl X "reversed") (hm2 : X.mg "reversed" = none) (he : PE X e te)
    (hs : starEach [e] X.env = (false, eval e X.env) :: starEach [] X.env := by rfl)
    (hs2 : starEach [.Call (.Name "reversed" p2) [e] [] pos2] X.env = (false, eval (.Call (.Name "reversed" p2) [e] [] pos2) X.env) :: starEach [] X.env := by rfl) :
    PE X (.Call (.Name "list" p) [.Call (.Name "reversed" p2) [e] [] pos2] [] pos) (tListRev X.K te) := by
  refine ⟨fun pins s σ H Q I h => ?_⟩
  refine Call_ (ld_blt I hg hm PyProof.Rows.boot_list (PyProof.Rows.callWith_type1 (args_cons (Call_ (ld_blt I hg2 hm2 PyProof.Rows.boot_reversed (PyProof.Rows.callWith_type1 (args_cons (thn (he.run pins s σ H _ I h) fun u s1 ⟨v, H1, I1, r1, q1⟩ => args_nil ?_) hs) hs rfl))) hs2) hs2 rfl))
  obtain ⟨a, xs, ev, hq, q⟩ := q1
  subst ev
  obtain rfl : u = Value.ref a := r1
  obtain ⟨its, rv, p', hz⟩ := I1.list hq
  refine call_reversed_list p'.isList (args_nil ?_)
  have k0 : ∀ b o, s1.heap.get? b = some o → (s1.heap.push (revObj a ((its.toArray.size : Int) - 1))).get? b = some o := fun b o e => Heap.get?_push_of_some _ e
  have I2 : Inv X pins σ H1 { s1 with heap := s1.heap.push (revObj a ((its.toArray.size : Int) - 1)) } := I1.kept (t' := s1.toks) k0
  obtain ⟨f0, f1, f2, f3, f4, f5⟩ := I1.fpOk (H' := H1) (b := s1.heap.objs.size) (Nat.le_refl _) (I1.hok.fresh (Nat.le_refl _))
  have hl := p'.isList
  obtain ⟨ol, hol, _⟩ := id hl
  have hne : a ≠ s1.heap.objs.size := Nat.ne_of_lt (Heap.lt_size hol)
  have hn : its.toArray.size ≤ sizeLine := by rw [List.size_toArray, ← rv.length]; exact hz
  refine call_list_rev (s := { s1 with heap := s1.heap.push (revObj a ((its.toArray.size : Int) - 1)) }) (I1.ok.hd hc) ⟨_, Heap.get?_push_size _ rfl, rfl, rfl⟩ (hl.push _) hne hn fun h' tk acc c' hk hS hi => ?_
  have hsz : (s1.heap.push (revObj a ((its.toArray.size : Int) - 1))).objs.size = s1.heap.objs.size + 1 := Heap.size_push _ _
  have hlt : s1.heap.objs.size < (s1.heap.push (revObj a ((its.toArray.size : Int) - 1))).objs.size := by omega
  have rv2 := RT.vals_rev rv hi
  have hz2 : xs.reverse.length ≤ sizeLine := by rw [List.length_reverse]; exact hz
  refine ⟨.ref (s1.heap.push (revObj a ((its.toArray.size : Int) - 1))).objs.size, upd H1 _ (.lst xs.reverse), I2.turnedNew (t' := tk) (ch := [s1.heap.objs.size]) (fun b o hb e => hk b o (fun z => hb (by simp [z])) e) (fun b hb => ?_) (Nat.le_refl _) (show ObjOk X.prog X.w _ _ _ (.lst xs.reverse) from ⟨hz2, acc.toList, c', rv2, ?_⟩), rfl, q _ (I2.hok.fresh (Nat.le_refl _))⟩
  · have e : b = s1.heap.objs.size := by simpa using hb
    subst e
    exact ⟨f0, f1, f2, f3, f4, f5⟩
  · rw [Array.toArray_toList]
    exact hS
/-! ### a dict keyed by None or ints -/
def PDo (P : Program) (w : World) (H : Hp) (d : Addr) (kvs : List (Option Key × V)) (vs : List (Option Key × Value)) (ep : Nat) : Prop := kvs.length ≤ 100000 ∧ (d == sysModules) = false ∧ H d = some (.ext fun h => h.DictAt (noneKind P w) d vs ep) ∧ KV kvs vs
def PD (P : Program) (w : World) (H : Hp) (d : Addr) (kvs : List (Option Key × V)) : Prop := ∃ vs ep, PDo P w H d kvs vs ep
theorem PD.other {P : Program} {w : World} {H H' : Hp} {d : Addr} {kvs : List (Option Key × V)} (h : PD P w H d kvs) (e : H' d = H d) : PD P w H' d kvs := by
  obtain ⟨vs, ep, h1, h2, h3, h4⟩ := h
  exact ⟨vs, ep, h1, h2, e.trans h3, h4⟩
theorem da_ok {P : Program} {w : World} {H : Hp} {h : Heap} {d : Addr} {vs : List (Option Key × Value)} {ep : Nat} (e : h.DictAt (noneKind P w) d vs ep) : ObjOk P w H h d (.ext fun h => h.DictAt (noneKind P w) d vs ep) :=
  ⟨e, let ⟨o, _, ho, _⟩ := e; ⟨o, ho⟩, fun _ _ p k => p.at' k⟩
def tDNewP (P : Program) (w : World) : TE := fun _ H Q => ∀ p o0, H p = none → PD P w (upd H p o0) p [] → Q (.ref p) (upd H p o0)
theorem pe_dnewP {X : Cx} {pos : Pos} : PE X (.Dict [] [] pos) (tDNewP X.prog X.w) := ⟨fun pins s σ H Q I h => by
  have hD : (s.heap.push { cls := .type "dict", data := .dict #[] }).DictAt (noneKind X.prog X.w) s.heap.objs.size [] 0 :=
    ⟨_, #[], Heap.get?_push_size _ rfl, ⟨rfl, rfl, rfl⟩, rfl, fun e he => absurd he (by simp), .nil, List.nodup_nil⟩
  exact wpAny_Dict_empty ⟨.ref s.heap.objs.size, _, I.laid (a := s.heap.objs.size) (t' := s.toks) (fun _ _ q => Heap.get?_push_of_some _ q) (Nat.le_refl _) (da_ok hD), rfl,
    h _ _ (I.hok.fresh (Nat.le_refl _)) ⟨[], 0, Nat.zero_le _, beq_eq_false_iff_ne.mpr (Nat.ne_of_gt I.big), upd_same, .nil⟩⟩⟩
def tSetdP (P : Program) (w : World) (td ty tx : TE) : TE := fun σ H Q => td σ H fun x H1 => ∃ d kv0, x = .ref d ∧ PD P w H1 d kv0 ∧ ty σ H1 fun y H2 => tx σ H2 fun z H3 => ∃ kvs k, y = oI k ∧ PD P w H3 d kvs ∧ kvs.length < 100000 ∧
  (∀ v, valV kvs (oK k) = some v → Q v H3) ∧ (valV kvs (oK k) = none → ∀ H4, PD P w H4 d (kvs ++ [(oK k, z)]) → (∀ a, a ≠ d → H4 a = H3 a) → Q z H4)
theorem pe_setdefP {X : Cx} {o e f : Expr} {td ty tx : TE} {apos cpos : Pos} (ho : PE X o td) (he : PE X e ty) (hf : PE X f tx) (m : M2 X o "setdefault" apos e f cpos := by exact ⟨rfl, rfl, rfl, rfl⟩) : PE X (.Call (.Attribute o "setdefault" apos) [e, f] [] cpos) (tSetdP X.prog X.w td ty tx) := by
  refine ⟨fun pins s σ H Q I h => ?_⟩
  refine wpAny_Call_method m.base m.few m.line PySem.F.plainAttrs_dict PySem.F.slot_dict_setdefault PySem.F.type_dict_setdefault (thn (ho.run pins s σ H _ I h) fun u s1 ⟨x, H1, I1, rx, d, kv0, ex, hd, q1⟩ => ?_)
  subst ex
  obtain rfl : u = Value.ref d := rx
  obtain ⟨vs0, ep0, _, hs0, hd0, _⟩ := hd
  have da0 : s1.heap.DictAt (noneKind X.prog X.w) d vs0 ep0 := (I1.hok d _ hd0).1
  refine ⟨da0.dictOf.typeIs, da0.dictOf.mapOf.noDict, ?_⟩
  rw [m.trees]
  refine Calls.callWith_builtin rfl (Calls.evalArgs_plain (Calls.spliced_cons (thn (he.run pins s1 σ H1 _ I1 q1) fun iv s2 ⟨y, H2, I2, ry, q2⟩ =>
    Calls.spliced_cons (thn (hf.run pins s2 σ H2 _ I2 q2) fun fv s3 ⟨z, H3, I3, rz, kvs, k, ey, hd3, hl, q3, q4⟩ => Calls.spliced_nil ?_))))
  subst ey
  obtain ⟨vs, ep, h1, h2, h3, kv⟩ := hd3
  have da : s3.heap.DictAt (noneKind X.prog X.w) d vs ep := (I3.hok d _ h3).1
  have hz : (100000 : Nat) ≤ sizeLine := Nat.le_of_ble_eq_true rfl
  have hlen : kvs.length = vs.length := Paired.length kv
  refine call_meetsIn PySem.F.slot_dict_setdefault da.dictOf.typeIs PySem.F.entry_dict_setdefault (PySem.F.args_dict_setdefault_3 _ _ _) (kt_meets_setdefault (noneKind X.prog X.w) d (nk_none_of ry) h2 fv) ⟨vs, da.dictOf, by omega, fun v hv => ?_, fun hn h' dd' hs => ?_⟩
  · have q := kv.val (oK k)
    rw [hv] at q
    cases q0 : valV kvs (oK k) with
    | none =>
      rw [q0] at q
      exact (show False from q).elim
    | some v0 =>
      rw [q0] at q
      exact ⟨v0, H3, I3.tok _, q, q3 v0 q0⟩
  · have q := kv.val (oK k)
    rw [hn] at q
    cases q0 : valV kvs (oK k) with
    | some v0 =>
      rw [q0] at q
      exact (show False from q).elim
    | none =>
      have kv2 := kv.put (oK k) rz
      rw [putK_new _ q0] at kv2
      obtain ⟨ob, es, ep', hob, r⟩ := dd'
      have da' : h'.DictAt (noneKind X.prog X.w) d (stored vs (oK k) fv) ep' := ⟨ob, es, hob, r⟩
      refine ⟨z, _, d_write (t' := s3.toks + 1) I3 (by rw [h3]; exact True.intro) hs ⟨ob, hob⟩ (da_ok da'), rz, q4 q0 _ ⟨_, ep', ?_, h2, upd_same, kv2⟩ fun a ha => upd_ne ha⟩
      rw [List.length_append, List.length_singleton]
      omega
/-! .values() -/
def Itp (P : Program) (w : World) (d : Addr) (kvs : List (Option Key × V)) (vs : List (Option Key × Value)) (ep : Nat) : It :=
  ⟨fun i H => PDo P w H d kvs vs ep ∧ i < kvs.length, fun i H x H' => H' = H ∧ ∃ k, kvs[i]? = some (k, x), fun i H => PDo P w H d kvs vs ep ∧ kvs.length ≤ i⟩
theorem turn_valsP {P : Program} {w : World} {K : PySem.W.Frag} {tg : Expr} {d : Addr} {kvs : List (Option Key × V)} {vs : List (Option Key × Value)} {ep : Nat} (it : Addr) : Turn P w K tg (Itp P w d kvs vs ep) [it] it (fun i h => h.IsValIter it d i kvs.length ep) where
  mem := by simp
  obj := fun i h st b hb => by
    have e : b = it := by simpa using hb
    subst e
    obtain ⟨oi, e, c, dd⟩ := st
    exact ⟨oi, e, fun v z => by rw [dd] at z; cases z⟩
  keep := fun i h h' st k => st.at fun oi e => k it (by simp) oi e
  item := by
    intro X hP hw hK hc i pins s σ H E I hf st hg
    subst hP hw hK
    obtain ⟨⟨h1, h2, h3, kv⟩, hi⟩ := hg
    obtain ⟨f0, f1, f2, f3, f4, f5⟩ := hf it (by simp)
    have hm : s.heap.DictAt (noneKind X.prog X.w) d vs ep := (I.hok d _ h3).1
    obtain ⟨⟨k, v⟩, hkv⟩ : ∃ p, kvs[i]? = some p := ⟨kvs[i], List.getElem?_eq_getElem hi⟩
    obtain ⟨u, hu, ru⟩ := kv_get kv hkv
    have hl : kvs.length = vs.length := Paired.length kv
    rw [hl] at st
    refine wpAny_pyNext_values_item st hm hu fun h' st' sb => ?_
    have I1 : Inv X pins σ H { s with heap := h' } := I.turned (t' := s.toks) (fun b ob hb e => (sb.2 b hb).trans e) f0 f1 f3 f4 f5
    obtain ⟨oi, e, c, dd⟩ := id st'
    refine ⟨u, rfl, go_of (s := { s with heap := h' }) e c dd (by decide) ⟨v, H, I1, ru, ⟨rfl, k, hkv⟩, ?_, fun b hb => (hf b hb).1⟩⟩
    show h'.IsValIter it d (i + 1) kvs.length _
    rw [hl]
    exact st'
  done := by
    intro X hP hw hK hc i pins s σ H E I hf st hg
    subst hP hw hK
    obtain ⟨⟨h1, h2, h3, kv⟩, hi⟩ := hg
    obtain ⟨f0, f1, f2, f3, f4, f5⟩ := hf it (by simp)
    have hm : s.heap.DictAt (noneKind X.prog X.w) d vs ep := (I.hok d _ h3).1
    have hl : kvs.length = vs.length := Paired.length kv
    rw [hl] at st
    exact wpAny_pyNext_values_end (I.ok.hd hc) st hm (List.getElem?_eq_none (by omega)) fun h' eb => ⟨rfl, I.turned (t' := s.toks) (fun b ob hb e => eb b ob hb e) f0 f1 f3 f4 f5⟩
  self := fun A i s Q E st h => wpAny_pyIter_valiter st h
def iValsP (P : Program) (w : World) (td : TE) : TI := fun σ H R => td σ H fun x H1 => ∃ d kvs vs ep, x = .ref d ∧ PDo P w H1 d kvs vs ep ∧ R (Itp P w d kvs vs ep) H1
theorem pi_valuesP {X : Cx} {tg e : Expr} {td : TE} {apos cpos : Pos} (he : PE X e td) (hbase : attributeBase e "values" X.env (eval e X.env) = eval e X.env := by rfl) (hline : (apos.endLine == cpos.line) = true := by rfl) : PI X tg (.Call (.Attribute e "values" apos) [] [] cpos) (iValsP X.prog X.w td) := by
  refine ⟨fun pins s σ H R I h => ?_⟩
  refine wpAny_Call_method (T := "dict") (id := "dict.values") hbase rfl hline F.plainAttrs_dict F.slot_dict_values F.type_dict_values (thn (he.run pins s σ H _ I h) fun u s1 ⟨x, H1, I1, rx, d, kvs, vs, ep, ex, ⟨h1, h2, h3, kv⟩, q⟩ => ?_)
  subst ex
  obtain rfl : u = Value.ref d := rx
  have hm : s1.heap.DictAt (noneKind X.prog X.w) d vs ep := (I1.hok d _ h3).1
  have hl : kvs.length = vs.length := Paired.length kv
  refine ⟨hm.dictOf.typeIs, hm.dictOf.mapOf.noDict, ?_⟩
  have I2 : Inv X pins σ H1 { s1 with heap := s1.heap.push { cls := .type "dict_values", data := .fields #[.ref d] } } := I1.kept (t' := s1.toks) fun b ob q => Heap.get?_push_of_some _ q
  have fin : wpAny (model X.prog X.w) X.A (pyIter (.ref s1.heap.objs.size)) (PIE X pins σ tg R) X.xe { s1 with heap := s1.heap.push { cls := .type "dict_values", data := .fields #[.ref d] } } := by
    refine wpAny_pyIter_values (d := d) (knd := noneKind X.prog X.w) ⟨_, Heap.get?_push_size _ rfl, rfl, rfl⟩ (hm.push _) (pi_one (tk := s1.toks) I2 _ (turn_valsP _) ⟨_, Heap.get?_push_size _ rfl, rfl, ?_⟩ q)
    rw [hl] <;> rfl
  show wpAny _ _ (callWith cpos (.builtin "dict.values") [.ref d] [] []) _ X.xe s1
  exact method_meetsIn F.slot_dict_values F.entry_dict_values rfl (PySem.evalArgs_none ⟨rfl, hm.dictOf.typeIs, F.args_dict_values_1 _, _, meets_dict_values (noneKind X.prog X.w) d h2, ⟨vs, hm.dictOf⟩, fin⟩)
/-! ### repr of nested tuples -/
def rReprD (K : PySem.W.Frag) : List V → Hp → VK → Prop := fun xs H Q => ∃ a d, xs = [.ref a] ∧ Dp K H (.ref a) d ∧ d.showable = true ∧ d.hasDict = false ∧ d.depth ≤ 10 ∧ d.shown.length ≤ sizeLine ∧ Q (.str d.shown) H
theorem call_reprD {X : Cx} (hu : X.A.units + 65 < cLine) (hg : X.A.guards = some []) : CallR X (.builtin "repr") (rReprD X.K) := by
  intro pins s σ H xs us Q I r h
  obtain ⟨a, d, rfl, hd, h1, h2, h3, h4, q⟩ := h
  obtain ⟨u, rfl, rx⟩ := r.one
  obtain ⟨as, rd⟩ := Dp.reads I d _ u hd rx
  cases rx
  refine repr_of_reads' rd h1 (fun z => by rw [h2] at z; cases z) hg (by omega) (fun _ _ e => e) (fun h' u tk hk => ?_) h4
  exact ⟨.str d.shown, H, I.kept (t' := tk) fun b o e => hk b o e, ⟨u, rfl⟩, q⟩
end Cs

namespace Cs
open PySem PySem.Spec PyProof.Rows L2
section
variable {P : Program} {w : World} {K : PySem.W.Frag} {σ : L2.St} {H H' : Hp} {td ty tx te : TE} {tt : TT} {d b : Addr} {k : Id3} {kvs : List (Id3 × V)} {z : V}
theorem rv_inN (hd : ND P w H d kvs) (hb : IdAt H b k) : RV Same (rInDN P w) (.ref b) (.ref d) H (.bl (valV kvs k).isSome) := fun H1 e _ q => ⟨b, d, k, kvs, rfl, rfl, e _ _ hb, hd.keep e, q H1 (Same.refl H1)⟩
theorem rv_notinN (hd : ND P w H d kvs) (hb : IdAt H b k) : RV Same (rNotInDN P w) (.ref b) (.ref d) H (.bl (!(valV kvs k).isSome)) := fun H1 e _ q => ⟨b, d, k, kvs, rfl, rfl, e _ _ hb, hd.keep e, q H1 (Same.refl H1)⟩
def AnId (k : Id3) : V → Hp → Prop := fun v H => ∃ b, v = .ref b ∧ IdAt H b k
theorem ev_getN1 (ho : Ev Same td σ H (.ref d)) (hd : ND P w H d kvs) (hy : EvP Same ty σ H (AnId k)) : Ev Same (tGetN1 P w td ty) σ H ((valV kvs k).getD .non) := fun H1 e Q q =>
  ho H1 e _ fun H2 e2 => ⟨d, kvs, rfl, hd.keep (e.trans e2), hy H2 (e.trans e2) _ fun v H3 e3 ⟨b, hv, hb⟩ => ⟨b, k, kvs, hv, hb, hd.keep (e.trans (e2.trans e3)), q H3 (e2.trans e3)⟩⟩
theorem ev_getN2 (ho : Ev Same td σ H (.ref d)) (hd : ND P w H d kvs) (hy : EvP Same ty σ H (AnId k)) (hx : ∀ H1, Same H H1 → Ev Same tx σ H1 z) : Ev Same (tGetN2 P w td ty tx) σ H ((valV kvs k).getD z) := fun H1 e Q q =>
  ho H1 e _ fun H2 e2 => ⟨d, kvs, rfl, hd.keep (e.trans e2), hy H2 (e.trans e2) _ fun v H3 e3 ⟨b, hv, hb⟩ => hx H3 (e.trans (e2.trans e3)) H3 (Same.refl _) _ fun H4 e4 => ⟨b, k, kvs, hv, e4 _ _ hb, hd.keep (e.trans (e2.trans (e3.trans e4))), q H4 (e2.trans (e3.trans e4))⟩⟩
/-- a new dict that Lv tells -/
def NewD (P : Program) (w : World) (Lv : List (Id3 × V) → Prop) : V → Hp → Prop := fun v H => ∃ d kvs, v = .ref d ∧ ND P w H d kvs ∧ Lv kvs
def NewD0 (P : Program) (w : World) (H0 : Hp) (Lv : List (Id3 × V) → Prop) : V → Hp → Prop := fun v H => ∃ d kvs, v = .ref d ∧ H0 d = none ∧ ND P w H d kvs ∧ Lv kvs
theorem ep_dcN0 {tk tv : TE} {wi : TI} {vs : List Nat} {J : It} {n j : Nat} {Gd : Hp → Prop} {Y : Nat → Hp → V → Hp → Prop} {X : Nat → V → Prop} (wk : Walk J n Gd Y) (hY : ∀ i H x H', Y i H x H' → H' = H ∧ X i x) (hw : EvI Same wi σ H J) (hG : ∀ H1, Same H H1 → Gd H1)
    (hn : n ≤ 100000) (Lv : Nat → List (Id3 × V) → Prop) (h0 : Lv 0 []) (hwp : ∀ x, wipe ((wipe σ vs).set j (some x)) vs = wipe σ vs)
    (hs : ∀ i x acc H1, i < n → Same H H1 → X i x → Lv i acc → ∃ b, EvT Same tt ((wipe σ vs).set j (some x)) H1 b ∧ (b = true → ∃ k v, EvP Same tk ((wipe σ vs).set j (some x)) H1 (AnId k) ∧ (∀ H2, Same H1 H2 → Ev Same tv ((wipe σ vs).set j (some x)) H2 v) ∧ Lv (i + 1) (putK acc k v)) ∧ (b = false → Lv (i + 1) acc)) :
    EvP Same (tDcN P w wi (gName j) tt tk tv vs) σ H (NewD0 P w H (Lv n)) := fun H1 e Q q => hw H1 e _ fun H2 e2 D o0 hD hnd => by
  have e02 := e.trans e2
  refine ⟨fun i m H' => m = n - i ∧ i ≤ n ∧ Same H2 H' ∧ ∃ acc, ND P w H' D acc ∧ acc.length ≤ i ∧ Lv i acc, ⟨n, by simp, Nat.zero_le _, same_new hD, [], hnd, Nat.le_refl 0, h0⟩, ?_⟩
  rintro i m H3 ⟨rfl, hi, es, acc, ha, hl, lv⟩
  have g := hG H3 (e02.trans es)
  by_cases hlt : i < n
  · refine .inr ⟨wk.goes i H3 hlt g, fun H' => i + 1 ≤ n ∧ Same H2 H' ∧ ∃ acc, ND P w H' D acc ∧ acc.length ≤ i + 1 ∧ Lv (i + 1) acc, fun H' p => ⟨n - (i + 1), by omega, rfl, p⟩, fun x H' y => ?_⟩
    obtain ⟨eH, hx⟩ := hY i H3 x H' (wk.yields i H3 x H' hlt g y)
    subst eH
    obtain ⟨b, ht, h1, h2⟩ := hs i x acc _ hlt (e02.trans es) hx lv
    refine ⟨hwp x, ht _ (Same.refl _) _ fun H4 e4 => ?_⟩
    cases b with
    | true =>
      obtain ⟨k, v, hk, hv, lv'⟩ := h1 rfl
      refine iteT (hk H4 e4 _ fun y H5 e5 ⟨b, hb, hb2⟩ => hv H5 (e4.trans e5) H5 (Same.refl _) _ fun H6 e6 => ⟨b, k, acc, hb, e6 _ _ hb2, ha.keep (e4.trans (e5.trans e6)), by omega, fun H7 g1 g2 => ⟨hlt, fun a u hau => ?_, _, g1, ?_, lv'⟩⟩)
      · rw [g2 a (ne_of_none hau hD)]
        exact (es.trans (e4.trans (e5.trans e6))) a u hau
      · have := length_putK acc k v
        omega
    | false => exact iteF ⟨hlt, es.trans e4, acc, ha.keep e4, by omega, h2 rfl⟩
  · have e : i = n := by omega
    subst e
    exact .inl ⟨wk.stops H3 g, q _ H3 (e2.trans es) ⟨D, acc, rfl, Same.free e02 hD, ha, lv⟩⟩
theorem ep_dcN {tk tv : TE} {wi : TI} {vs : List Nat} {J : It} {n j : Nat} {Gd : Hp → Prop} {Y : Nat → Hp → V → Hp → Prop} {X : Nat → V → Prop} (wk : Walk J n Gd Y) (hY : ∀ i H x H', Y i H x H' → H' = H ∧ X i x) (hw : EvI Same wi σ H J) (hG : ∀ H1, Same H H1 → Gd H1)
    (hn : n ≤ 100000) (Lv : Nat → List (Id3 × V) → Prop) (h0 : Lv 0 []) (hwp : ∀ x, wipe ((wipe σ vs).set j (some x)) vs = wipe σ vs)
    (hs : ∀ i x acc H1, i < n → Same H H1 → X i x → Lv i acc → ∃ b, EvT Same tt ((wipe σ vs).set j (some x)) H1 b ∧ (b = true → ∃ k v, EvP Same tk ((wipe σ vs).set j (some x)) H1 (AnId k) ∧ (∀ H2, Same H1 H2 → Ev Same tv ((wipe σ vs).set j (some x)) H2 v) ∧ Lv (i + 1) (putK acc k v)) ∧ (b = false → Lv (i + 1) acc)) :
    EvP Same (tDcN P w wi (gName j) tt tk tv vs) σ H (NewD P w (Lv n)) := EvP.imp (ep_dcN0 wk hY hw hG hn Lv h0 hwp hs) fun v H2 _ ⟨d, kvs, h1, _, h3, h4⟩ => ⟨d, kvs, h1, h3, h4⟩
theorem dc_ofT {tk tv : TE} {tl : TE} {vs : List Nat} {j : Nat} {a : Addr} {xs : List V} (h : Ev Same tl σ H (.ref a)) (ha : H a = some (.tup xs)) (hn : xs.length ≤ 100000) (Lv : Nat → List (Id3 × V) → Prop) (h0 : Lv 0 [])
    (hs : ∀ i x acc H1, Same H H1 → xs[i]? = some x → Lv i acc → ∃ b, EvT Same tt ((wipe σ vs).set j (some x)) H1 b ∧ (b = true → ∃ k v, EvP Same tk ((wipe σ vs).set j (some x)) H1 (AnId k) ∧ (∀ H2, Same H1 H2 → Ev Same tv ((wipe σ vs).set j (some x)) H2 v) ∧ Lv (i + 1) (putK acc k v)) ∧ (b = false → Lv (i + 1) acc))
    (hwp : ∀ x, wipe ((wipe σ vs).set j (some x)) vs = wipe σ vs) : EvP Same (tDcN P w (iTup K tl) (gName j) tt tk tv vs) σ H (NewD P w (Lv xs.length)) :=
  ep_dcN (X := fun i x => xs[i]? = some x) (walk_tup (K := K) (a := a) (xs := xs)) (fun _ _ _ _ y => y) (ei_tup h ha) (fun H1 e => SqT.of (e _ _ ha)) hn Lv h0 hwp fun i x acc H1 _ e hx p => hs i x acc H1 e hx p
theorem dc_ofL {tk tv : TE} {tl : TE} {vs : List Nat} {j : Nat} {xs : List V} (h : EvP Same tl σ H (fun v H2 => ∃ a, v = .ref a ∧ SqL K H2 a xs)) (hn : xs.length ≤ 100000) (Lv : Nat → List (Id3 × V) → Prop) (h0 : Lv 0 [])
    (hs : ∀ i x acc H1, Same H H1 → xs[i]? = some x → Lv i acc → ∃ b, EvT Same tt ((wipe σ vs).set j (some x)) H1 b ∧ (b = true → ∃ k v, EvP Same tk ((wipe σ vs).set j (some x)) H1 (AnId k) ∧ (∀ H2, Same H1 H2 → Ev Same tv ((wipe σ vs).set j (some x)) H2 v) ∧ Lv (i + 1) (putK acc k v)) ∧ (b = false → Lv (i + 1) acc))
    (hwp : ∀ x, wipe ((wipe σ vs).set j (some x)) vs = wipe σ vs) : EvP Same (tDcN P w (iList K tl) (gName j) tt tk tv vs) σ H (NewD P w (Lv xs.length)) := fun H1 e Q q => h H1 e _ fun v H2 e2 ⟨a, hv, ha⟩ => by
  subst hv
  have key := ep_dcN (P := P) (w := w) (tk := tk) (tv := tv) (tt := tt) (vs := vs) (j := j) (wi := iList K (tC (.ref a))) (σ := σ) (H := H2) (X := fun i x => xs[i]? = some x) (walk_list (K := K) (a := a) (xs := xs)) (fun _ _ _ _ y => y) (ei_list ev_c ha) (fun H1 e => e.seq ha) hn Lv h0 hwp fun i x acc H1 _ e' hx p => hs i x acc H1 (e.trans (e2.trans e')) hx p
  have := key H2 (Same.refl _) Q fun v H3 e3 p => q v H3 (e2.trans e3) p
  exact this
/-! the keys -/
def KeyAt (H : Hp) (kvs : List (Id3 × V)) (i : Nat) (x : V) : Prop := ∃ k v b, kvs[i]? = some (k, v) ∧ x = .ref b ∧ IdAt H b k
theorem walk_keysN {o : Obj} : Walk (Itn P w d o kvs) kvs.length (fun H => NDo P w H d o kvs) (fun i H x H' => H' = H ∧ KeyAt H kvs i x) :=
  ⟨fun _ _ hi q => ⟨q, hi⟩, fun _ q => ⟨q, Nat.le_refl _⟩, fun _ _ _ _ _ _ y => y⟩
theorem NDo.keep {o : Obj} (h : NDo P w H d o kvs) (e : Same H H') : NDo P w H' d o kvs := by
  obtain ⟨h1, h2, h3, ess, ep, xs, g1, g2, g3, g4, g5⟩ := h
  exact ⟨h1, h2, e _ _ h3, ess, ep, xs, g1, g2, g3, g4, g5.keep (kt_of e)⟩
theorem lc_ofK {vs : List Nat} {j : Nat} (h : Ev Same td σ H (.ref d)) (hd : ND P w H d kvs) (Lv : Nat → List V → Hp → Prop) (hL : ∀ i l H1 H2, KT H1 H2 → Lv i l H1 → Lv i l H2) (h0 : Lv 0 [] H)
    (hs : ∀ i x acc H1, i < kvs.length → Same H H1 → KeyAt H1 kvs i x → Lv i acc H1 → ∃ b, EvT Same tt ((wipe σ vs).set j (some x)) H1 b ∧ (b = true → EvP Same te ((wipe σ vs).set j (some x)) H1 (fun y H2 => Lv (i + 1) (acc ++ [y]) H2)) ∧ (b = false → Lv (i + 1) acc H1))
    (hwp : ∀ x, wipe ((wipe σ vs).set j (some x)) vs = wipe σ vs) :
    EvP Same (tLc (iKeysN P w td) (gName j) tt te vs) σ H (NewLv (Lv kvs.length)) := fun H1 e Q q => h H1 e _ fun H2 e2 => by
  have e02 := e.trans e2
  obtain ⟨o, hdo⟩ := hd.keep e02
  refine ⟨d, o, kvs, rfl, hdo, fun D hD => ?_⟩
  have hz : (1000000 : Nat) ≤ sizeLine := Nat.le_of_ble_eq_true rfl
  have hlen := hdo.1
  refine lc_it walk_keysN (fun i H' => Same H2 H' ∧ ∃ acc, H' D = some (.lst acc) ∧ acc.length ≤ i ∧ Lv i acc H') ⟨same_new hD, [], upd_same, Nat.le_refl 0, hL _ _ _ _ (kt_of (e02.trans (same_new hD))) h0⟩ (fun i H' _ p => hdo.keep p.1) ?_ ?_
  · intro i x H' H'' hi p y
    obtain ⟨eH, hx⟩ := y
    subst eH
    obtain ⟨es, acc, ha, hl, lv⟩ := p
    obtain ⟨b, ht, h1, h2⟩ := hs i x acc _ hi (e02.trans es) hx lv
    refine ⟨hwp x, ht _ (Same.refl _) _ fun H3 e3 => ?_⟩
    cases b with
    | true =>
      refine iteT (h1 rfl H3 e3 _ fun y H4 e4 lv4 => ?_)
      have e34 := e3.trans e4
      refine ⟨acc, e34 _ _ ha, by omega, same_mut (es.trans e34) hD, acc ++ [y], upd_same, by rw [List.length_append, List.length_singleton]; omega, hL _ _ _ _ (kt_upd (e34 _ _ ha)) lv4⟩
    | false => exact iteF ⟨es.trans e3, acc, e3 _ _ ha, by omega, hL _ _ _ _ (kt_of e3) (h2 rfl)⟩
  · intro H' ⟨es, acc, ha, _, lv⟩
    exact q _ H' (e2.trans es) ⟨D, acc, rfl, ha, lv⟩
theorem ep_listDN (h : Ev Same td σ H (.ref d)) (hd : ND P w H d kvs) : EvP Same (tCB (rListDN P w) (tCons td tNil)) σ H (fun v H2 => ∃ p bs, v = .ref p ∧ H2 p = some (.lst (bs.map V.ref)) ∧ IdsAt H2 bs (kvs.map Prod.fst)) := fun H1 e Q q =>
  h H1 e _ fun H2 e2 => ⟨d, kvs, rfl, hd.keep (e.trans e2), fun p bs hp pr => q _ _ (e2.trans (same_new hp)) ⟨p, bs, rfl, upd_same, IdsAt.keep (same_new hp) (by
    clear q hp
    have : ∀ {l : List (Id3 × V)} {m : List Addr}, Paired (fun q b => IdAt H2 b q.1) l m → IdsAt H2 m (l.map Prod.fst) := by
      intro l m r
      induction r with
      | nil => exact .nil
      | cons h t ih => exact .cons h ih
    exact this pr)⟩⟩
/-! plain facts about tables -/
theorem valV_mem {κ : Type} [DecidableEq κ] {kvs : List (κ × V)} {k : κ} : (valV kvs k).isSome = true ↔ k ∈ kvs.map Prod.fst := by
  rw [← valV_any, List.any_eq_true]
  constructor
  · rintro ⟨x, hx, he⟩
    rw [← of_decide_eq_true he]
    exact List.mem_map_of_mem hx
  · intro h
    obtain ⟨x, hx, he⟩ := List.mem_map.mp h
    exact ⟨x, hx, decide_eq_true he⟩
theorem valV_none {κ : Type} [DecidableEq κ] {kvs : List (κ × V)} {k : κ} : valV kvs k = none ↔ k ∉ kvs.map Prod.fst := by
  rw [← valV_mem]
  cases valV kvs k <;> simp
end
end Cs

namespace Cs
open PySem PySem.Spec PyProof.Rows L2
/-! ### data of identities, primitives -/
def oID : Option Int → PyData
  | none => .none
  | some i => .int i
def oSD : Option Str → PyData
  | none => .none
  | some z => .str z
def intsD (ns : List Int) : PyData := .tuple (ns.map PyData.int)
def R4.ns (r : R4) : List Int := [r.l, r.t, r.w, r.h]
def oRD : Option R4 → PyData
  | none => .none
  | some r => intsD r.ns
def Id3.dat (d : Id3) : PyData := .tuple [oID d.plot, .str d.role, .str d.key]
def Prim.dat (p : Prim) : PyData := .tuple [oID p.who.plot, .str p.who.role, .str p.who.key, .str p.sh.str, intsD p.pts, .str p.text, oSD p.fill, oSD p.stroke, oRD p.clip]
section
variable {K : PySem.W.Frag} {H : Hp}
theorem oID_dp : ∀ o : Option Int, Dp K H (oI o) (oID o)
  | none => .non
  | some i => .int i
theorem oSD_dp : ∀ o : Option Str, Dp K H (oS o) (oSD o)
  | none => .non
  | some z => .str z
theorem ints_dp {a : Addr} {ns : List Int} (h : IntsAt H a ns) : Dp K H (.ref a) (intsD ns) := .tup (SqT.of h) (dp_ints ns)
theorem id_dp {a : Addr} {d : Id3} (h : IdAt H a d) : Dp K H (.ref a) d.dat := .tup (SqT.of h) (.cons (oID_dp _) (.cons (.str _) (.cons (.str _) .nil)))
theorem clip_dp {v : V} {o : Option R4} (h : ORect H v o) : Dp K H v (oRD o) := by
  cases o with
  | none =>
    obtain rfl : v = .non := h
    exact .non
  | some r =>
    obtain ⟨a, rfl, h⟩ : ∃ a, v = .ref a ∧ RectAt H a r := h
    exact ints_dp (ns := r.ns) h
theorem prim_dp {a : Addr} {p : Prim} (h : PrimAt H a p) : Dp K H (.ref a) p.dat := by
  obtain ⟨pa, cv, h1, h2, h3⟩ := h
  exact .tup (SqT.of h1) (.cons (oID_dp _) (.cons (.str _) (.cons (.str _) (.cons (.str _) (.cons (ints_dp h2) (.cons (.str _) (.cons (oSD_dp _) (.cons (oSD_dp _) (.cons (clip_dp h3) .nil)))))))))
theorem ids_dpAll : ∀ {as : List Addr} {ds : List Id3}, IdsAt H as ds → DpAll K H (as.map V.ref) (ds.map Id3.dat)
  | _, _, .nil => .nil
  | _, _, .cons h t => .cons (id_dp h) (ids_dpAll t)
end
/-! equal -/
theorem eqv_oI : ∀ a b : Option Int, PyData.eqv (oID a) (oID b) = decide (a = b)
  | none, none => rfl
  | none, some _ => rfl
  | some _, none => rfl
  | some i, some j => by
    show (i == j) = _
    by_cases h : i = j <;> simp [h]
theorem str_beq (x y : Str) : (x == y) = decide (x = y) := by
  by_cases h : x = y
  · subst h
    simp
  · simp [h]
theorem eqv_oS : ∀ a b : Option Str, PyData.eqv (oSD a) (oSD b) = decide (a = b)
  | none, none => rfl
  | none, some _ => rfl
  | some _, none => rfl
  | some i, some j => by
    show (i == j) = _
    rw [str_beq]
    simp
theorem eqv_intsL : ∀ a b : List Int, PyData.eqvAll (a.map PyData.int) (b.map PyData.int) = decide (a = b)
  | [], [] => rfl
  | [], _ :: _ => rfl
  | _ :: _, [] => rfl
  | i :: a, j :: b => by
    show ((i == j) && PyData.eqvAll (a.map PyData.int) (b.map PyData.int)) = _
    rw [eqv_intsL a b]
    by_cases h : i = j <;> by_cases h2 : a = b <;> simp [h, h2]
theorem eqv_ints (a b : List Int) : PyData.eqv (intsD a) (intsD b) = decide (a = b) := eqv_intsL a b
theorem ns_inj {a b : R4} (h : a.ns = b.ns) : a = b := by
  obtain ⟨a1, a2, a3, a4⟩ := a
  obtain ⟨b1, b2, b3, b4⟩ := b
  simp [R4.ns] at h
  obtain ⟨h1, h2, h3, h4⟩ := h
  rw [h1, h2, h3, h4]
theorem eqv_oR : ∀ a b : Option R4, PyData.eqv (oRD a) (oRD b) = decide (a = b)
  | none, none => rfl
  | none, some _ => rfl
  | some _, none => rfl
  | some i, some j => by
    show PyData.eqv (intsD i.ns) (intsD j.ns) = _
    rw [eqv_ints]
    by_cases h : i = j
    · subst h
      simp
    · rw [decide_eq_false (fun z => h (ns_inj z)), decide_eq_false (fun z => h (Option.some.inj z))]
theorem sh_inj : ∀ {a b : Sh}, a.str = b.str → a = b := by
  intro a b
  cases a <;> cases b <;> intro h <;> first | rfl | (exfalso; revert h; decide +kernel)
theorem eqv_str (x y : Str) : PyData.eqv (.str x) (.str y) = decide (x = y) := str_beq x y
theorem eqv_id (a b : Id3) : PyData.eqv a.dat b.dat = decide (a = b) := by
  show (PyData.eqv (oID a.plot) (oID b.plot) && (PyData.eqv (.str a.role) (.str b.role) && (PyData.eqv (.str a.key) (.str b.key) && true))) = _
  rw [eqv_oI, eqv_str, eqv_str]
  obtain ⟨p, r, k⟩ := a
  obtain ⟨p', r', k'⟩ := b
  by_cases h1 : p = p' <;> by_cases h2 : r = r' <;> by_cases h3 : k = k' <;> simp [h1, h2, h3]
theorem id_ext {a b : Id3} (h1 : a.plot = b.plot) (h2 : a.role = b.role) (h3 : a.key = b.key) : a = b := by
  obtain ⟨p, r, k⟩ := a
  obtain ⟨p', r', k'⟩ := b
  have h1 : p = p' := h1
  have h2 : r = r' := h2
  have h3 : k = k' := h3
  rw [h1, h2, h3]
theorem eqv_prim (a b : Prim) : PyData.eqv a.dat b.dat = decide (a = b) := by
  show (PyData.eqv (oID a.who.plot) (oID b.who.plot) && (PyData.eqv (.str a.who.role) (.str b.who.role) && (PyData.eqv (.str a.who.key) (.str b.who.key) && (PyData.eqv (.str a.sh.str) (.str b.sh.str) && (PyData.eqv (intsD a.pts) (intsD b.pts)
    && (PyData.eqv (.str a.text) (.str b.text) && (PyData.eqv (oSD a.fill) (oSD b.fill) && (PyData.eqv (oSD a.stroke) (oSD b.stroke) && (PyData.eqv (oRD a.clip) (oRD b.clip) && true))))))))) = _
  simp only [eqv_oI, eqv_str, eqv_ints, eqv_oS, eqv_oR]
  by_cases h : a = b
  · subst h
    simp
  · rw [decide_eq_false h]
    cases q : (decide (a.who.plot = b.who.plot) && (decide (a.who.role = b.who.role) && (decide (a.who.key = b.who.key) && (decide (a.sh.str = b.sh.str) && (decide (a.pts = b.pts) && (decide (a.text = b.text) && (decide (a.fill = b.fill) && (decide (a.stroke = b.stroke) && (decide (a.clip = b.clip) && true))))))))) with
    | false => rfl
    | true =>
      exfalso
      simp only [Bool.and_eq_true, decide_eq_true_eq] at q
      obtain ⟨q1, q2, q3, q4, q5, q6, q7, q8, q9, _⟩ := q
      have hw := id_ext q1 q2 q3
      have hs := sh_inj q4
      obtain ⟨w1, s1, p1, t1, f1, k1, c1⟩ := a
      obtain ⟨w2, s2, p2, t2, f2, k2, c2⟩ := b
      simp only at hw hs q5 q6 q7 q8 q9
      subst hw hs q5 q6 q7 q8 q9
      exact h rfl
theorem eqv_ids : ∀ a b : List Id3, PyData.eqvAll (a.map Id3.dat) (b.map Id3.dat) = decide (a = b)
  | [], [] => rfl
  | [], _ :: _ => rfl
  | _ :: _, [] => rfl
  | i :: a, j :: b => by
    show (PyData.eqv i.dat j.dat && PyData.eqvAll (a.map Id3.dat) (b.map Id3.dat)) = _
    rw [eqv_ids a b, eqv_id]
    by_cases h : i = j <;> by_cases h2 : a = b <;> simp [h, h2]
/-! shaped -/
theorem asc_ok {z : Str} (h : Asc z) : PyData.canLay0 (.str z) = true := by
  show PyData.strOk z = true
  unfold PyData.strOk
  rw [Array.all_eq_true]
  intro i hi
  have := h (z.cps[i]) (Array.mem_toList_iff.mpr (Array.getElem_mem hi))
  exact decide_eq_true (by omega)
theorem oI_lay (o : Option Int) : PyData.canLay0 (oID o) = true := by cases o <;> rfl
theorem oS_lay {o : Option Str} (h : ∀ z, o = some z → Asc z) : PyData.canLay0 (oSD o) = true := by
  cases o with
  | none => rfl
  | some z => exact asc_ok (h z rfl)
theorem ints_lay (ns : List Int) : PyData.canLay0 (intsD ns) = true := SeqAt.canLay_of_shaped (shaped_ints ns)
theorem oR_lay (o : Option R4) : PyData.canLay0 (oRD o) = true := by
  cases o with
  | none => rfl
  | some r => exact ints_lay r.ns
theorem sh_lay (s : Sh) : PyData.canLay0 (.str s.str) = true := by cases s <;> decide +kernel
theorem id_lay {d : Id3} (h : d.ok) : PyData.canLay0 d.dat = true := by
  show (PyData.canLay0 (oID d.plot) && (PyData.canLay0 (.str d.role) && (PyData.canLay0 (.str d.key) && true))) = true
  rw [oI_lay, asc_ok h.ra, asc_ok h.ka]
  rfl
theorem prim_lay {p : Prim} (h : p.ok) : PyData.canLay0 p.dat = true := by
  show (PyData.canLay0 (oID p.who.plot) && (PyData.canLay0 (.str p.who.role) && (PyData.canLay0 (.str p.who.key) && (PyData.canLay0 (.str p.sh.str) && (PyData.canLay0 (intsD p.pts) && (PyData.canLay0 (.str p.text) && (PyData.canLay0 (oSD p.fill) && (PyData.canLay0 (oSD p.stroke) && (PyData.canLay0 (oRD p.clip) && true))))))))) = true
  rw [oI_lay, asc_ok h.who.ra, asc_ok h.who.ka, sh_lay, ints_lay, asc_ok h.asc.1, oS_lay h.asc.2.1, oS_lay h.asc.2.2, oR_lay]
  rfl
theorem oI_depth (o : Option Int) : (oID o).depth = 0 := by cases o <;> simp [oID, PyData.depth]
theorem oS_depth (o : Option Str) : (oSD o).depth = 0 := by cases o <;> simp [oSD, PyData.depth]
theorem ints_depth (ns : List Int) : (intsD ns).depth = 1 := by simp [intsD, PyData.depth, depth_ints]
theorem oR_depth (o : Option R4) : (oRD o).depth ≤ 1 := by
  cases o with
  | none => simp [oRD, PyData.depth]
  | some r => exact Nat.le_of_eq (ints_depth r.ns)
theorem id_depth (d : Id3) : d.dat.depth = 1 := by
  unfold Id3.dat
  simp [PyData.depth, PyData.depthAll, oI_depth]
theorem prim_depth (p : Prim) : p.dat.depth ≤ 2 := by
  unfold Prim.dat
  have := oR_depth p.clip
  simp [PyData.depth, PyData.depthAll, oI_depth, oS_depth, ints_depth]
  omega
theorem shaped_id {d : Id3} (h : d.ok) : SeqAt.shaped d.dat = true := Bool.and_eq_true_iff.mpr ⟨id_lay h, decide_eq_true (by rw [id_depth]; decide)⟩
theorem shaped_prim {p : Prim} (h : p.ok) : SeqAt.shaped p.dat = true := Bool.and_eq_true_iff.mpr ⟨prim_lay h, decide_eq_true (by have := prim_depth p; omega)⟩
theorem shaped_none : SeqAt.shaped .none = true := by decide +kernel
theorem ids_layAll : ∀ {ds : List Id3}, (∀ d ∈ ds, d.ok) → PyData.canLayAll0 (ds.map Id3.dat) = true
  | [], _ => rfl
  | d :: ds, h => by
    show (PyData.canLay0 d.dat && PyData.canLayAll0 (ds.map Id3.dat)) = true
    rw [id_lay (h d List.mem_cons_self), ids_layAll fun x hx => h x (List.mem_cons_of_mem _ hx)]
    rfl
theorem ids_depthAll : ∀ ds : List Id3, PyData.depthAll (ds.map Id3.dat) ≤ 1
  | [] => by simp [PyData.depthAll]
  | d :: ds => by
    have := ids_depthAll ds
    simp [PyData.depthAll, id_depth]
    omega
theorem shaped_ids {ds : List Id3} (h : ∀ d ∈ ds, d.ok) : SeqAt.shaped (.tuple (ds.map Id3.dat)) = true := by
  refine Bool.and_eq_true_iff.mpr ⟨ids_layAll h, decide_eq_true ?_⟩
  have := ids_depthAll ds
  simp [PyData.depth]
  omega
theorem shaped_idsL {ds : List Id3} (h : ∀ d ∈ ds, d.ok) : SeqAt.shaped (.list (ds.map Id3.dat)) = true := by
  refine Bool.and_eq_true_iff.mpr ⟨ids_layAll h, decide_eq_true ?_⟩
  have := ids_depthAll ds
  simp [PyData.depth]
  omega
theorem any_ids (k : Id3) : ∀ ds : List Id3, ((ds.map Id3.dat).any fun z => PyData.eqv z k.dat) = decide (k ∈ ds)
  | [] => by simp
  | d :: ds => by
    rw [List.map_cons, List.any_cons, any_ids k ds, eqv_id]
    by_cases h : d = k
    · subst h
      simp
    · have h' : ¬ k = d := fun z => h z.symm
      simp [h, h']
/-! shown -/
theorem len_small : ∀ n, n < 100 → (toString (Int.ofNat n) : Str).length ≤ 10 := by decide +kernel
theorem oI_showable {o : Option Int} (h : ∀ i, o = some i → 0 ≤ i ∧ i < 100) : PyData.showable (oID o) = true ∧ (PyData.shown (oID o)).length ≤ 10 := by
  cases o with
  | none => exact ⟨by simp [oID, PyData.showable], by simp only [oID, PyData.shown]; decide +kernel⟩
  | some i =>
    obtain ⟨h1, h2⟩ := h i rfl
    have h3 : i.natAbs < 2 ^ 10 := by omega
    refine ⟨?_, ?_⟩
    · simp only [oID, PyData.showable]
      refine decide_eq_true (Nat.lt_of_le_of_lt (?_ : i.natAbs.log2 ≤ 10) (by decide))
      by_cases h0 : i.natAbs = 0
      · rw [h0]
        decide
      · exact Nat.le_of_lt ((Nat.log2_lt h0).mpr h3)
    · simp only [oID, PyData.shown]
      obtain ⟨n, rfl⟩ := Int.eq_ofNat_of_zero_le h1
      have h4 : n < 100 := by omega
      exact len_small n h4
theorem id_hasDict (d : Id3) : d.dat.hasDict = false := by
  obtain ⟨p, r, k⟩ := d
  cases p <;> simp [Id3.dat, oID, PyData.hasDict, PyData.hasDictAll]
theorem asc_big {z : Str} (h : Asc z) : ∀ c ∈ z.cps.toList, c < 16 ^ 8 := fun c hc => Nat.lt_trans (h c hc) (by decide)
theorem id_showable {d : Id3} (h : d.ok) : PyData.showable d.dat = true := by
  show (PyData.showable (oID d.plot) && (true && (true && true))) = true
  rw [(oI_showable h.pl).1]
  rfl
theorem id_shown {d : Id3} (h : d.ok) : (PyData.shown d.dat).length ≤ 2100 := by
  have e : PyData.shown d.dat = tupleText [PyData.shown (oID d.plot), reprText d.role, reprText d.key] := by
    simp [Id3.dat, PyData.shown, PyData.shownAll]
  have h1 := (oI_showable h.pl).2
  have h2 := StrLaws.reprText_len d.role (asc_big h.ra)
  have h3 := StrLaws.reprText_len d.key (asc_big h.ka)
  have h4 := h.rl
  have h5 := h.kl
  have h6 := fmt_text [PyData.shown (oID d.plot), reprText d.role, reprText d.key]
  rw [piled_cons, piled_cons, piled_cons, piled_nil] at h6
  rw [e]
  omega
theorem ids_showable : ∀ {ds : List Id3}, (∀ d ∈ ds, d.ok) → PyData.showableAll (ds.map Id3.dat) = true
  | [], _ => rfl
  | d :: ds, h => by
    show (PyData.showable d.dat && PyData.showableAll (ds.map Id3.dat)) = true
    rw [id_showable (h d List.mem_cons_self), ids_showable fun x hx => h x (List.mem_cons_of_mem _ hx)]
    rfl
theorem ids_piled : ∀ {ds : List Id3}, (∀ d ∈ ds, d.ok) → piled (PyData.shownAll (ds.map Id3.dat)) ≤ 2110 * ds.length
  | [], _ => Nat.le_of_eq rfl
  | d :: ds, h => by
    have h1 := id_shown (h d List.mem_cons_self)
    have h2 := ids_piled fun x hx => h x (List.mem_cons_of_mem _ hx)
    show piled (PyData.shown d.dat :: PyData.shownAll (ds.map Id3.dat)) ≤ _
    rw [piled_cons, List.length_cons]
    omega
theorem ids_hasDictAll : ∀ ds : List Id3, PyData.hasDictAll (ds.map Id3.dat) = false
  | [] => rfl
  | d :: ds => by
    show (PyData.hasDict d.dat || PyData.hasDictAll (ds.map Id3.dat)) = false
    rw [id_hasDict, ids_hasDictAll ds]
    rfl
/-- repr of a tuple of identities is within the rule -/
theorem ids_repr {ds : List Id3} (h : ∀ d ∈ ds, d.ok) (hl : ds.length ≤ 1000) : PyData.showable (.tuple (ds.map Id3.dat)) = true ∧ PyData.hasDict (.tuple (ds.map Id3.dat)) = false ∧ PyData.depth (.tuple (ds.map Id3.dat)) ≤ 10 ∧ (PyData.shown (.tuple (ds.map Id3.dat))).length ≤ sizeLine := by
  have h1 := ids_depthAll ds
  have h2 := ids_piled h
  have h3 := fmt_text (PyData.shownAll (ds.map Id3.dat))
  have e : PyData.shown (.tuple (ds.map Id3.dat)) = tupleText (PyData.shownAll (ds.map Id3.dat)) := by simp [PyData.shown]
  refine ⟨ids_showable h, ids_hasDictAll ds, by simp [PyData.depth]; omega, ?_⟩
  rw [e, sizeLine_eq]
  omega
end Cs

namespace Cs
open PySem PySem.Spec PyProof.Rows L2
local macro_rules | `(tactic| walk_at "hp") => `(tactic| first | assumption)
local macro_rules | `(tactic| walk_at "num") => `(tactic| first | assumption | omega | decide)
local macro_rules | `(tactic| walk_at "rv") => `(tactic| first
  | (with_reducible exact rv_I0)
  | ((with_reducible apply rv_ixT); (walk_at "hp"); (rfl))
  | ((with_reducible apply rv_eq); (rfl))
  | ((with_reducible apply rv_ne); (rfl))
  | (with_reducible exact rv_isN)
  | (with_reducible exact rv_notN)
  | (with_reducible exact rv_inS)
  | ((with_reducible apply rv_I); (first | exact Or.inr ⟨by walk_at "num", by walk_at "num"⟩ | exact Or.inl ⟨by walk_at "num", by walk_at "num"⟩ | exact ⟨by walk_at "num", by walk_at "num"⟩ | exact ⟨by walk_at "num", by walk_at "num", by walk_at "num"⟩ | walk_at "num"))
  | ((with_reducible apply rv_ixS) <;> walk_at "num"))
local macro_rules | `(tactic| walk_at "rc") => `(tactic| first
  | (with_reducible exact rc_abs) | (with_reducible exact rc_max2) | (with_reducible exact rc_min2) | (with_reducible exact rc_int1)
  | ((with_reducible apply rc_lenT); walk_at "hp") | ((with_reducible apply rc_lenZ); walk_at "num"))
local macro_rules | `(tactic| walk_at "ev") => `(tactic| first
  | (with_reducible exact ev_c)
  | ((with_reducible apply ev_var); rfl)
  | ((with_reducible apply ev_op); (walk_at "ev"); (walk_at "ev"); (walk_at "rv"))
  | ((with_reducible apply ev_un); (walk_at "ev"); (exact ru_neg))
  | ((with_reducible apply ev_cb); (walk_at "ev"); (walk_at "rc"))
  | ((with_reducible apply ev_andV); (walk_at "ev"); (intro _; walk_at "ev"))
  | ((with_reducible apply ev_chain); (walk_at "ev"); (walk_at "ev"); (walk_at "rv"); (intro _; walk_at "ev"); (intro _; walk_at "rv"))
  | (with_reducible exact ea_nil)
  | ((with_reducible apply ea_cons); (walk_at "ev"); (walk_at "ev"))
  | ((with_reducible apply et_test); (walk_at "ev"))
  | ((with_reducible apply et_B); (walk_at "ev"))
  | ((with_reducible apply et_and); (walk_at "ev"); (intro _; walk_at "ev"))
  | ((with_reducible apply et_or); (walk_at "ev"); (intro _; walk_at "ev"))
  | ((with_reducible apply et_not); (walk_at "ev"))
  | (with_reducible exact eo_none)
  | ((with_reducible apply eo_some); (walk_at "ev")))
local macro_rules | `(tactic| walk_at "sz") => `(tactic| exact Nat.le_of_ble_eq_true rfl)
local macro_rules | `(tactic| walk_at "as") => `(tactic| ((with_reducible apply es_asg); (walk_at "ev")))
local macro_rules | `(tactic| walk_at "tp") => `(tactic| ((with_reducible apply ep_tup); (walk_at "ev"); (walk_at "sz")))
local macro_rules | `(tactic| walk_at "no") => `(tactic| ((with_reducible apply es_whenF); ((with_reducible apply et_is); (walk_at "ev"); (decide +kernel))))
local macro_rules | `(tactic| walk_at "yes") => `(tactic| ((with_reducible apply es_whenT); ((with_reducible apply et_is); (walk_at "ev"); (decide +kernel))))
section
variable {P : Program} {w : World} {K : PySem.W.Frag} {mg : Str → Option Value} {base : Heap}
/-! ### hull -/
theorem lc_box {σ : L2.St} {H : Hp} {tl te : TE} {vs : List Nat} {j : Nat} {a : Addr} {bs : List Addr} {rs : List R4} (f : R4 → Int) (h : Ev Same tl σ H (.ref a)) (ha : H a = some (.lst (bs.map V.ref))) (hr : RectsAt H bs rs) (hn : rs.length < 1000000)
    (hf : ∀ b r H1, RectAt H1 b r → Ev Same te ((wipe σ vs).set j (some (.ref b))) H1 (.int (f r))) (hwp : ∀ x, wipe ((wipe σ vs).set j (some x)) vs = wipe σ vs) : EvP Same (tLc (iList K tl) (gName j) tYes te vs) σ H (NewLv fun acc _ => acc = (rs.map f).map V.int) := by
  have hl := pair_len hr
  refine EvP.imp (lc_ofL (K := K) (a := a) (xs := bs.map V.ref) h (SqL.of ha) (by rw [List.length_map]; omega) (fun i acc _ => acc = ((rs.take i).map f).map V.int) (fun _ _ _ _ _ h => h) rfl ?_ hwp) ?_
  · intro i x acc H1 e hx hacc
    obtain ⟨b, rfl, hb⟩ := map_get hx
    obtain ⟨r, hr2, hr3⟩ := pair_get hr hb
    refine ⟨true, et_true, fun _ => EvP.imp (Ev.p (hf b r H1 (e _ _ hr3))) fun v H2 e2 hv => ?_, fun z => nomatch z⟩
    rw [hv, hacc, List.take_add_one, hr2, List.map_append, List.map_append]
    rfl
  · rintro v H2 e2 ⟨p, acc, hv, hp, hacc⟩
    refine ⟨p, acc, hv, hp, ?_⟩
    rw [hacc, List.length_map, hl, List.take_length]
def sp_hull (K : PySem.W.Frag) : Sp := fun vs H Q _ => ∃ a bs rs, vs = [.ref a] ∧ H a = some (.lst (bs.map V.ref)) ∧ RectsAt H bs rs ∧ (rs ≠ [] ∧ rs.length < 1000000) ∧ ∀ b r H2, Same H H2 → RectAt H2 b r → (∀ z ∈ rs, Encl r z) → Q (.ref b) H2
theorem ok_hull (T : Txt K mg) : FnOk P w K mg base CX0 1 (He.ga K "hull") (fdOf K (He.ga K "hull")) p_hull (sp_hull K) := by
  refine T.hull.fn.ok sc_hull (fun vs H Q E h => ?_) (fun cdv A outer s H vs Q E hr h => ?_)
  · obtain ⟨a, bs, rs, rfl, ha, hr, ⟨hne, hn⟩, q⟩ := h
    rfl
  · obtain ⟨a, bs, rs, rfl, ha, hr, ⟨hne, hn⟩, q⟩ := h
    refine ⟨_, (pss_cons (ps_if (pt_not (pt_truth (pv 0) (by intro _; rfl))) (pss_one (ps_ret pe_non)) pss_nil) (pss_cons (ps_set (i := 1) sc_hull.nd rfl (Or.inl rfl) (pe_callB (cr_min rfl) (by rfl) T.b_min PyProof.Rows.boot_min (pa_cons (pe_lc (own := [("box", 5)]) (g := gName 5) rfl sc_hull.nd (pi_list (pv 0)) (blkOk_by (own := [("box", 5)]) (N := n_hull) (sc := defScope s_hull) (by decide +kernel)) (fun _ _ _ _ _ => pg_name (i := 5) sc_hull.nd rfl (Or.inl rfl)) (fun _ _ _ _ _ => pts_nil) (fun _ _ _ _ _ => (pe_ix (r := rIxT K) ix_tup (pv 5) pe_int (fun _ _ => rfl)))) pa_nil))) (pss_cons (ps_set (i := 2) sc_hull.nd rfl (Or.inl rfl) (pe_callB (cr_min rfl) (by rfl) T.b_min PyProof.Rows.boot_min (pa_cons (pe_lc (own := [("box", 5)]) (g := gName 5) rfl sc_hull.nd (pi_list (pv 0)) (blkOk_by (own := [("box", 5)]) (N := n_hull) (sc := defScope s_hull) (by decide +kernel)) (fun _ _ _ _ _ => pg_name (i := 5) sc_hull.nd rfl (Or.inl rfl)) (fun _ _ _ _ _ => pts_nil) (fun _ _ _ _ _ => (pe_ix (r := rIxT K) ix_tup (pv 5) pe_int (fun _ _ => rfl)))) pa_nil))) (pss_cons (ps_set (i := 3) sc_hull.nd rfl (Or.inl rfl) (pe_callB (cr_max rfl) (by rfl) T.b_max PyProof.Rows.boot_max (pa_cons (pe_lc (own := [("box", 5)]) (g := gName 5) rfl sc_hull.nd (pi_list (pv 0)) (blkOk_by (own := [("box", 5)]) (N := n_hull) (sc := defScope s_hull) (by decide +kernel)) (fun _ _ _ _ _ => pg_name (i := 5) sc_hull.nd rfl (Or.inl rfl)) (fun _ _ _ _ _ => pts_nil) (fun _ _ _ _ _ => (pe_op op_add (pe_ix (r := rIxT K) ix_tup (pv 5) pe_int (fun _ _ => rfl)) (pe_ix (r := rIxT K) ix_tup (pv 5) pe_int (fun _ _ => rfl))))) pa_nil))) (pss_cons (ps_set (i := 4) sc_hull.nd rfl (Or.inl rfl) (pe_callB (cr_max rfl) (by rfl) T.b_max PyProof.Rows.boot_max (pa_cons (pe_lc (own := [("box", 5)]) (g := gName 5) rfl sc_hull.nd (pi_list (pv 0)) (blkOk_by (own := [("box", 5)]) (N := n_hull) (sc := defScope s_hull) (by decide +kernel)) (fun _ _ _ _ _ => pg_name (i := 5) sc_hull.nd rfl (Or.inl rfl)) (fun _ _ _ _ _ => pts_nil) (fun _ _ _ _ _ => (pe_op op_add (pe_ix (r := rIxT K) ix_tup (pv 5) pe_int (fun _ _ => rfl)) (pe_ix (r := rIxT K) ix_tup (pv 5) pe_int (fun _ _ => rfl))))) pa_nil))) (pss_one (ps_ret (pe_tup (pa_cons (pv 1) (pa_cons (pv 2) (pa_cons (pe_op op_sub (pv 3) (pv 1)) (pa_cons (pe_op op_sub (pv 4) (pv 2)) pa_nil)))))))))))), ?_⟩
    have hl := pair_len hr
    refine EvS.run (R := Same) (φ := fun v H2 => ∃ b r, v = .ref b ∧ RectAt H2 b r ∧ ∀ z ∈ rs, Encl r z) ?_ fun v H2 e2 ⟨b, r, p1, p2, p3⟩ => by rw [p1]; exact q b r H2 e2 p2 p3
    apply es_whenF
    · refine et_is (a := !(!(bs.map V.ref).isEmpty)) (et_not (et_truL (K := K) (a := a) (by walk_at "ev") (SqL.of ha))) ?_
      cases hr with
      | nil => exact absurd rfl hne
      | cons _ _ => rfl
    have hpos : ∀ f : R4 → Int, 0 < (rs.map f).length := fun f => by
      rw [List.length_map]
      exact List.length_pos_iff.mpr hne
    refine es_asgP (ep_minL (ns := rs.map R4.l) (lc_box R4.l (by walk_at "ev") ha hr hn (fun b r H1 hb => by walk_at "ev") (fun _ => rfl)) (hpos _)) ?_
    rintro v H1 e1 ⟨m1, rfl, hm1⟩
    have ha := e1 _ _ ha
    have hr := hr.keep e1
    refine es_asgP (ep_minL (ns := rs.map R4.t) (lc_box R4.t (by walk_at "ev") ha hr hn (fun b r H1 hb => by walk_at "ev") (fun _ => rfl)) (hpos _)) ?_
    rintro v H2 e2 ⟨m2, rfl, hm2⟩
    have ha := e2 _ _ ha
    have hr := hr.keep e2
    refine es_asgP (ep_maxL (ns := rs.map fun r => r.l + r.w) (lc_box (fun r => r.l + r.w) (by walk_at "ev") ha hr hn (fun b r H1 hb => by walk_at "ev") (fun _ => rfl)) (hpos _)) ?_
    rintro v H3 e3 ⟨m3, rfl, hm3⟩
    have ha := e3 _ _ ha
    have hr := hr.keep e3
    refine es_asgP (ep_maxL (ns := rs.map fun r => r.t + r.h) (lc_box (fun r => r.t + r.h) (by walk_at "ev") ha hr hn (fun b r H1 hb => by walk_at "ev") (fun _ => rfl)) (hpos _)) ?_
    rintro v H4 e4 ⟨m4, rfl, hm4⟩
    apply es_retP
    · walk_at "tp"
    · rintro v H5 e5 ⟨p, rfl, hp⟩
      refine ⟨p, ⟨m1, m2, m3 - m1, m4 - m2⟩, rfl, hp, fun z hz => ?_⟩
      have z1 := hm1 _ (List.mem_map_of_mem hz)
      have z2 := hm2 _ (List.mem_map_of_mem hz)
      have z3 := hm3 _ (List.mem_map_of_mem hz)
      have z4 := hm4 _ (List.mem_map_of_mem hz)
      refine ⟨⟨z1, ?_⟩, z2, ?_⟩
      · show z.l + z.w ≤ m1 + (m3 - m1)
        have z3 : z.l + z.w ≤ m3 := z3
        omega
      · show z.t + z.h ≤ m2 + (m4 - m2)
        have z4 : z.t + z.h ≤ m4 := z4
        omega
/-! ### by_identity, kept_names -/
def findId (ps : List Prim) (k : Id3) : Option Prim := ps.find? fun p => decide (p.who = k)
def Keyed (ps : List Prim) : Prop := (ps.map Prim.who).Nodup
def keptM (ps qs : List Prim) : List Id3 := (ps.filter fun p => decide (findId qs p.who = some p)).map Prim.who
structure Scn (H : Hp) (a : Addr) (w h : Int) (ps : List Prim) : Prop where
  at_ : SceneAt H a w h ps
  ok : ∀ p ∈ ps, p.ok
  len : ps.length ≤ 1000
  key : Keyed ps
theorem Scn.keep {R : Rl} [Rel R] {H H' : Hp} {a : Addr} {w h : Int} {ps : List Prim} (k : Scn H a w h ps) (e : R H H') : Scn H' a w h ps := ⟨k.at_.keep e, k.ok, k.len, k.key⟩
/-- what a table of primitives holds -/
structure IdMap (H : Hp) (kvs : List (Id3 × V)) (ps : List Prim) : Prop where
  keys : kvs.map Prod.fst = ps.map Prim.who
  no : ∀ k, findId ps k = none → valV kvs k = none
  yes : ∀ k p, findId ps k = some p → ∃ a, valV kvs k = some (.ref a) ∧ PrimAt H a p
theorem IdMap.keep {R : Rl} [Rel R] {H H' : Hp} {kvs : List (Id3 × V)} {ps : List Prim} (k : IdMap H kvs ps) (e : R H H') : IdMap H' kvs ps := ⟨k.keys, k.no, fun i p h => let ⟨a, h1, h2⟩ := k.yes i p h; ⟨a, h1, h2.keep e⟩⟩
def zipK : List Prim → List Addr → List (Id3 × V)
  | p :: ps, a :: as => (p.who, .ref a) :: zipK ps as
  | _, _ => []
theorem zipK_keys {H : Hp} : ∀ {as : List Addr} {ps : List Prim}, PrimsAt H as ps → (zipK ps as).map Prod.fst = ps.map Prim.who
  | _, _, .nil => rfl
  | _, _, .cons h t => by
    show _ :: (zipK _ _).map Prod.fst = _
    rw [zipK_keys t]
    rfl
theorem zipK_get {H : Hp} : ∀ {as : List Addr} {ps : List Prim} {i : Nat} {a : Addr} {p : Prim}, PrimsAt H as ps → as[i]? = some a → ps[i]? = some p → (zipK ps as)[i]? = some (p.who, .ref a)
  | _, _, i, a, p, .nil, e, _ => by simp at e
  | _, _, 0, a, p, .cons h t, e, e2 => by
    simp at e e2
    subst e e2
    rfl
  | _, _, i + 1, a, p, .cons h t, e, e2 => by
    have := zipK_get (i := i) t (by simpa using e) (by simpa using e2)
    simpa [zipK] using this
theorem zipK_map {H : Hp} : ∀ {as : List Addr} {ps : List Prim}, PrimsAt H as ps → IdMap H (zipK ps as) ps
  | _, _, .nil => ⟨rfl, fun _ _ => rfl, fun k p h => nomatch h⟩
  | _, _, .cons (a := a) (b := q) h t => by
    have ih := zipK_map t
    refine ⟨zipK_keys (.cons h t), fun k hk => ?_, fun k p hp => ?_⟩
    · unfold findId at hk
      rw [List.find?_cons] at hk
      by_cases e : q.who = k
      · rw [decide_eq_true e] at hk
        cases hk
      · rw [decide_eq_false e] at hk
        rw [zipK, valV_neg e]
        exact ih.no k hk
    · unfold findId at hp
      rw [List.find?_cons] at hp
      by_cases e : q.who = k
      · rw [decide_eq_true e] at hp
        injection hp with hp
        subst hp
        rw [zipK, valV_pos e]
        exact ⟨a, rfl, h⟩
      · rw [decide_eq_false e] at hp
        rw [zipK, valV_neg e]
        exact ih.yes k p hp
theorem nd_take {α : Type} : ∀ {l : List α} {i : Nat} {x : α}, l.Nodup → l[i]? = some x → x ∉ l.take i
  | [], _, _, _, e => by simp at e
  | _ :: _, 0, _, _, _ => by simp
  | a :: l, i + 1, x, h, e => by
    have e' : l[i]? = some x := by simpa using e
    rw [List.take_succ_cons, List.mem_cons]
    rintro (h1 | h1)
    · subst h1
      exact (List.nodup_cons.mp h).1 (List.mem_of_getElem? e')
    · exact nd_take (List.nodup_cons.mp h).2 e' h1
theorem put_take {l : List (Id3 × V)} {i : Nat} {k : Id3} {v : V} (hn : (l.map Prod.fst).Nodup) (h : l[i]? = some (k, v)) : putK (l.take i) k v = l.take (i + 1) := by
  have h1 : k ∉ (l.map Prod.fst).take i := nd_take hn (by rw [List.getElem?_map, h]; rfl)
  rw [← List.map_take] at h1
  rw [putK_new v (valV_none.mpr h1), List.take_add_one, h]
  rfl
def sp_by_identity (P : Program) (w : World) (K : PySem.W.Frag) : Sp := fun vs H Q _ => ∃ a wd h ps, vs = [.ref a] ∧ Scn H a wd h ps ∧ ∀ d kvs H2, Same H H2 → ND P w H2 d kvs → IdMap H2 kvs ps → Q (.ref d) H2
theorem ok_by_identity (T : Txt K mg) : FnOk P w K mg base CX0 2 (He.ga K "by_identity") (fdOf K (He.ga K "by_identity")) p_by_identity (sp_by_identity P w K) := by
  refine T.by_identity.fn.ok sc_by_identity (fun vs H Q E h => ?_) (fun cdv A outer s H vs Q E hr h => ?_)
  · obtain ⟨a, wd, h, ps, rfl, k, q⟩ := h
    rfl
  · obtain ⟨a, wd, h, ps, rfl, k, q⟩ := h
    refine ⟨_, (pss_one (ps_ret (pe_dcN (hu65 hr) (own := [("primitive", 1)]) (g := gName 1) rfl sc_by_identity.nd (pi_tup (pe_ix (r := rIxT K) ix_tup (pv 0) pe_int (fun _ _ => rfl))) (blkOk_by (own := [("primitive", 1)]) (N := n_by_identity) (sc := defScope s_by_identity) (by decide +kernel)) (fun _ _ _ _ _ => pg_name (i := 1) sc_by_identity.nd rfl (Or.inl rfl)) (fun _ _ _ _ _ => pts_nil) (fun _ _ _ _ _ => (pe_call (ok_identity T) (hr.mono (by decide)) (by rfl) T.identity.mg T.identity.fn.kp (bd_identity T) .nil pass0 (pa_cons (pv 1) pa_nil))) (fun _ _ _ _ _ => (pv 1))))), ?_⟩
    obtain ⟨ta, as, h1, h2, h3⟩ := id k.at_
    have hl := pair_len h3
    have hk := k.len
    refine EvS.run (R := Same) (φ := fun v H2 => ∃ d kvs, v = .ref d ∧ ND P w H2 d kvs ∧ IdMap H2 kvs ps) ?_ fun v H2 e2 ⟨d, kvs, p1, p2, p3⟩ => by rw [p1]; exact q d kvs H2 e2 p2 p3
    apply es_retP
    · refine dc_ofT (K := K) (a := ta) (xs := as.map V.ref) (by walk_at "ev") h2 (by rw [List.length_map]; omega) (fun i acc => acc = (zipK ps as).take i) rfl ?_ (fun _ => rfl)
      intro i x acc H1 e hx hacc
      obtain ⟨b, rfl, hb⟩ := map_get hx
      obtain ⟨p, hp, hpa⟩ := pair_get h3 hb
      refine ⟨true, et_true, fun _ => ⟨p.who, .ref b, ep_call (by walk_at "ev") (spv_ident (K := K) (hpa.keep e)), fun H2 e2 => by walk_at "ev", ?_⟩, fun z => nomatch z⟩
      rw [hacc]
      exact put_take (by rw [zipK_keys h3]; exact k.key) (zipK_get h3 hb hp)
    · rintro v H2 e2 ⟨d, kvs, rfl, hd, hkv⟩
      rw [List.take_of_length_le (by
        have := congrArg List.length (zipK_keys h3)
        rw [List.length_map, List.length_map] at this
        rw [List.length_map]
        omega)] at hkv
      subst hkv
      exact ⟨d, _, rfl, hd, (zipK_map h3).keep e2⟩
theorem spv_byid {a : Addr} {wd h : Int} {ps : List Prim} {H : Hp} (k : Scn H a wd h ps) : SpV Same (sp_by_identity P w K) [.ref a] H (fun v H2 => ∃ d kvs, v = .ref d ∧ ND P w H2 d kvs ∧ IdMap H2 kvs ps) := fun H1 e Q q E => ⟨a, wd, h, ps, rfl, k.keep e, fun d kvs H2 e2 h1 h2 => q _ H2 e2 ⟨d, kvs, rfl, h1, h2⟩⟩
/-- what get gives, as data -/
def oPD : Option Prim → PyData
  | none => .none
  | some p => p.dat
theorem idmap_dp {H : Hp} {kvs : List (Id3 × V)} {ps : List Prim} (m : IdMap H kvs ps) (k : Id3) : Dp K H ((valV kvs k).getD .non) (oPD (findId ps k)) := by
  cases h : findId ps k with
  | none =>
    rw [m.no k h]
    exact .non
  | some p =>
    obtain ⟨a, h1, h2⟩ := m.yes k p h
    rw [h1]
    exact prim_dp h2
theorem eqv_oP (o : Option Prim) (p : Prim) : PyData.eqv (oPD o) p.dat = decide (o = some p) := by
  cases o with
  | none => rfl
  | some q =>
    show PyData.eqv q.dat p.dat = _
    rw [eqv_prim]
    by_cases h : q = p
    · subst h
      simp
    · rw [decide_eq_false h, decide_eq_false (fun z => h (Option.some.inj z))]
theorem findId_mem {ps : List Prim} {k : Id3} {p : Prim} (h : findId ps k = some p) : p ∈ ps ∧ p.who = k := ⟨List.mem_of_find?_eq_some h, by
  have e := List.find?_some (p := fun p : Prim => decide (p.who = k)) (show List.find? (fun p : Prim => decide (p.who = k)) ps = some p from h)
  exact of_decide_eq_true e⟩
theorem shaped_oP {ps : List Prim} (h : ∀ p ∈ ps, p.ok) (k : Id3) : SeqAt.shaped (oPD (findId ps k)) = true := by
  cases e : findId ps k with
  | none => exact shaped_none
  | some p => exact shaped_prim (h p (findId_mem e).1)
/-- d.get(identity(p)) == p -/
theorem ev_old {σ : L2.St} {H : Hp} {td ty tp : TE} {d a : Addr} {kvs : List (Id3 × V)} {ps : List Prim} {p : Prim} (h1 : Ev Same td σ H (.ref d)) (hd : ND P w H d kvs) (m : IdMap H kvs ps) (hok : ∀ p ∈ ps, p.ok) (hy : EvP Same ty σ H (AnId p.who)) (hp : Ev Same tp σ H (.ref a)) (ha : PrimAt H a p) (hpo : p.ok) :
    Ev Same (tOp (rEqD K) (tGetN1 P w td ty) tp) σ H (.bl (decide (findId ps p.who = some p))) := by
  rw [← eqv_oP]
  exact ev_op (ev_getN1 h1 hd hy) hp (rv_eqD (idmap_dp m p.who) (prim_dp ha) (shaped_oP hok _) (shaped_prim hpo))
theorem ev_oldN {σ : L2.St} {H : Hp} {td ty tp : TE} {d a : Addr} {kvs : List (Id3 × V)} {ps : List Prim} {p : Prim} (h1 : Ev Same td σ H (.ref d)) (hd : ND P w H d kvs) (m : IdMap H kvs ps) (hok : ∀ p ∈ ps, p.ok) (hy : EvP Same ty σ H (AnId p.who)) (hp : Ev Same tp σ H (.ref a)) (ha : PrimAt H a p) (hpo : p.ok) :
    Ev Same (tOp (rNeD K) (tGetN1 P w td ty) tp) σ H (.bl (!decide (findId ps p.who = some p))) := by
  rw [← eqv_oP]
  exact ev_op (ev_getN1 h1 hd hy) hp (rv_neD (idmap_dp m p.who) (prim_dp ha) (shaped_oP hok _) (shaped_prim hpo))
/-- identities gathered -/
def IdsLv (ps : List Prim) (f : Prim → Bool) (i : Nat) (acc : List V) (H : Hp) : Prop := ∃ bs, acc = bs.map V.ref ∧ IdsAt H bs (((ps.take i).filter f).map Prim.who)
theorem idsLv_kt {ps : List Prim} {f : Prim → Bool} (i : Nat) (l : List V) (H1 H2 : Hp) (e : KT H1 H2) (h : IdsLv ps f i l H1) : IdsLv ps f i l H2 := by
  obtain ⟨bs, e1, e2⟩ := h
  exact ⟨bs, e1, e2.kt e⟩
theorem idsLv_step {ps : List Prim} {f : Prim → Bool} {i : Nat} {acc : List V} {H : Hp} {v : V} {p : Prim} (h : IdsLv ps f i acc H) (hp : ps[i]? = some p) (hf : f p = true) (hv : AnId p.who v H) : IdsLv ps f (i + 1) (acc ++ [v]) H := by
  obtain ⟨bs, rfl, hb⟩ := h
  obtain ⟨b, rfl, hb2⟩ := hv
  refine ⟨bs ++ [b], by rw [List.map_append]; rfl, ?_⟩
  rw [take_filter hp, if_pos hf, List.map_append]
  exact pair_snoc hb hb2
theorem idsLv_skip {ps : List Prim} {f : Prim → Bool} {i : Nat} {acc : List V} {H : Hp} {p : Prim} (h : IdsLv ps f i acc H) (hp : ps[i]? = some p) (hf : f p = false) : IdsLv ps f (i + 1) acc H := by
  obtain ⟨bs, e, hb⟩ := h
  refine ⟨bs, e, ?_⟩
  rw [take_filter hp, if_neg (by rw [hf]; decide)]
  exact hb
/-- a list of identities at a -/
def IdL (H : Hp) (a : Addr) (ds : List Id3) : Prop := ∃ bs, H a = some (.lst (bs.map V.ref)) ∧ IdsAt H bs ds
def IdT (H : Hp) (a : Addr) (ds : List Id3) : Prop := ∃ bs, H a = some (.tup (bs.map V.ref)) ∧ IdsAt H bs ds
theorem IdT.keep {R : Rl} [Rel R] {H H' : Hp} {a : Addr} {ds : List Id3} (h : IdT H a ds) (e : R H H') : IdT H' a ds := let ⟨bs, h1, h2⟩ := h; ⟨bs, Rel.tup e h1, h2.keep e⟩
theorem IdL.keep {H H' : Hp} {a : Addr} {ds : List Id3} (h : IdL H a ds) (e : Same H H') : IdL H' a ds := let ⟨bs, h1, h2⟩ := h; ⟨bs, e _ _ h1, h2.keep e⟩
theorem idsLv_end {ps : List Prim} {f : Prim → Bool} {v : V} {H : Hp} {n : Nat} (hn : n = ps.length) (h : NewLv (IdsLv ps f n) v H) : ∃ a, v = .ref a ∧ IdL H a ((ps.filter f).map Prim.who) := by
  obtain ⟨p, acc, hv, hp, bs, e, hb⟩ := h
  subst e hn
  rw [List.take_length] at hb
  exact ⟨p, hv, bs, hp, hb⟩
def sp_kept_names (K : PySem.W.Frag) : Sp := fun vs H Q _ => ∃ a b w1 h1 w2 h2 ps qs, vs = [.ref a, .ref b] ∧ Scn H a w1 h1 ps ∧ Scn H b w2 h2 qs ∧ ∀ l H2, Same H H2 → IdL H2 l (keptM ps qs) → Q (.ref l) H2
theorem ok_kept_names (T : Txt K mg) : FnOk P w K mg base CX0 3 (He.ga K "kept_names") (fdOf K (He.ga K "kept_names")) p_kept_names (sp_kept_names K) := by
  refine T.kept_names.fn.ok sc_kept_names (fun vs H Q E h => ?_) (fun cdv A outer s H vs Q E hr h => ?_)
  · obtain ⟨a, b, w1, h1, w2, h2, ps, qs, rfl, k1, k2, q⟩ := h
    rfl
  · obtain ⟨a, b, w1, h1, w2, h2, ps, qs, rfl, k1, k2, q⟩ := h
    refine ⟨_, (pss_cons (ps_set (i := 2) sc_kept_names.nd rfl (Or.inr rfl) (pe_call (ok_by_identity T) (hr.mono (by decide)) (by rfl) T.by_identity.mg T.by_identity.fn.kp (bd_by_identity T) .nil pass0 (pa_cons (pv 1) pa_nil))) (pss_one (ps_ret (pe_lc (own := [("primitive", 3)]) (g := gName 3) rfl sc_kept_names.nd (pi_tup (pe_ix (r := rIxT K) ix_tup (pv 0) pe_int (fun _ _ => rfl))) (blkOk_by (own := [("primitive", 3)]) (N := n_kept_names) (sc := defScope s_kept_names) (by decide +kernel)) (fun _ _ _ _ _ => pg_name (i := 3) sc_kept_names.nd rfl (Or.inl rfl)) (fun _ _ _ _ _ => (pts_one (pt_cmpR (r := rEqD K) (op_eqD hr.units) (pe_getN1 (P := P) (w := w) (pv 2) (pe_call (ok_identity T) (hr.mono (by decide)) (by rfl) T.identity.mg T.identity.fn.kp (bd_identity T) .nil pass0 (pa_cons (pv 3) pa_nil))) (pv 3) (nomark _)))) (fun _ _ _ _ _ => (pe_call (ok_identity T) (hr.mono (by decide)) (by rfl) T.identity.mg T.identity.fn.kp (bd_identity T) .nil pass0 (pa_cons (pv 3) pa_nil))))))), ?_⟩
    refine EvS.run (R := Same) (φ := fun v H2 => ∃ l, v = .ref l ∧ IdL H2 l (keptM ps qs)) ?_ fun v H2 e2 ⟨l, p1, p2⟩ => by rw [p1]; exact q l H2 e2 p2
    refine es_asgP (ep_call (by walk_at "ev") (spv_byid (P := P) (w := w) (K := K) k2)) ?_
    rintro v H1 e1 ⟨d, kvs, rfl, hd, m⟩
    have k1 := k1.keep e1
    obtain ⟨ta, as, g1, g2, g3⟩ := id k1.at_
    have hl := pair_len g3
    have hk := k1.len
    apply es_retP
    · refine lc_ofT (K := K) (a := ta) (xs := as.map V.ref) (by walk_at "ev") g2 (by rw [List.length_map]; omega) (IdsLv ps fun p => decide (findId qs p.who = some p)) idsLv_kt ⟨[], rfl, .nil⟩ ?_ (fun _ => rfl)
      intro i x acc H2 e hx hacc
      obtain ⟨c, rfl, hc⟩ := map_get hx
      obtain ⟨p, hp, hpa⟩ := pair_get g3 hc
      have hpa := hpa.keep e
      have hpo := k1.ok p (List.mem_of_getElem? hp)
      refine ⟨decide (findId qs p.who = some p), ?_, fun hh => ?_, fun hh => ?_⟩
      · apply et_test
        exact ev_old (by walk_at "ev") (hd.keep e) (m.keep e) k2.ok (ep_call (by walk_at "ev") (spv_ident (K := K) hpa)) (by walk_at "ev") hpa hpo
      · refine EvP.imp (ep_call (by walk_at "ev") (spv_ident (K := K) hpa)) fun v H3 e3 hv => ?_
        exact idsLv_step (idsLv_kt _ _ _ _ (kt_of e3) hacc) hp hh hv
      · exact idsLv_skip hacc hp hh
    · intro v H2 e2 hv
      exact idsLv_end (by rw [List.length_map, hl]) hv
theorem spv_kept {a b : Addr} {w1 h1 w2 h2 : Int} {ps qs : List Prim} {H : Hp} (k1 : Scn H a w1 h1 ps) (k2 : Scn H b w2 h2 qs) : SpV Same (sp_kept_names K) [.ref a, .ref b] H (fun v H2 => ∃ l, v = .ref l ∧ IdL H2 l (keptM ps qs)) := fun H1 e Q q E => ⟨a, b, w1, h1, w2, h2, ps, qs, rfl, k1.keep e, k2.keep e, fun l H2 e2 h => q _ H2 e2 ⟨l, rfl, h⟩⟩
end
end Cs

namespace Cs
open PySem PySem.Spec PyProof.Rows L2
/-! ### plain facts -/
theorem findId_iff : ∀ {qs : List Prim} {p : Prim}, Keyed qs → (findId qs p.who = some p ↔ p ∈ qs)
  | [], p, _ => by simp [findId]
  | q :: qs, p, hk => by
    have hk' := List.nodup_cons.mp (show (q.who :: qs.map Prim.who).Nodup from hk)
    have ih := findId_iff (p := p) (show Keyed qs from hk'.2)
    unfold findId at ih ⊢
    rw [List.find?_cons]
    by_cases e : q.who = p.who
    · rw [decide_eq_true e]
      constructor
      · intro h
        injection h with h
        rw [h]
        exact List.mem_cons_self
      · intro h
        rcases List.mem_cons.mp h with h | h
        · rw [h]
        · exfalso
          rw [e] at hk'
          exact hk'.1 (List.mem_map_of_mem h)
    · rw [decide_eq_false e]
      show List.find? _ qs = some p ↔ _
      rw [ih]
      constructor
      · exact List.mem_cons_of_mem _
      · intro h
        rcases List.mem_cons.mp h with h | h
        · exact absurd (by rw [h]) e
        · exact h
theorem keptM_eq {ps qs : List Prim} (hk : Keyed qs) : keptM ps qs = (ps.filter fun p => decide (p ∈ qs)).map Prim.who := by
  unfold keptM
  congr 1
  refine List.filter_congr fun p _ => ?_
  by_cases h : p ∈ qs
  · rw [decide_eq_true h, decide_eq_true ((findId_iff hk).mpr h)]
  · rw [decide_eq_false h, decide_eq_false fun z => h ((findId_iff hk).mp z)]
theorem keyed_nodup {ps : List Prim} (h : Keyed ps) : ps.Nodup := List.Pairwise.of_map Prim.who (fun a b hne e => hne (by rw [e])) h
theorem keyed_inj {ps : List Prim} (h : Keyed ps) {p q : Prim} (hp : p ∈ ps) (hq : q ∈ ps) (e : p.who = q.who) : p = q := by
  have h1 := (findId_iff h).mpr hp
  have h2 := (findId_iff h).mpr hq
  rw [e, h2] at h1
  exact (Option.some.inj h1).symm
theorem kept_len {ps qs : List Prim} (h1 : Keyed ps) (h2 : Keyed qs) : (keptM ps qs).length = (keptM qs ps).length := by
  rw [keptM_eq h2, keptM_eq h1, List.length_map, List.length_map]
  refine List.Perm.length_eq ((List.perm_ext_iff_of_nodup ((keyed_nodup h1).filter _) ((keyed_nodup h2).filter _)).mpr fun p => ?_)
  simp only [List.mem_filter, decide_eq_true_eq]
  exact And.comm
/-- where two lists differ -/
def diffs (b a : List Id3) : List Nat := (List.range b.length).filter fun k => !decide (b[k]? = a[k]?)
theorem diffs_sorted (b a : List Id3) : (diffs b a).Pairwise (· < ·) := List.Pairwise.filter _ List.pairwise_lt_range
theorem diffs_mem {b a : List Id3} {k : Nat} : k ∈ diffs b a ↔ k < b.length ∧ b[k]? ≠ a[k]? := by
  unfold diffs
  rw [List.mem_filter, List.mem_range]
  simp
/-- what moves, between what stays -/
def Split (b a M : List Id3) : Prop := ∃ A M' C, b = A ++ (M ++ C) ∧ a = A ++ (M' ++ C)
theorem split_none {b a : List Id3} (hl : b.length = a.length) (h : diffs b a = []) : Split b a [] := by
  have e : b = a := by
    apply List.ext_getElem?
    intro k
    by_cases hk : k < b.length
    · by_cases e : b[k]? = a[k]?
      · exact e
      · have : k ∈ diffs b a := diffs_mem.mpr ⟨hk, e⟩
        rw [h] at this
        exact absurd this List.not_mem_nil
    · rw [List.getElem?_eq_none (by omega), List.getElem?_eq_none (by omega)]
  exact ⟨b, [], [], by simp, by simp [e]⟩
theorem split_some {b a : List Id3} {i0 i1 : Nat} (hl : b.length = a.length) (h0 : ∀ k ∈ diffs b a, i0 ≤ k) (h1 : ∀ k ∈ diffs b a, k ≤ i1) (h01 : i0 ≤ i1) : Split b a ((b.drop i0).take (i1 + 1 - i0)) := by
  have same : ∀ k, (k < i0 ∨ i1 < k) → b[k]? = a[k]? := by
    intro k hk
    by_cases hb : k < b.length
    · by_cases e : b[k]? = a[k]?
      · exact e
      · have m := diffs_mem.mpr ⟨hb, e⟩
        have := h0 k m
        have := h1 k m
        omega
    · rw [List.getElem?_eq_none (by omega), List.getElem?_eq_none (by omega)]
  have eA : b.take i0 = a.take i0 := by
    apply List.ext_getElem?
    intro k
    rw [List.getElem?_take, List.getElem?_take]
    split
    · exact same k (.inl (by assumption))
    · rfl
  have eC : b.drop (i1 + 1) = a.drop (i1 + 1) := by
    apply List.ext_getElem?
    intro k
    rw [List.getElem?_drop, List.getElem?_drop]
    exact same _ (.inr (by omega))
  have cut : ∀ l : List Id3, l = l.take i0 ++ ((l.drop i0).take (i1 + 1 - i0) ++ l.drop (i1 + 1)) := by
    intro l
    have e1 : l.drop (i1 + 1) = (l.drop i0).drop (i1 + 1 - i0) := by
      rw [List.drop_drop]
      congr 1
      omega
    rw [e1, List.take_append_drop, List.take_append_drop]
  refine ⟨b.take i0, (a.drop i0).take (i1 + 1 - i0), b.drop (i1 + 1), cut b, ?_⟩
  rw [eA, eC]
  exact cut a
/-! outside the damage nothing changes -/
/-- a primitive stands still -/
def Still (ps qs : List Prim) (M : List Id3) (k : Id3) : Prop := k ∈ keptM ps qs ∧ k ∉ M
theorem still_mem {ps qs : List Prim} (h2 : Keyed qs) {p : Prim} (h1 : Keyed ps) (hp : p ∈ ps) (h : p.who ∈ keptM ps qs) : p ∈ qs := by
  rw [keptM_eq h2] at h
  obtain ⟨q, hq, e⟩ := List.mem_map.mp h
  rw [List.mem_filter, decide_eq_true_eq] at hq
  rw [← keyed_inj h1 hq.1 hp e]
  exact hq.2
theorem kept_comm {ps qs : List Prim} (h1 : Keyed ps) (h2 : Keyed qs) {k : Id3} (h : k ∈ keptM ps qs) : k ∈ keptM qs ps := by
  rw [keptM_eq h2] at h
  rw [keptM_eq h1]
  obtain ⟨p, hp, e⟩ := List.mem_map.mp h
  rw [List.mem_filter, decide_eq_true_eq] at hp
  exact List.mem_map.mpr ⟨p, List.mem_filter.mpr ⟨hp.2, decide_eq_true hp.1⟩, e⟩
/-- two lists of the same primitives by the same identities -/
theorem same_of_who : ∀ {l1 l2 : List Prim}, l1.map Prim.who = l2.map Prim.who → (∀ p ∈ l1, ∀ q ∈ l2, p.who = q.who → p = q) → l1 = l2
  | [], [], _, _ => rfl
  | [], _ :: _, e, _ => by simp at e
  | _ :: _, [], e, _ => by simp at e
  | p :: l1, q :: l2, e, h => by
    rw [List.map_cons, List.map_cons] at e
    injection e with e1 e2
    rw [h p List.mem_cons_self q List.mem_cons_self e1, same_of_who e2 fun a ha b hb => h a (List.mem_cons_of_mem _ ha) b (List.mem_cons_of_mem _ hb)]
theorem nodup_mid {A M C : List Id3} (h : (A ++ (M ++ C)).Nodup) : (A ++ (M ++ C)).filter (fun k => !decide (k ∈ M)) = A ++ C := by
  have h1 := List.nodup_append.mp h
  have h2 := List.nodup_append.mp h1.2.1
  rw [List.filter_append, List.filter_append]
  have eA : A.filter (fun k => !decide (k ∈ M)) = A := by
    rw [List.filter_eq_self]
    intro k hk
    have : k ∉ M := fun z => h1.2.2 k hk k (List.mem_append_left _ z) rfl
    simp [this]
  have eC : C.filter (fun k => !decide (k ∈ M)) = C := by
    rw [List.filter_eq_self]
    intro k hk
    have : k ∉ M := fun z => h2.2.2 k z k hk rfl
    simp [this]
  have eM : M.filter (fun k => !decide (k ∈ M)) = [] := by
    rw [List.filter_eq_nil_iff]
    intro k hk
    simp [hk]
  rw [eA, eC, eM, List.nil_append]
theorem kept_nodup {ps qs : List Prim} (h1 : Keyed ps) : (keptM ps qs).Nodup := List.Nodup.sublist (List.Sublist.map _ List.filter_sublist) h1
theorem kept_still {ps qs : List Prim} (h2 : Keyed qs) (M : List Id3) : (ps.filter fun p => decide (p ∈ qs) && !decide (p.who ∈ M)).map Prim.who = (keptM ps qs).filter fun k => !decide (k ∈ M) := by
  rw [keptM_eq h2, List.filter_map, ← List.filter_filter]
  congr 1
  rw [List.filter_filter, List.filter_filter]
  refine List.filter_congr fun p _ => ?_
  exact Bool.and_comm _ _
theorem still_same {ps qs : List Prim} {M : List Id3} (h1 : Keyed ps) (h2 : Keyed qs) (hs : Split (keptM ps qs) (keptM qs ps) M) :
    (ps.filter fun p => decide (p ∈ qs) && !decide (p.who ∈ M)) = qs.filter fun p => decide (p ∈ ps) && !decide (p.who ∈ M) := by
  refine same_of_who ?_ fun p hp q hq e => ?_
  · rw [kept_still h2, kept_still h1]
    obtain ⟨A, M', C, e1, e2⟩ := hs
    have n1 := kept_nodup (qs := qs) h1
    have n2 := kept_nodup (qs := ps) h2
    have hM : ∀ k ∈ M', k ∈ M := by
      intro k hk
      have ha : k ∈ keptM qs ps := by
        rw [e2]
        exact List.mem_append_right _ (List.mem_append_left _ hk)
      have hb := kept_comm h2 h1 ha
      rw [e1] at hb
      rw [e2] at n2
      have m1 := List.nodup_append.mp n2
      have m2 := List.nodup_append.mp m1.2.1
      rcases List.mem_append.mp hb with h | h
      · exact absurd rfl (m1.2.2 k h k (List.mem_append_left _ hk))
      · rcases List.mem_append.mp h with h | h
        · exact h
        · exact absurd rfl (m2.2.2 k hk k h)
    have hM2 : ∀ k ∈ M, k ∈ M' := by
      intro k hk
      have ha : k ∈ keptM ps qs := by
        rw [e1]
        exact List.mem_append_right _ (List.mem_append_left _ hk)
      have hb := kept_comm h1 h2 ha
      rw [e2] at hb
      rw [e1] at n1
      have m1 := List.nodup_append.mp n1
      have m2 := List.nodup_append.mp m1.2.1
      rcases List.mem_append.mp hb with h | h
      · exact absurd rfl (m1.2.2 k h k (List.mem_append_left _ hk))
      · rcases List.mem_append.mp h with h | h
        · exact h
        · exact absurd rfl (m2.2.2 k hk k h)
    have ef : (fun k : Id3 => !decide (k ∈ M)) = fun k => !decide (k ∈ M') := by
      funext k
      by_cases h : k ∈ M
      · rw [decide_eq_true h, decide_eq_true (hM2 k h)]
      · rw [decide_eq_false h, decide_eq_false fun z => h (hM k z)]
    have x1 : (keptM ps qs).filter (fun k => !decide (k ∈ M)) = A ++ C := by
      rw [e1] at n1 ⊢
      exact nodup_mid n1
    have x2 : (keptM qs ps).filter (fun k => !decide (k ∈ M)) = A ++ C := by
      rw [ef]
      rw [e2] at n2 ⊢
      exact nodup_mid n2
    rw [x1, x2]
  · rw [List.mem_filter, Bool.and_eq_true, decide_eq_true_eq] at hp hq
    exact keyed_inj h1 hp.1 hq.2.1 e
theorem hit_same {ps qs : List Prim} {M : List Id3} {x y : Int} (h1 : Keyed ps) (h2 : Keyed qs) (hs : Split (keptM ps qs) (keptM qs ps) M) (d1 : ∀ p ∈ ps, Prim.hit x y p = true → Still ps qs M p.who) (d2 : ∀ p ∈ qs, Prim.hit x y p = true → Still ps qs M p.who) :
    ps.filter (Prim.hit x y) = qs.filter (Prim.hit x y) := by
  have e := still_same h1 h2 hs
  have k1 : ps.filter (Prim.hit x y) = (ps.filter fun p => decide (p ∈ qs) && !decide (p.who ∈ M)).filter (Prim.hit x y) := by
    rw [List.filter_filter]
    refine List.filter_congr fun p hp => ?_
    cases hh : Prim.hit x y p with
    | false => rfl
    | true =>
      obtain ⟨s1, s2⟩ := d1 p hp hh
      rw [decide_eq_true (still_mem h2 h1 hp s1), decide_eq_false s2]
      rfl
  have k2 : qs.filter (Prim.hit x y) = (qs.filter fun p => decide (p ∈ ps) && !decide (p.who ∈ M)).filter (Prim.hit x y) := by
    rw [List.filter_filter]
    refine List.filter_congr fun p hp => ?_
    cases hh : Prim.hit x y p with
    | false => rfl
    | true =>
      obtain ⟨s1, s2⟩ := d2 p hp hh
      rw [decide_eq_true (still_mem h1 h2 hp (kept_comm h1 h2 s1)), decide_eq_false s2]
      rfl
  rw [k1, k2, e]
theorem firstC_filter (x y : Int) : ∀ l : List Prim, firstC x y (l.filter (Prim.hit x y)) = firstC x y l
  | [] => rfl
  | p :: l => by
    rw [List.filter_cons]
    cases hh : p.paint x y with
    | none =>
      have hn : Prim.hit x y p = false := by
        unfold Prim.hit
        rw [hh]
        rfl
      rw [if_neg (by rw [hn]; decide), firstC_filter x y l]
      show _ = match p.paint x y with | some c => c | none => firstC x y l
      rw [hh]
    | some c =>
      have hn : Prim.hit x y p = true := by
        unfold Prim.hit
        rw [hh]
        rfl
      rw [if_pos hn]
      show (match p.paint x y with | some c => c | none => firstC x y (l.filter (Prim.hit x y))) = match p.paint x y with | some c => c | none => firstC x y l
      rw [hh]
theorem hitsM_of {ps qs : List Prim} {x y : Int} (h : ps.filter (Prim.hit x y) = qs.filter (Prim.hit x y)) : hitsM ps x y = hitsM qs x y := by
  unfold hitsM
  rw [List.filter_reverse, List.filter_reverse, h]
theorem colM_of {ps qs : List Prim} {x y : Int} (h : ps.filter (Prim.hit x y) = qs.filter (Prim.hit x y)) : colM ps x y = colM qs x y := by
  unfold colM
  rw [← firstC_filter x y ps.reverse, ← firstC_filter x y qs.reverse, List.filter_reverse, List.filter_reverse, h]
theorem hitsM_mem {ps : List Prim} {x y : Int} {k : Id3} (h : k ∈ hitsM ps x y) : ∃ p ∈ ps, Prim.hit x y p = true ∧ p.who = k := by
  unfold hitsM at h
  obtain ⟨p, hp, e⟩ := List.mem_map.mp h
  rw [List.mem_filter, List.mem_reverse] at hp
  exact ⟨p, hp.1, hp.2, e⟩
theorem hit_geo {p : Prim} {x y : Int} (h : Prim.hit x y p = true) : p.geo x y = true := by
  unfold Prim.hit Prim.paint at h
  split at h
  · assumption
  · cases h
end Cs

namespace Cs
open PySem PySem.Spec PyProof.Rows L2
local macro_rules | `(tactic| walk_at "hp") => `(tactic| first | assumption)
local macro_rules | `(tactic| walk_at "num") => `(tactic| first | assumption | omega | decide)
local macro_rules | `(tactic| walk_at "rv") => `(tactic| first
  | (with_reducible exact rv_I0)
  | ((with_reducible apply rv_ixT); (walk_at "hp"); (rfl))
  | ((with_reducible apply rv_eq); (rfl))
  | ((with_reducible apply rv_ne); (rfl))
  | (with_reducible exact rv_isN)
  | (with_reducible exact rv_notN)
  | (with_reducible exact rv_inS)
  | ((with_reducible apply rv_I); (first | exact Or.inr ⟨by walk_at "num", by walk_at "num"⟩ | exact Or.inl ⟨by walk_at "num", by walk_at "num"⟩ | exact ⟨by walk_at "num", by walk_at "num"⟩ | exact ⟨by walk_at "num", by walk_at "num", by walk_at "num"⟩ | walk_at "num"))
  | ((with_reducible apply rv_ixS) <;> walk_at "num"))
local macro_rules | `(tactic| walk_at "rc") => `(tactic| first
  | (with_reducible exact rc_abs) | (with_reducible exact rc_max2) | (with_reducible exact rc_min2) | (with_reducible exact rc_int1)
  | ((with_reducible apply rc_lenT); walk_at "hp") | ((with_reducible apply rc_lenZ); walk_at "num"))
local macro_rules | `(tactic| walk_at "ev") => `(tactic| first
  | (with_reducible exact ev_c)
  | ((with_reducible apply ev_var); rfl)
  | ((with_reducible apply ev_op); (walk_at "ev"); (walk_at "ev"); (walk_at "rv"))
  | ((with_reducible apply ev_un); (walk_at "ev"); (exact ru_neg))
  | ((with_reducible apply ev_cb); (walk_at "ev"); (walk_at "rc"))
  | ((with_reducible apply ev_andV); (walk_at "ev"); (intro _; walk_at "ev"))
  | ((with_reducible apply ev_chain); (walk_at "ev"); (walk_at "ev"); (walk_at "rv"); (intro _; walk_at "ev"); (intro _; walk_at "rv"))
  | (with_reducible exact ea_nil)
  | ((with_reducible apply ea_cons); (walk_at "ev"); (walk_at "ev"))
  | ((with_reducible apply et_test); (walk_at "ev"))
  | ((with_reducible apply et_B); (walk_at "ev"))
  | ((with_reducible apply et_and); (walk_at "ev"); (intro _; walk_at "ev"))
  | ((with_reducible apply et_or); (walk_at "ev"); (intro _; walk_at "ev"))
  | ((with_reducible apply et_not); (walk_at "ev"))
  | (with_reducible exact eo_none)
  | ((with_reducible apply eo_some); (walk_at "ev")))
local macro_rules | `(tactic| walk_at "sz") => `(tactic| exact Nat.le_of_ble_eq_true rfl)
local macro_rules | `(tactic| walk_at "as") => `(tactic| ((with_reducible apply es_asg); (walk_at "ev")))
local macro_rules | `(tactic| walk_at "tp") => `(tactic| ((with_reducible apply ep_tup); (walk_at "ev"); (walk_at "sz")))
local macro_rules | `(tactic| walk_at "no") => `(tactic| ((with_reducible apply es_whenF); ((with_reducible apply et_is); (walk_at "ev"); (decide +kernel))))
local macro_rules | `(tactic| walk_at "yes") => `(tactic| ((with_reducible apply es_whenT); ((with_reducible apply et_is); (walk_at "ev"); (decide +kernel))))
section
variable {P : Program} {w : World} {K : PySem.W.Frag} {mg : Str → Option Value} {base : Heap}
/-! ### lists of identities: joined, made tuples -/
def AnL (C : List Id3 → Prop) : V → Hp → Prop := fun v H => ∃ a ds, v = .ref a ∧ IdL H a ds ∧ C ds
def AnT (C : List Id3 → Prop) : V → Hp → Prop := fun v H => ∃ a ds, v = .ref a ∧ IdT H a ds ∧ C ds
theorem ep_tupIds {σ : L2.St} {H : Hp} {te : TE} {C : List Id3 → Prop} (h : EvP Same te σ H (AnL C)) : EvP Same (tCB (rTupOf K) (tCons te tNil)) σ H (AnT C) := fun H1 e Q q =>
  h H1 e _ fun v H2 e2 ⟨a, ds, hv, ⟨bs, hb, hi⟩, hc⟩ => by
    subst hv
    exact ⟨a, _, rfl, .inl ⟨SqL.of hb, fun l hl => q _ _ (e2.trans (same_new hl)) ⟨l, ds, rfl, ⟨bs, upd_same, hi.keep (same_new hl)⟩, hc⟩⟩⟩
theorem ep_catIds {σ : L2.St} {H : Hp} {ta tb : TE} {C1 C2 C : List Id3 → Prop} (ha : EvP Same ta σ H (AnL C1)) (hb : ∀ H1, Same H H1 → EvP Same tb σ H1 (AnL C2)) (hC : ∀ x y, C1 x → C2 y → x.length + y.length ≤ 1000000 ∧ C (x ++ y)) : EvP Same (tOp rCat ta tb) σ H (AnL C) := fun H1 e Q q =>
  ha H1 e _ fun v H2 e2 ⟨a, xs, hv, ⟨bs, h1, h2⟩, c1⟩ => hb H2 (e.trans e2) H2 (Same.refl _) _ fun u H3 e3 ⟨b, ys, hu, ⟨cs, g1, g2⟩, c2⟩ => by
    subst hv hu
    have hz : (1000000 : Nat) ≤ sizeLine := Nat.le_of_ble_eq_true rfl
    obtain ⟨hl, hc⟩ := hC xs ys c1 c2
    have l1 := pair_len h2
    have l2 := pair_len g2
    refine ⟨a, b, _, _, rfl, rfl, e3 _ _ h1, g1, by rw [List.length_map, List.length_map]; omega, fun p hp => ?_⟩
    refine q _ _ (e2.trans (e3.trans (same_new hp))) ⟨p, xs ++ ys, rfl, ⟨bs ++ cs, by rw [upd_same, List.map_append], ?_⟩, hc⟩
    have k1 : IdsAt (upd H3 p (.lst (bs.map V.ref ++ cs.map V.ref))) bs xs := (h2.keep e3).keep (same_new hp)
    have k2 : IdsAt (upd H3 p (.lst (bs.map V.ref ++ cs.map V.ref))) cs ys := g2.keep (same_new hp)
    clear q hp hC hl hc l1 l2 h1 h2 g1 g2 c1 c2
    have app : ∀ {H : Hp} {a1 b1 : List Addr} {x1 y1 : List Id3}, IdsAt H a1 x1 → IdsAt H b1 y1 → IdsAt H (a1 ++ b1) (x1 ++ y1) := by
      intro H a1 b1 x1 y1 r s
      unfold IdsAt at r
      induction r with
      | nil => exact s
      | cons h t ih => exact .cons h ih
    exact app k1 k2
/-- identities of all of a tuple of primitives -/
theorem ep_whos {σ : L2.St} {H : Hp} {tl te : TE} {vs : List Nat} {j : Nat} {a : Addr} {as : List Addr} {ps : List Prim} (h : Ev Same tl σ H (.ref a)) (ha : H a = some (.tup (as.map V.ref))) (hp : PrimsAt H as ps) (hn : ps.length < 1000000)
    (hf : ∀ b p H1, PrimAt H1 b p → EvP Same te ((wipe σ vs).set j (some (.ref b))) H1 (AnId p.who)) (hwp : ∀ x, wipe ((wipe σ vs).set j (some x)) vs = wipe σ vs) : EvP Same (tLc (iTup K tl) (gName j) tYes te vs) σ H (AnL fun ds => ds = ps.map Prim.who) := by
  have hl := pair_len hp
  refine EvP.imp (lc_ofT (K := K) (a := a) (xs := as.map V.ref) h ha (by rw [List.length_map]; omega) (IdsLv ps fun _ => true) idsLv_kt ⟨[], rfl, .nil⟩ ?_ hwp) ?_
  · intro i x acc H1 e hx hacc
    obtain ⟨b, rfl, hb⟩ := map_get hx
    obtain ⟨p, hp2, hp3⟩ := pair_get hp hb
    refine ⟨true, et_true, fun _ => EvP.imp (hf b p H1 (hp3.keep e)) fun v H2 e2 hv => idsLv_step (idsLv_kt _ _ _ _ (kt_of e2) hacc) hp2 rfl hv, fun z => nomatch z⟩
  · intro v H2 e2 hv
    obtain ⟨l, hv, hl2⟩ := idsLv_end (by rw [List.length_map, hl]) hv
    refine ⟨l, _, hv, hl2, ?_⟩
    rw [List.filter_eq_self.mpr fun _ _ => rfl]
theorem ep_whoT {σ : L2.St} {b : Addr} {p : Prim} {H1 : Hp} {te : TE} {E : XK} (h : Ev Same te σ H1 (.ref b)) (hp : PrimAt H1 b p) : EvP Same (tCall (sp_identity K) [] E (tCons te tNil)) σ H1 (AnId p.who) := ep_call (ea_cons h ea_nil) (spv_ident (K := K) hp)
/-- identities of which each is in C -/
def SubLv (C : Id3 → Prop) (i : Nat) (acc : List V) (H : Hp) : Prop := ∃ bs ds, acc = bs.map V.ref ∧ IdsAt H bs ds ∧ ds.length ≤ i ∧ ∀ d ∈ ds, C d
theorem subLv_kt {C : Id3 → Prop} (i : Nat) (l : List V) (H1 H2 : Hp) (e : KT H1 H2) (h : SubLv C i l H1) : SubLv C i l H2 := by
  obtain ⟨bs, ds, x1, x2, x3, x4⟩ := h
  exact ⟨bs, ds, x1, x2.kt e, x3, x4⟩
theorem subLv_zero {C : Id3 → Prop} {H : Hp} : SubLv C 0 [] H := ⟨[], [], rfl, .nil, Nat.le_refl 0, fun _ h => absurd h List.not_mem_nil⟩
theorem subLv_step {C : Id3 → Prop} {i : Nat} {acc : List V} {H : Hp} {b : Addr} {k : Id3} (h : SubLv C i acc H) (hb : IdAt H b k) (hc : C k) : SubLv C (i + 1) (acc ++ [.ref b]) H := by
  obtain ⟨bs, ds, rfl, x2, x3, x4⟩ := h
  refine ⟨bs ++ [b], ds ++ [k], by rw [List.map_append]; rfl, pair_snoc x2 hb, by rw [List.length_append, List.length_singleton]; omega, fun d hd => ?_⟩
  rcases List.mem_append.mp hd with h | h
  · exact x4 d h
  · rw [List.mem_singleton.mp h]
    exact hc
theorem subLv_skip {C : Id3 → Prop} {i : Nat} {acc : List V} {H : Hp} (h : SubLv C i acc H) : SubLv C (i + 1) acc H := by
  obtain ⟨bs, ds, x1, x2, x3, x4⟩ := h
  exact ⟨bs, ds, x1, x2, by omega, x4⟩
/-! ### touched -/
structure Patch (H : Hp) (a : Addr) (rem : List Id3) (put : List Prim) : Prop where
  at_ : ∃ v0 r pt v3 v4 as, H a = some (.tup [v0, .ref r, .ref pt, v3, v4]) ∧ IdT H r rem ∧ H pt = some (.tup (as.map V.ref)) ∧ PrimsAt H as put
  l1 : rem.length ≤ 1000
  l2 : put.length ≤ 1000
theorem Patch.keep {R : Rl} [Rel R] {H H' : Hp} {a : Addr} {rem : List Id3} {put : List Prim} (k : Patch H a rem put) (e : R H H') : Patch H' a rem put := by
  obtain ⟨⟨v0, r, pt, v3, v4, as, h1, h2, h3, h4⟩, l1, l2⟩ := k
  exact ⟨⟨v0, r, pt, v3, v4, as, Rel.tup e h1, h2.keep e, Rel.tup e h3, h4.keep e⟩, l1, l2⟩
def sp_touched (K : PySem.W.Frag) : Sp := fun vs H Q _ => ∃ a rem put, vs = [.ref a] ∧ Patch H a rem put ∧ ∀ b H2, Same H H2 → IdT H2 b (rem ++ put.map Prim.who) → Q (.ref b) H2
theorem ok_touched (T : Txt K mg) : FnOk P w K mg base CX0 2 (He.ga K "touched") (fdOf K (He.ga K "touched")) p_touched (sp_touched K) := by
  refine T.touched.fn.ok sc_touched (fun vs H Q E h => ?_) (fun cdv A outer s H vs Q E hr h => ?_)
  · obtain ⟨a, rem, put, rfl, k, q⟩ := h
    rfl
  · obtain ⟨a, rem, put, rfl, k, q⟩ := h
    refine ⟨_, (pss_one (ps_ret (pe_op (r := rCatA K) op_catA (pe_ix (r := rIxT K) ix_tup (pv 0) pe_int (fun _ _ => rfl)) (pe_callTy cb_tupOf (by rfl) T.b_tuple PyProof.Rows.boot_tuple (pa_cons (pe_lc (own := [("primitive", 1)]) (g := gName 1) rfl sc_touched.nd (pi_tup (pe_ix (r := rIxT K) ix_tup (pv 0) pe_int (fun _ _ => rfl))) (blkOk_by (own := [("primitive", 1)]) (N := n_touched) (sc := defScope s_touched) (by decide +kernel)) (fun _ _ _ _ _ => pg_name (i := 1) sc_touched.nd rfl (Or.inl rfl)) (fun _ _ _ _ _ => pts_nil) (fun _ _ _ _ _ => (pe_call (ok_identity T) (hr.mono (by decide)) (by rfl) T.identity.mg T.identity.fn.kp (bd_identity T) .nil pass0 (pa_cons (pv 1) pa_nil)))) pa_nil))))), ?_⟩
    obtain ⟨⟨v0, r, pt, v3, v4, as, h1, ⟨bs, h2, h2'⟩, h3, h4⟩, l1, l2⟩ := id k
    refine EvS.run (R := Same) (φ := fun v H2 => ∃ b, v = .ref b ∧ IdT H2 b (rem ++ put.map Prim.who)) ?_ fun v H2 e2 ⟨b, p1, p2⟩ => by rw [p1]; exact q b H2 e2 p2
    have hz : (1000000 : Nat) ≤ sizeLine := Nat.le_of_ble_eq_true rfl
    apply es_retP
    · refine ep_opR (x := .ref r) (P := AnT fun ds => ds = put.map Prim.who) (P' := fun v H2 => ∃ b, v = .ref b ∧ IdT H2 b (rem ++ put.map Prim.who)) (by walk_at "ev") (ep_tupIds (ep_whos (by walk_at "ev") h3 h4 (by omega) (fun b p H1 hp => ep_whoT (K := K) (by walk_at "ev") hp) (fun _ => rfl))) ?_
      rintro v H1 e1 ⟨b, ds, rfl, ⟨cs, g1, g2⟩, rfl⟩
      have hl1 := pair_len h2'
      have hl2 := pair_len g2
      refine EvP.imp (rp_catT (K := K) (R := Same) (e1 _ _ h2) g1 (by rw [List.length_map, List.length_map]; rw [List.length_map] at hl2; omega)) ?_
      rintro v H2 e2 ⟨p, rfl, hp⟩
      refine ⟨p, rfl, bs ++ cs, by rw [hp, List.map_append], ?_⟩
      have k1 := (h2'.keep e1).keep e2
      have k2 := g2.keep e2
      have app : ∀ {H : Hp} {a1 b1 : List Addr} {x1 y1 : List Id3}, IdsAt H a1 x1 → IdsAt H b1 y1 → IdsAt H (a1 ++ b1) (x1 ++ y1) := by
        intro H a1 b1 x1 y1 r s
        unfold IdsAt at r
        induction r with
        | nil => exact s
        | cons h t ih => exact .cons h ih
      exact app k1 k2
    · exact fun v H2 e h => h
/-! ### merged_order -/
def sp_merged_order (K : PySem.W.Frag) : Sp := fun vs H Q _ => ∃ s a w h ps rem put, vs = [.ref s, .ref a] ∧ Scn H s w h ps ∧ Patch H a rem put ∧ ∀ b ds H2, Same H H2 → IdT H2 b ds → (∀ d ∈ ds, d ∈ ps.map Prim.who ∨ d ∈ put.map Prim.who) → Q (.ref b) H2
theorem ok_merged_order (T : Txt K mg) : FnOk P w K mg base CX0 2 (He.ga K "merged_order") (fdOf K (He.ga K "merged_order")) p_merged_order (sp_merged_order K) := by
  refine T.merged_order.fn.ok sc_merged_order (fun vs H Q E h => ?_) (fun cdv A outer s H vs Q E hr h => ?_)
  · obtain ⟨s, a, w1, h1, ps, rem, put, rfl, k1, k2, q⟩ := h
    rfl
  · obtain ⟨s, a, w1, h1, ps, rem, put, rfl, k1, k2, q⟩ := h
    refine ⟨_, (pss_cons (ps_set (i := 2) sc_merged_order.nd rfl (Or.inr rfl) (pe_dcN (hu65 hr) (own := [("name", 5)]) (g := gName 5) rfl sc_merged_order.nd (pi_tup (pe_ix (r := rIxT K) ix_tup (pv 1) pe_int (fun _ _ => rfl))) (blkOk_by (own := [("name", 5)]) (N := n_merged_order) (sc := defScope s_merged_order) (by decide +kernel)) (fun _ _ _ _ _ => pg_name (i := 5) sc_merged_order.nd rfl (Or.inl rfl)) (fun _ _ _ _ _ => pts_nil) (fun _ _ _ _ _ => (pv 5)) (fun _ _ _ _ _ => pe_bl))) (pss_cons (ps_set (i := 3) sc_merged_order.nd rfl (Or.inr rfl) (pe_dcN (hu65 hr) (own := [("primitive", 6)]) (g := gName 6) rfl sc_merged_order.nd (pi_tup (pe_ix (r := rIxT K) ix_tup (pv 0) pe_int (fun _ _ => rfl))) (blkOk_by (own := [("primitive", 6)]) (N := n_merged_order) (sc := defScope s_merged_order) (by decide +kernel)) (fun _ _ _ _ _ => pg_name (i := 6) sc_merged_order.nd rfl (Or.inl rfl)) (fun _ _ _ _ _ => pts_nil) (fun _ _ _ _ _ => (pe_call (ok_identity T) (hr.mono (by decide)) (by rfl) T.identity.mg T.identity.fn.kp (bd_identity T) .nil pass0 (pa_cons (pv 6) pa_nil))) (fun _ _ _ _ _ => pe_bl))) (pss_cons (ps_setDcN (i := 4) (hu65 hr) (own := [("primitive", 6)]) (g := gName 6) rfl sc_merged_order.nd rfl rfl (sw_trueD rfl rfl rfl (by decide +kernel)) (pi_tup (pe_ix (r := rIxT K) ix_tup (pv 1) pe_int (fun _ _ => rfl))) (blkOk_by (own := [("primitive", 6)]) (N := n_merged_order) (sc := defScope s_merged_order) (by decide +kernel)) (fun _ _ _ _ _ => pg_name (i := 6) sc_merged_order.nd rfl (Or.inl rfl)) (fun _ _ _ _ _ => (pts_one (pt_cmpR (r := rNotInDN P w) (op_notinDN (hu65 hr)) (pe_call (ok_identity T) (hr.mono (by decide)) (by rfl) T.identity.mg T.identity.fn.kp (bd_identity T) .nil pass0 (pa_cons (pv 6) pa_nil)) (pv 3) (by rfl)))) (fun _ _ _ _ _ => (pe_call (ok_identity T) (hr.mono (by decide)) (by rfl) T.identity.mg T.identity.fn.kp (bd_identity T) .nil pass0 (pa_cons (pv 6) pa_nil))) (fun _ _ _ _ _ => pe_bl)) (pss_one (ps_ret (pe_callTy cb_tupOf (by rfl) T.b_tuple PyProof.Rows.boot_tuple (pa_cons (pe_op op_cat (pe_lc (own := [("name", 5)]) (g := gName 5) rfl sc_merged_order.nd (pi_keysN (pv 3)) (blkOk_by (own := [("name", 5)]) (N := n_merged_order) (sc := defScope s_merged_order) (by decide +kernel)) (fun _ _ _ _ _ => pg_name (i := 5) sc_merged_order.nd rfl (Or.inl rfl)) (fun _ _ _ _ _ => (pts_one (pt_cmpR (r := rNotInDN P w) (op_notinDN (hu65 hr)) (pv 5) (pv 2) (by rfl)))) (fun _ _ _ _ _ => (pv 5))) (pe_callTy (r := rListDN P w) (call_list_dN rfl) (by rfl) T.b_list PyProof.Rows.boot_list (pa_cons (pv 4) pa_nil))) pa_nil))))))), ?_⟩
    refine EvS.run (R := Same) (φ := AnT fun ds => ∀ d ∈ ds, d ∈ ps.map Prim.who ∨ d ∈ put.map Prim.who) ?_ fun v H2 e2 ⟨b, ds, p1, p2, p3⟩ => by rw [p1]; exact q b ds H2 e2 p2 p3
    have nl : ps.length ≤ 1000 := k1.len
    obtain ⟨⟨v0, r, pt, v3, v4, as, g1, ⟨bs, g2, g2'⟩, g3, g4⟩, l1, l2⟩ := id k2
    have hl1 := pair_len g2'
    refine es_asgP (dc_ofT (P := P) (w := w) (K := K) (a := r) (xs := bs.map V.ref) (by walk_at "ev") g2 (by rw [List.length_map]; omega) (fun _ _ => True) trivial ?_ (fun _ => rfl)) ?_
    · intro i x acc H1 e hx hacc
      obtain ⟨b, rfl, hb⟩ := map_get hx
      obtain ⟨k, hk, hk2⟩ := pair_get g2' hb
      exact ⟨true, et_true, fun _ => ⟨k, .bl true, Ev.p (ev_var rfl) |>.imp (fun v H2 e2 hv => ⟨b, hv, (e.trans e2) _ _ hk2⟩), fun H2 e2 => by walk_at "ev", trivial⟩, fun z => nomatch z⟩
    rintro v H1 e1 ⟨gd, gk, rfl, hg, _⟩
    have k1 := k1.keep e1
    have k2 := k2.keep e1
    obtain ⟨ta, ts, t1, t2, t3⟩ := id k1.at_
    have hl2 := pair_len t3
    refine es_asgP (dc_ofT (P := P) (w := w) (K := K) (a := ta) (xs := ts.map V.ref) (by walk_at "ev") t2 (by rw [List.length_map]; omega) (fun i kvs => kvs.length ≤ i ∧ ∀ k ∈ kvs.map Prod.fst, k ∈ ps.map Prim.who) ⟨Nat.le_refl 0, fun k hk => absurd hk (by simp)⟩ ?_ (fun _ => rfl)) ?_
    · intro i x acc H2 e hx hacc
      obtain ⟨b, rfl, hb⟩ := map_get hx
      obtain ⟨p, hp, hp2⟩ := pair_get t3 hb
      refine ⟨true, et_true, fun _ => ⟨p.who, .bl true, ep_whoT (K := K) (by walk_at "ev") (hp2.keep e), fun H3 e3 => by walk_at "ev", by have := length_putK acc p.who (.bl true); omega, fun k hk => ?_⟩, fun z => nomatch z⟩
      rw [← valV_mem, valV_put] at hk
      by_cases hkk : k = p.who
      · rw [hkk]
        exact List.mem_map_of_mem (List.mem_of_getElem? hp)
      · rw [if_neg hkk, valV_mem] at hk
        exact hacc.2 k hk
    rintro v H2 e2 ⟨kd, kk, rfl, hkd, hkl, hks⟩
    have k2 := k2.keep e2
    have hg := hg.keep e2
    obtain ⟨⟨v0, r, pt, v3, v4, as, g1, ⟨bs, g2, g2'⟩, g3, g4⟩, l1, l2⟩ := id k2
    have hl3 := pair_len g4
    refine es_asgP (dc_ofT (P := P) (w := w) (K := K) (a := pt) (xs := as.map V.ref) (by walk_at "ev") g3 (by rw [List.length_map]; omega) (fun i kvs => kvs.length ≤ i ∧ ∀ k ∈ kvs.map Prod.fst, k ∈ put.map Prim.who) ⟨Nat.le_refl 0, fun k hk => absurd hk (by simp)⟩ ?_ (fun _ => rfl)) ?_
    · intro i x acc H3 e hx hacc
      obtain ⟨b, rfl, hb⟩ := map_get hx
      obtain ⟨p, hp, hp2⟩ := pair_get g4 hb
      have hp2 := hp2.keep e
      refine ⟨!(valV kk p.who).isSome, ?_, fun _ => ⟨p.who, .bl true, ep_whoT (K := K) (by walk_at "ev") hp2, fun H3 e3 => by walk_at "ev", by have := length_putK acc p.who (.bl true); omega, fun k hk => ?_⟩, fun _ => ⟨by omega, hacc.2⟩⟩
      · apply et_test
        refine ev_opL (P := AnId p.who) (ep_whoT (K := K) (by walk_at "ev") hp2) ?_
        rintro v H4 e4 ⟨c, rfl, hc⟩
        exact ev_op ev_c (by walk_at "ev") (rv_notinN (hkd.keep (e.trans e4)) hc)
      · rw [← valV_mem, valV_put] at hk
        by_cases hkk : k = p.who
        · rw [hkk]
          exact List.mem_map_of_mem (List.mem_of_getElem? hp)
        · rw [if_neg hkk, valV_mem] at hk
          exact hacc.2 k hk
    rintro v H3 e3 ⟨nd, nk, rfl, hnd, hnl, hns⟩
    have hg := hg.keep e3
    have hkd := hkd.keep e3
    apply es_retP
    · refine ep_tupIds (C := fun ds => ∀ d ∈ ds, d ∈ ps.map Prim.who ∨ d ∈ put.map Prim.who) (ep_catIds (C1 := fun ds => ds.length ≤ 1000 ∧ ∀ d ∈ ds, d ∈ ps.map Prim.who) (C2 := fun ds => ds.length ≤ 1000 ∧ ∀ d ∈ ds, d ∈ put.map Prim.who) ?_ ?_ ?_)
      · refine EvP.imp (lc_ofK (P := P) (w := w) (by walk_at "ev") hkd (SubLv fun d => d ∈ ps.map Prim.who) subLv_kt subLv_zero ?_ (fun _ => rfl)) ?_
        · rintro i x acc H4 hi e ⟨k, v, b, hk1, rfl, hk2⟩ hacc
          refine ⟨!(valV gk k).isSome, ?_, fun _ => ?_, fun _ => subLv_skip hacc⟩
          · apply et_test
            exact ev_op (by walk_at "ev") (by walk_at "ev") (rv_notinN (hg.keep e) hk2)
          · refine EvP.imp (Ev.p (ev_var (v := .ref b) rfl)) ?_
            rintro v H5 e5 rfl
            exact subLv_step (subLv_kt _ _ _ _ (kt_of e5) hacc) (e5 _ _ hk2) (hks k (List.mem_map_of_mem (f := Prod.fst) (List.mem_of_getElem? hk1)))
        · rintro v H4 e4 ⟨p, acc, rfl, hp, bs, ds, rfl, x2, x3, x4⟩
          exact ⟨p, ds, rfl, ⟨bs, hp, x2⟩, by rw [List.length_map] at hkl; omega, x4⟩
      · intro H4 e4
        refine EvP.imp (ep_listDN (P := P) (w := w) (by walk_at "ev") (hnd.keep e4)) ?_
        rintro v H5 e5 ⟨p, bs, rfl, hp, hb⟩
        exact ⟨p, _, rfl, ⟨bs, hp, hb⟩, by rw [List.length_map]; rw [List.length_map] at hnl; omega, hns⟩
      · rintro x y ⟨c1, c2⟩ ⟨c3, c4⟩
        refine ⟨by omega, fun d hd => ?_⟩
        rcases List.mem_append.mp hd with h | h
        · exact .inl (c2 d h)
        · exact .inr (c4 d h)
    · exact fun v H4 e h => h
end
end Cs

namespace Cs
open PySem PySem.Spec PyProof.Rows L2
local macro_rules | `(tactic| walk_at "hp") => `(tactic| first | assumption)
local macro_rules | `(tactic| walk_at "num") => `(tactic| first | assumption | omega | decide)
local macro_rules | `(tactic| walk_at "rv") => `(tactic| first
  | (with_reducible exact rv_I0)
  | ((with_reducible apply rv_ixT); (walk_at "hp"); (rfl))
  | ((with_reducible apply rv_eq); (rfl))
  | ((with_reducible apply rv_ne); (rfl))
  | (with_reducible exact rv_isN)
  | (with_reducible exact rv_notN)
  | (with_reducible exact rv_inS)
  | ((with_reducible apply rv_I); (first | exact Or.inr ⟨by walk_at "num", by walk_at "num"⟩ | exact Or.inl ⟨by walk_at "num", by walk_at "num"⟩ | exact ⟨by walk_at "num", by walk_at "num"⟩ | exact ⟨by walk_at "num", by walk_at "num", by walk_at "num"⟩ | walk_at "num"))
  | ((with_reducible apply rv_ixS) <;> walk_at "num"))
local macro_rules | `(tactic| walk_at "rc") => `(tactic| first
  | (with_reducible exact rc_abs) | (with_reducible exact rc_max2) | (with_reducible exact rc_min2) | (with_reducible exact rc_int1)
  | ((with_reducible apply rc_lenT); walk_at "hp") | ((with_reducible apply rc_lenZ); walk_at "num"))
local macro_rules | `(tactic| walk_at "ev") => `(tactic| first
  | (with_reducible exact ev_c)
  | ((with_reducible apply ev_var); rfl)
  | ((with_reducible apply ev_op); (walk_at "ev"); (walk_at "ev"); (walk_at "rv"))
  | ((with_reducible apply ev_un); (walk_at "ev"); (exact ru_neg))
  | ((with_reducible apply ev_cb); (walk_at "ev"); (walk_at "rc"))
  | ((with_reducible apply ev_andV); (walk_at "ev"); (intro _; walk_at "ev"))
  | ((with_reducible apply ev_chain); (walk_at "ev"); (walk_at "ev"); (walk_at "rv"); (intro _; walk_at "ev"); (intro _; walk_at "rv"))
  | (with_reducible exact ea_nil)
  | ((with_reducible apply ea_cons); (walk_at "ev"); (walk_at "ev"))
  | ((with_reducible apply et_test); (walk_at "ev"))
  | ((with_reducible apply et_B); (walk_at "ev"))
  | ((with_reducible apply et_and); (walk_at "ev"); (intro _; walk_at "ev"))
  | ((with_reducible apply et_or); (walk_at "ev"); (intro _; walk_at "ev"))
  | ((with_reducible apply et_not); (walk_at "ev"))
  | (with_reducible exact eo_none)
  | ((with_reducible apply eo_some); (walk_at "ev")))
local macro_rules | `(tactic| walk_at "sz") => `(tactic| exact Nat.le_of_ble_eq_true rfl)
local macro_rules | `(tactic| walk_at "as") => `(tactic| ((with_reducible apply es_asg); (walk_at "ev")))
local macro_rules | `(tactic| walk_at "tp") => `(tactic| ((with_reducible apply ep_tup); (walk_at "ev"); (walk_at "sz")))
local macro_rules | `(tactic| walk_at "no") => `(tactic| ((with_reducible apply es_whenF); ((with_reducible apply et_is); (walk_at "ev"); (decide +kernel))))
local macro_rules | `(tactic| walk_at "yes") => `(tactic| ((with_reducible apply es_whenT); ((with_reducible apply et_is); (walk_at "ev"); (decide +kernel))))
section
variable {P : Program} {w : World} {K : PySem.W.Frag} {mg : Str → Option Value} {base : Heap}
/-! ### lists read, cut -/
theorem rv_ixL {R : Rl} [Rel R] {H : Hp} {p : Addr} {xs : List V} {i : Int} {v : V} (h : ∀ H1, R H H1 → SqL K H1 p xs) (ha : atI xs i = some v) : RV R (rIxL K) (.ref p) (.int i) H v := fun H1 e _ q => ⟨p, xs, i, v, rfl, rfl, h H1 e, ha, q H1 (Rel.refl H1)⟩
theorem rc_lenL {R : Rl} [Rel R] {H : Hp} {a : Addr} {xs : List V} (h : ∀ H1, R H H1 → SqL K H1 a xs) : RC R (rLenQ K) [.ref a] H (.int xs.length) := fun H1 e _ q => ⟨a, xs, rfl, .inl (h H1 e), q H1 (Rel.refl H1)⟩
theorem ep_slL {σ : L2.St} {H : Hp} {te : TE} {tl th : TO} {a : Addr} {xs : List V} {lo hi : Option Int} (h : Ev Same te σ H (.ref a)) (h1 : EvO Same tl σ H lo) (h2 : EvO Same th σ H hi) (hs : H a = some (.lst xs)) : EvP Same (tSl (rSlL K) te tl th) σ H (NewL (cutV xs lo hi)) := fun H1 e _ q =>
  h H1 e _ fun H2 e2 => h1 H2 (e.trans e2) _ fun H3 e3 => h2 H3 (e.trans (e2.trans e3)) _ fun H4 e4 =>
    ⟨a, xs, rfl, SqL.of ((e.trans (e2.trans (e3.trans e4))) _ _ hs), fun p hp => q _ _ (e2.trans (e3.trans (e4.trans (same_new hp)))) ⟨p, rfl, upd_same⟩⟩
theorem atI_nat {α : Type} {xs : List α} {i : Nat} {v : α} (h : xs[i]? = some v) : atI xs (i : Int) = some v := by
  have hi : i < xs.length := (List.getElem?_eq_some_iff.mp h).1
  unfold atI ixN
  rw [if_pos (by omega), if_pos (by omega)]
  simpa using h
theorem atI_zero {α : Type} {xs : List α} {v : α} (h : xs[0]? = some v) : atI xs 0 = some v := atI_nat (i := 0) h
theorem atI_last {α : Type} {xs : List α} {v : α} (h : xs.getLast? = some v) : atI xs (-1) = some v := by
  have hn : xs ≠ [] := fun z => by rw [z] at h; cases h
  have hl := List.length_pos_iff.mpr hn
  unfold atI ixN
  rw [if_neg (by omega), if_pos (by omega)]
  rw [List.getLast?_eq_getElem?] at h
  have e : ((-1 : Int) + (xs.length : Int)).toNat = xs.length - 1 := by omega
  simpa [e] using h
theorem pair_drop {α β : Type} {F : α → β → Prop} : ∀ {l : List α} {m : List β} (n : Nat), Paired F l m → Paired F (l.drop n) (m.drop n)
  | _, _, 0, h => h
  | _, _, _ + 1, .nil => .nil
  | _, _, n + 1, .cons _ t => pair_drop n t
theorem pair_take {α β : Type} {F : α → β → Prop} : ∀ {l : List α} {m : List β} (n : Nat), Paired F l m → Paired F (l.take n) (m.take n)
  | _, _, 0, _ => .nil
  | _, _, _ + 1, .nil => .nil
  | _, _, n + 1, .cons h t => .cons h (pair_take n t)
theorem cut_ref {bs : List Addr} {i j : Nat} (hj : j ≤ bs.length) (hij : i ≤ j) : cutV (bs.map V.ref) (some (i : Int)) (some (j : Int)) = ((bs.drop i).take (j - i)).map V.ref := by
  unfold cutV
  rw [HT.sIx_nat, HT.sIx_nat, List.length_map, Nat.min_eq_left hj, Nat.min_eq_left (Nat.le_trans hij hj), ← List.map_drop, ← List.map_take]
/-! ### moved -/
def sp_moved (K : PySem.W.Frag) : Sp := fun vs H Q _ => ∃ a b w1 h1 w2 h2 ps qs, vs = [.ref a, .ref b] ∧ Scn H a w1 h1 ps ∧ Scn H b w2 h2 qs ∧ ∀ t M H2, Same H H2 → IdT H2 t M → Split (keptM ps qs) (keptM qs ps) M → Q (.ref t) H2
theorem kept_ok {ps qs : List Prim} (h : ∀ p ∈ ps, p.ok) {d : Id3} (hd : d ∈ keptM ps qs) : d.ok := by
  obtain ⟨p, hp, e⟩ := List.mem_map.mp hd
  rw [← e]
  exact (h p (List.mem_filter.mp hp).1).who
theorem ok_moved (T : Txt K mg) : FnOk P w K mg base CX0 4 (He.ga K "moved") (fdOf K (He.ga K "moved")) p_moved (sp_moved K) := by
  refine T.moved.fn.ok sc_moved (fun vs H Q E h => ?_) (fun cdv A outer s H vs Q E hr h => ?_)
  · obtain ⟨a, b, w1, h1, w2, h2, ps, qs, rfl, k1, k2, q⟩ := h
    rfl
  · obtain ⟨a, b, w1, h1, w2, h2, ps, qs, rfl, k1, k2, q⟩ := h
    refine ⟨_, (pss_cons (ps_set (i := 2) sc_moved.nd rfl (Or.inr rfl) (pe_call (ok_kept_names T) (hr.mono (by decide)) (by rfl) T.kept_names.mg T.kept_names.fn.kp (bd_kept_names T) .nil pass0 (pa_cons (pv 0) (pa_cons (pv 1) pa_nil)))) (pss_cons (ps_set (i := 3) sc_moved.nd rfl (Or.inr rfl) (pe_call (ok_kept_names T) (hr.mono (by decide)) (by rfl) T.kept_names.mg T.kept_names.fn.kp (bd_kept_names T) .nil pass0 (pa_cons (pv 1) (pa_cons (pv 0) pa_nil)))) (pss_cons (ps_setLc (i := 4) (own := [("k", 5)]) (g := gName 5) rfl sc_moved.nd rfl rfl (sw_true rfl rfl rfl (by decide +kernel)) (pi_range1 (by rfl) T.b_range (pa_cons (pe_callB (r := rLenQ K) cb_lenQ (by rfl) T.b_len PySem.boot_len (pa_cons (pv 2) pa_nil)) pa_nil)) (blkOk_by (own := [("k", 5)]) (N := n_moved) (sc := defScope s_moved) (by decide +kernel)) (fun _ _ _ _ _ => pg_name (i := 5) sc_moved.nd rfl (Or.inl rfl)) (fun _ _ _ _ _ => (pts_one (pt_cmpR (r := rNeD K) (op_neD hr.units) (pe_ix (r := rIxL K) ix_list (pv 2) (pv 5) (fun _ _ => rfl)) (pe_ix (r := rIxL K) ix_list (pv 3) (pv 5) (fun _ _ => rfl)) (nomark _)))) (fun _ _ _ _ _ => (pv 5))) (pss_cons (ps_if (pt_not (pt_truth (pv 4) (by intro _; rfl))) (pss_one (ps_ret (pe_tup pa_nil))) pss_nil) (pss_one (ps_ret (pe_callTy cb_tupOf (by rfl) T.b_tuple PyProof.Rows.boot_tuple (pa_cons (pe_slice (r := rSlL K) sl_list (pv 2) (po_some (pe_ix (r := rIxL K) ix_list (pv 4) pe_int (fun _ _ => rfl))) (po_some (pe_op op_add (pe_ix (r := rIxL K) ix_list (pv 4) (pe_un un_neg pe_int) (fun _ _ => rfl)) pe_int))) pa_nil)))))))), ?_⟩
    refine EvS.run (R := Same) (φ := AnT (Split (keptM ps qs) (keptM qs ps))) ?_ fun v H2 e2 ⟨t, M, p1, p2, p3⟩ => by rw [p1]; exact q t M H2 e2 p2 p3
    have hz : (1000000 : Nat) ≤ sizeLine := Nat.le_of_ble_eq_true rfl
    refine es_asgP (ep_call (by walk_at "ev") (spv_kept (K := K) k1 k2)) ?_
    rintro v H1 e1 ⟨l1, rfl, f1⟩
    refine es_asgP (ep_call (by walk_at "ev") (spv_kept (K := K) (k2.keep e1) (k1.keep e1))) ?_
    rintro v H2 e2 ⟨l2, rfl, f2⟩
    have f1 := f1.keep e2
    obtain ⟨bs, g1, i1⟩ := id f1
    obtain ⟨cs, g2, i2⟩ := id f2
    have n1 := pair_len i1
    have n2 := pair_len i2
    have nk := kept_len k1.key k2.key
    have nb : (keptM ps qs).length ≤ 1000 := by
      unfold keptM
      rw [List.length_map]
      have := k1.len
      have h9 := List.length_filter_le (fun p => decide (findId qs p.who = some p)) ps
      omega
    refine es_asgP (lc_ofR (n := ((bs.map V.ref).length : Int)) (ea_cons (ev_cb (by walk_at "ev") (rc_lenL (fun _ e => SqL.of (e _ _ g1)))) ea_nil) ⟨by omega, by rw [List.length_map]; omega⟩ (fun i acc _ => acc = ((List.range i).filter fun k => !decide ((keptM ps qs)[k]? = (keptM qs ps)[k]?)).map fun k => V.int (k : Nat)) (fun _ _ _ _ _ h => h) rfl ?_ (fun _ => rfl)) ?_
    · intro i acc H3 hi e hacc
      rw [List.length_map] at hi
      have hi1 : i < (keptM ps qs).length := by omega
      have hi2 : i < (keptM qs ps).length := by omega
      obtain ⟨c1, hc1⟩ : ∃ c, bs[i]? = some c := ⟨_, List.getElem?_eq_getElem (show i < bs.length by omega)⟩
      obtain ⟨c2, hc2⟩ : ∃ c, cs[i]? = some c := ⟨_, List.getElem?_eq_getElem (show i < cs.length by omega)⟩
      obtain ⟨d1, hd1, x1⟩ := pair_get i1 hc1
      obtain ⟨d2, hd2, x2⟩ := pair_get i2 hc2
      have o1 := kept_ok k1.ok (List.mem_of_getElem? hd1)
      have o2 := kept_ok k2.ok (List.mem_of_getElem? hd2)
      have a1 : atI (bs.map V.ref) ((i : Nat) : Int) = some (.ref c1) := atI_nat (by rw [List.getElem?_map, hc1]; rfl)
      have a2 : atI (cs.map V.ref) ((i : Nat) : Int) = some (.ref c2) := atI_nat (by rw [List.getElem?_map, hc2]; rfl)
      refine ⟨!decide ((keptM ps qs)[i]? = (keptM qs ps)[i]?), ?_, fun hh => ?_, fun hh => ?_⟩
      · apply et_is
        · apply et_test
          exact ev_op (ev_op (by walk_at "ev") (by walk_at "ev") (rv_ixL (fun _ e' => SqL.of ((e.trans e') _ _ g1)) a1)) (ev_op (by walk_at "ev") (by walk_at "ev") (rv_ixL (fun _ e' => SqL.of ((e.trans e') _ _ g2)) a2)) (rv_neD (id_dp (e _ _ x1)) (id_dp (e _ _ x2)) (shaped_id o1) (shaped_id o2))
        · rw [eqv_id, hd1, hd2]
          by_cases h : d1 = d2
          · simp [h]
          · simp [h]
      · refine EvP.imp (Ev.p (ev_var (v := .int (i : Nat)) rfl)) ?_
        rintro v H4 e4 rfl
        rw [hacc, List.range_succ, List.filter_append, List.filter_cons, if_pos hh, List.filter_nil, List.map_append]
        rfl
      · rw [hacc, List.range_succ, List.filter_append, List.filter_cons, if_neg (by rw [hh]; decide), List.filter_nil, List.append_nil]
    rintro v H3 e3 ⟨l3, acc, rfl, g3, hacc⟩
    have hacc : acc = (diffs (keptM ps qs) (keptM qs ps)).map fun k => V.int (k : Nat) := by
      rw [hacc]
      unfold diffs
      have : ((bs.map V.ref).length : Int).toNat = (keptM ps qs).length := by
        rw [List.length_map]
        omega
      rw [this]
    have f1 := f1.keep e3
    have g1 := e3 _ _ g1
    have i1 := i1.keep e3
    subst hacc
    refine es_when (b := !(!((diffs (keptM ps qs) (keptM qs ps)).map fun k => V.int (k : Nat)).isEmpty)) (et_not (et_truL (K := K) (a := l3) (by walk_at "ev") (SqL.of g3))) ?_ ?_
    · intro hh
      have hd : diffs (keptM ps qs) (keptM qs ps) = [] := by
        rw [Bool.not_not, List.isEmpty_iff, List.map_eq_nil_iff] at hh
        exact hh
      apply es_retP
      · exact ep_tup (vs := []) (by walk_at "ev") (by walk_at "sz")
      · rintro v H4 e4 ⟨p, rfl, hp⟩
        exact ⟨p, [], rfl, ⟨[], hp, .nil⟩, split_none nk hd⟩
    · intro hh
      have hd : diffs (keptM ps qs) (keptM qs ps) ≠ [] := by
        intro z
        rw [z] at hh
        exact absurd hh (by decide)
      obtain ⟨i0, hi0⟩ : ∃ x, (diffs (keptM ps qs) (keptM qs ps))[0]? = some x := ⟨_, List.getElem?_eq_getElem (List.length_pos_iff.mpr hd)⟩
      obtain ⟨i9, hi9⟩ : ∃ x, (diffs (keptM ps qs) (keptM qs ps)).getLast? = some x := ⟨_, List.getLast?_eq_some_getLast hd⟩
      have srt := diffs_sorted (keptM ps qs) (keptM qs ps)
      have lo : ∀ k ∈ diffs (keptM ps qs) (keptM qs ps), i0 ≤ k := by
        intro k hk
        cases hdd : diffs (keptM ps qs) (keptM qs ps) with
        | nil => exact absurd hdd hd
        | cons z zs =>
          rw [hdd] at hi0 hk srt
          have hi0 : z = i0 := by simpa using hi0
          subst hi0
          rcases List.mem_cons.mp hk with h | h
          · omega
          · exact Nat.le_of_lt ((List.pairwise_cons.mp srt).1 k h)
      have hi : ∀ k ∈ diffs (keptM ps qs) (keptM qs ps), k ≤ i9 := by
        intro k hk
        have e := List.getLast?_eq_some_iff.mp hi9
        obtain ⟨ys, e⟩ := e
        rw [e] at hk srt
        rcases List.mem_append.mp hk with h | h
        · exact Nat.le_of_lt ((List.pairwise_append.mp srt).2.2 k h i9 List.mem_cons_self)
        · exact Nat.le_of_eq (List.mem_singleton.mp h)
      have m9 := List.mem_of_getLast? hi9
      have b9 := (diffs_mem.mp m9).1
      have lh := lo i9 m9
      apply es_retP
      · refine ep_tupIds (C := Split (keptM ps qs) (keptM qs ps)) (EvP.imp (ep_slL (K := K) (a := l1) (lo := some (i0 : Nat)) (hi := some ((i9 + 1 : Nat) : Int)) (by walk_at "ev") (eo_some (ev_op (by walk_at "ev") (by walk_at "ev") (rv_ixL (fun _ e' => SqL.of (e' _ _ g3)) (v := .int (i0 : Nat)) (atI_zero (by rw [List.getElem?_map, hi0]; rfl))))) (eo_some ?_) g1) ?_)
        · refine ev_is (ev_op (ev_op (by walk_at "ev") (ev_un (x := .int 1) ev_c ru_neg) (rv_ixL (fun _ e' => SqL.of (e' _ _ g3)) (v := .int (i9 : Nat)) (atI_last (by rw [List.getLast?_map, hi9]; rfl)))) (by walk_at "ev") rv_I0) ?_
          rfl
        · rintro v H4 e4 ⟨p, rfl, hp⟩
          refine ⟨p, _, rfl, ⟨(bs.drop i0).take (i9 + 1 - i0), ?_, Paired.mapP (pair_take _ (pair_drop _ i1)) fun _ _ z => e4 _ _ z⟩, split_some nk lo hi lh⟩
          rw [hp, cut_ref (by omega) (by omega)]
      · exact fun v H4 e h => h
theorem spv_moved {a b : Addr} {w1 h1 w2 h2 : Int} {ps qs : List Prim} {H : Hp} (k1 : Scn H a w1 h1 ps) (k2 : Scn H b w2 h2 qs) : SpV Same (sp_moved K) [.ref a, .ref b] H (AnT (Split (keptM ps qs) (keptM qs ps))) := fun H1 e Q q E => ⟨a, b, w1, h1, w2, h2, ps, qs, rfl, k1.keep e, k2.keep e, fun t M H2 e2 g1 g2 => q _ H2 e2 ⟨t, M, rfl, g1, g2⟩⟩
end
end Cs

namespace Cs
open PySem PySem.Spec PyProof.Rows L2
/-! ### blocks that change what they made: from one heap on -/
def PtE (te : TE) (σ : L2.St) (H : Hp) (P : V → Hp → Prop) : Prop := ∀ Q : VK, (∀ v H2, P v H2 → Q v H2) → te σ H Q
def PtT (tt : TT) (σ : L2.St) (H : Hp) (P : Bool → Hp → Prop) : Prop := ∀ Q : Bool → Hp → Prop, (∀ b H2, P b H2 → Q b H2) → tt σ H Q
def PtS (ts : TS) (σ : L2.St) (H : Hp) (φ : V → Hp → Prop) (ψ : L2.St → Hp → Prop) : Prop := ∀ D : Ends, (∀ v H2, φ v H2 → D.rt v H2) → (∀ σ' H2, ψ σ' H2 → D.nx σ' H2) → ts D σ H
section
variable {σ : L2.St} {H : Hp} {te tl : TE} {t : TT} {ts us ws tb : TS} {P : V → Hp → Prop} {φ : V → Hp → Prop} {ψ : L2.St → Hp → Prop} {K : PySem.W.Frag}
theorem pe_of (h : EvP Same te σ H P) : PtE te σ H (fun v H2 => Same H H2 ∧ P v H2) := fun Q q => h H (Same.refl H) Q fun v H2 e p => q v H2 ⟨e, p⟩
theorem pt_of {b : Bool} (h : EvT Same t σ H b) : PtT t σ H (fun b' H2 => b' = b ∧ Same H H2) := fun Q q => h H (Same.refl H) Q fun H2 e => q b H2 ⟨rfl, e⟩
theorem PtS.run {Q : VK} (h : PtS ts σ H φ Out) (q : ∀ v H2, φ v H2 → Q v H2) : ts { nx := fun _ H' => Q .non H', rt := Q } σ H := h _ q fun _ _ f => f.elim
theorem pts_asg {i : Nat} (h : PtE te σ H P) (k : ∀ v H1, P v H1 → PtS us (σ.set i (some v)) H1 φ ψ) : PtS (tSeq (tAsg te (gName i)) us) σ H φ ψ := fun D q n => h _ fun v H1 p => k v H1 p D q n
theorem pts_asg1 {i : Nat} (h : PtE te σ H P) (k : ∀ v H1, P v H1 → ψ (σ.set i (some v)) H1) : PtS (tAsg te (gName i)) σ H φ ψ := fun D q n => h _ fun v H1 p => n _ _ (k v H1 p)
theorem pts_seq {ψ1 : L2.St → Hp → Prop} (h : PtS ts σ H φ ψ1) (k : ∀ σ' H1, ψ1 σ' H1 → PtS us σ' H1 φ ψ) : PtS (tSeq ts us) σ H φ ψ := fun D q n => h { D with nx := us D } q fun σ' H2 p => k σ' H2 p D q n
theorem pts_if1 {P : Bool → Hp → Prop} (h : PtT t σ H P) (k1 : ∀ H1, P true H1 → PtS ts σ H1 φ ψ) (k2 : ∀ H1, P false H1 → PtS ws σ H1 φ ψ) : PtS (tIfS t ts ws) σ H φ ψ := fun D q n => h _ fun b H1 p => by
  cases b with
  | true => exact iteT (k1 H1 p D q n)
  | false => exact iteF (k2 H1 p D q n)
theorem pts_next (k : ψ σ H) : PtS tNext σ H φ ψ := fun _ _ n => n _ _ k
theorem pts_ret (h : PtE te σ H φ) : PtS (tRet te) σ H φ ψ := fun D q _ => h D.rt q
theorem pts_drop (h : PtE te σ H P) (k : ∀ v H1, P v H1 → ψ σ H1) : PtS (tDrop te) σ H φ ψ := fun D _ n => h _ fun v H1 p => n _ _ (k v H1 p)
theorem pts_drop2 (h : PtE te σ H P) (k : ∀ v H1, P v H1 → PtS us σ H1 φ ψ) : PtS (tSeq (tDrop te) us) σ H φ ψ := fun D q n => h _ fun v H1 p => k v H1 p D q n
theorem pts_forP {j : Nat} (h : PtE tl σ H P) (k : ∀ v H1, P v H1 → PtS (tFor (iTup K (tC v)) (gName j) tb) σ H1 φ ψ) : PtS (tFor (iTup K tl) (gName j) tb) σ H φ ψ := fun D q n => h _ fun v H1 p => k v H1 p D q n
theorem pts_for {wi : TI} {J : It} {n j : Nat} {Gd : Hp → Prop} {Y : Nat → Hp → V → Hp → Prop} {I0 : Hp → Prop} (w : Walk J n Gd Y) (hw : ∀ Q : It → Hp → Prop, (∀ H2, I0 H2 → Q J H2) → wi σ H Q) (Iv : Nat → L2.St → Hp → Prop) (h0 : ∀ H2, I0 H2 → Iv 0 σ H2) (hG : ∀ i σ' H', i ≤ n → Iv i σ' H' → Gd H')
    (hs : ∀ i x σ' H' H'', i < n → Iv i σ' H' → Y i H' x H'' → PtS tb (σ'.set j (some x)) H'' φ (Iv (i + 1))) (hd : ∀ σ' H', Iv n σ' H' → ψ σ' H') : PtS (tFor wi (gName j) tb) σ H φ ψ := fun D q nx =>
  hw _ fun H2 i0 => for_it w Iv (h0 H2 i0) hG (fun i x σ' H' H'' hi p y => hs i x σ' H' H'' hi p y _ q fun _ _ f => f) fun σ' H' p => nx σ' H' (hd σ' H' p)
theorem pts_forT {j : Nat} {a : Addr} {xs : List V} (h : Ev Same tl σ H (.ref a)) (ha : H a = some (.tup xs)) (Iv : Nat → L2.St → Hp → Prop) (h0 : ∀ H2, Same H H2 → Iv 0 σ H2) (hG : ∀ i σ' H', i ≤ xs.length → Iv i σ' H' → H' a = some (.tup xs))
    (hs : ∀ i x σ' H', i < xs.length → Iv i σ' H' → xs[i]? = some x → PtS tb (σ'.set j (some x)) H' φ (Iv (i + 1))) (hd : ∀ σ' H', Iv xs.length σ' H' → ψ σ' H') : PtS (tFor (iTup K tl) (gName j) tb) σ H φ ψ :=
  pts_for (I0 := fun H2 => Same H H2) (walk_tup (K := K) (a := a) (xs := xs)) (fun Q q => ei_tup (R := Same) h ha H (Same.refl H) Q q) Iv h0 (fun i σ' H' hi p => SqT.of (hG i σ' H' hi p)) (fun i x σ' H' H'' hi p ⟨e, hx⟩ => by subst e; exact hs i x σ' _ hi p hx) hd
end
/-! ### the table of the damaged parts -/
def LstAt (H : Hp) (l : Addr) (rs : List R4) : Prop := ∃ bs, H l = some (.lst (bs.map V.ref)) ∧ RectsAt H bs rs
theorem LstAt.same {H H' : Hp} {l : Addr} {rs : List R4} (h : LstAt H l rs) (e : Same H H') : LstAt H' l rs := let ⟨bs, h1, h2⟩ := h; ⟨bs, e _ _ h1, h2.keep e⟩
/-- a pixel is in a rectangle of the table's lists -/
def Got (H : Hp) (pk : List (Option Key × V)) (x y : Int) : Prop := ∃ l rs r, V.ref l ∈ pk.map Prod.snd ∧ LstAt H l rs ∧ r ∈ rs ∧ contains r x y = true
def ValsOk (H0 H : Hp) (pk : List (Option Key × V)) (ex : Option Addr) (c : Nat) : Prop := ∀ v ∈ pk.map Prod.snd, ∃ l rs, v = V.ref l ∧ H0 l = none ∧ LstAt H l rs ∧ (ex ≠ some l → rs ≠ []) ∧ rs.length ≤ c
section
variable {P : Program} {w : World} {H0 H H' : Hp} {pd l bx : Addr} {pk : List (Option Key × V)} {rs : List R4} {r : R4} {c : Nat}
theorem PD.keep (h : PD P w H pd pk) (e : Same H H') : PD P w H' pd pk := by
  obtain ⟨vs, ep, h1, h2, h3, h4⟩ := h
  exact ⟨vs, ep, h1, h2, e _ _ h3, h4⟩
theorem Got.same {x y : Int} (h : Got H pk x y) (e : Same H H') : Got H' pk x y := let ⟨l, rs, r, h1, h2, h3⟩ := h; ⟨l, rs, r, h1, h2.same e, h3⟩
theorem ValsOk.same {ex : Option Addr} (h : ValsOk H0 H pk ex c) (e : Same H H') : ValsOk H0 H' pk ex c := fun v hv => let ⟨l, rs, h1, h2, h3, h4⟩ := h v hv; ⟨l, rs, h1, h2, h3.same e, h4⟩
theorem pd_ext (h : PD P w H pd pk) : ∃ φ, H pd = some (.ext φ) := let ⟨_, _, _, _, h3, _⟩ := h; ⟨_, h3⟩
theorem rects_upd {o : HO} {xs : List V} {bs : List Addr} (hl : H l = some (.lst xs)) (h : RectsAt H bs rs) : RectsAt (upd H l o) bs rs := h.kt (kt_upd hl)
theorem ref_inj : ∀ {x y : List Addr}, x.map V.ref = y.map V.ref → x = y
  | [], [], _ => rfl
  | [], _ :: _, h => by simp at h
  | _ :: _, [], h => by simp at h
  | a :: x, b :: y, h => by
    simp only [List.map_cons, List.cons.injEq, V.ref.injEq] at h
    rw [h.1, ref_inj h.2]
theorem rect_inj {a : Addr} {b b' : R4} (h : RectAt H a b) (h' : RectAt H a b') : b' = b := by
  have h1 : some (HO.tup b.vs) = some (.tup b'.vs) := h.symm.trans h'
  injection h1 with h1
  injection h1 with h1
  obtain ⟨b1, b2, b3, b4⟩ := b
  obtain ⟨c1, c2, c3, c4⟩ := b'
  simp only [R4.vs, List.cons.injEq, V.int.injEq, and_true] at h1
  obtain ⟨e1, e2, e3, e4⟩ := h1
  rw [e1, e2, e3, e4]
theorem rects_inj : ∀ {bs : List Addr} {rs rs' : List R4}, RectsAt H bs rs → RectsAt H bs rs' → rs' = rs
  | _, _, _, .nil, .nil => rfl
  | _, _, _, .cons h t, .cons h' t' => by rw [rect_inj h h', rects_inj t t']
theorem append_box (hp : PD P w H pd pk) {bs : List Addr} (hm : V.ref l ∈ pk.map Prod.snd) (hl : H l = some (.lst (bs.map V.ref))) (hr : RectsAt H bs rs) (hv : ValsOk H0 H pk (some l) c) (hrl : rs.length ≤ c) (hb : RectAt H bx r) :
    PD P w (upd H l (.lst (bs.map V.ref ++ [.ref bx]))) pd pk ∧ ValsOk H0 (upd H l (.lst (bs.map V.ref ++ [.ref bx]))) pk none (c + 1) ∧ (∀ x y, Got H pk x y → Got (upd H l (.lst (bs.map V.ref ++ [.ref bx]))) pk x y) ∧ ∀ x y, contains r x y = true → Got (upd H l (.lst (bs.map V.ref ++ [.ref bx]))) pk x y := by
  obtain ⟨φ, hpd⟩ := pd_ext hp
  have hne : pd ≠ l := ne_of hpd hl (fun z => nomatch z)
  have new : LstAt (upd H l (.lst (bs.map V.ref ++ [.ref bx]))) l (rs ++ [r]) := ⟨bs ++ [bx], by rw [upd_same, List.map_append]; rfl, pair_snoc (rects_upd hl hr) (kt_upd hl _ _ hb)⟩
  have old : ∀ {l' : Addr} {rs' : List R4}, l' ≠ l → LstAt H l' rs' → LstAt (upd H l (.lst (bs.map V.ref ++ [.ref bx]))) l' rs' := fun h ⟨bs', h1, h2⟩ => ⟨bs', by rw [upd_ne h]; exact h1, rects_upd hl h2⟩
  have uniq : ∀ {rs' : List R4}, LstAt H l rs' → rs' = rs := by
    rintro rs' ⟨bs', h1, h2⟩
    rw [hl] at h1
    injection h1 with h1
    injection h1 with h1
    have hbs : bs = bs' := ref_inj h1
    subst hbs
    exact rects_inj hr h2
  refine ⟨hp.other (upd_ne hne), fun v hvm => ?_, fun x y hg => ?_, fun x y hc => ⟨l, rs ++ [r], r, hm, new, List.mem_append_right _ List.mem_cons_self, hc⟩⟩
  · obtain ⟨l', rs', h1, h2, h3, h4, h5⟩ := hv v hvm
    by_cases e : l' = l
    · subst e
      exact ⟨l', rs ++ [r], h1, h2, new, fun _ z => by simp at z, by rw [List.length_append, List.length_singleton]; omega⟩
    · exact ⟨l', rs', h1, h2, old e h3, fun _ => h4 (fun z => e (Option.some.inj z).symm), by omega⟩
  · obtain ⟨l', rs', r', h1, h2, h3, h4⟩ := hg
    by_cases e : l' = l
    · subst e
      rw [uniq h2] at h3
      exact ⟨l', rs ++ [r], r', hm, new, List.mem_append_left _ h3, h4⟩
    · exact ⟨l', rs', r', h1, old e h2, h3, h4⟩
end
end Cs

namespace Cs
open PySem PySem.Spec PyProof.Rows L2
local macro_rules | `(tactic| walk_at "hp") => `(tactic| first | assumption)
local macro_rules | `(tactic| walk_at "num") => `(tactic| first | assumption | omega | decide)
local macro_rules | `(tactic| walk_at "rv") => `(tactic| first
  | (with_reducible exact rv_I0)
  | ((with_reducible apply rv_ixT); (walk_at "hp"); (rfl))
  | ((with_reducible apply rv_eq); (rfl))
  | ((with_reducible apply rv_ne); (rfl))
  | (with_reducible exact rv_isN)
  | (with_reducible exact rv_notN)
  | (with_reducible exact rv_inS)
  | ((with_reducible apply rv_I); (first | exact Or.inr ⟨by walk_at "num", by walk_at "num"⟩ | exact Or.inl ⟨by walk_at "num", by walk_at "num"⟩ | exact ⟨by walk_at "num", by walk_at "num"⟩ | exact ⟨by walk_at "num", by walk_at "num", by walk_at "num"⟩ | walk_at "num"))
  | ((with_reducible apply rv_ixS) <;> walk_at "num"))
local macro_rules | `(tactic| walk_at "rc") => `(tactic| first
  | (with_reducible exact rc_abs) | (with_reducible exact rc_max2) | (with_reducible exact rc_min2) | (with_reducible exact rc_int1)
  | ((with_reducible apply rc_lenT); walk_at "hp") | ((with_reducible apply rc_lenZ); walk_at "num"))
local macro_rules | `(tactic| walk_at "ev") => `(tactic| first
  | (with_reducible exact ev_c)
  | ((with_reducible apply ev_var); rfl)
  | ((with_reducible apply ev_op); (walk_at "ev"); (walk_at "ev"); (walk_at "rv"))
  | ((with_reducible apply ev_un); (walk_at "ev"); (exact ru_neg))
  | ((with_reducible apply ev_cb); (walk_at "ev"); (walk_at "rc"))
  | ((with_reducible apply ev_andV); (walk_at "ev"); (intro _; walk_at "ev"))
  | ((with_reducible apply ev_chain); (walk_at "ev"); (walk_at "ev"); (walk_at "rv"); (intro _; walk_at "ev"); (intro _; walk_at "rv"))
  | (with_reducible exact ea_nil)
  | ((with_reducible apply ea_cons); (walk_at "ev"); (walk_at "ev"))
  | ((with_reducible apply et_test); (walk_at "ev"))
  | ((with_reducible apply et_B); (walk_at "ev"))
  | ((with_reducible apply et_and); (walk_at "ev"); (intro _; walk_at "ev"))
  | ((with_reducible apply et_or); (walk_at "ev"); (intro _; walk_at "ev"))
  | ((with_reducible apply et_not); (walk_at "ev"))
  | (with_reducible exact eo_none)
  | ((with_reducible apply eo_some); (walk_at "ev")))
local macro_rules | `(tactic| walk_at "sz") => `(tactic| exact Nat.le_of_ble_eq_true rfl)
local macro_rules | `(tactic| walk_at "as") => `(tactic| ((with_reducible apply es_asg); (walk_at "ev")))
local macro_rules | `(tactic| walk_at "tp") => `(tactic| ((with_reducible apply ep_tup); (walk_at "ev"); (walk_at "sz")))
local macro_rules | `(tactic| walk_at "no") => `(tactic| ((with_reducible apply es_whenF); ((with_reducible apply et_is); (walk_at "ev"); (decide +kernel))))
local macro_rules | `(tactic| walk_at "yes") => `(tactic| ((with_reducible apply es_whenT); ((with_reducible apply et_is); (walk_at "ev"); (decide +kernel))))
section
variable {P : Program} {w : World} {K : PySem.W.Frag} {mg : Str → Option Value} {base : Heap}
def stB (ps qs : List Prim) (M : List Id3) (k : Id3) : Bool := !decide (k ∈ M) && decide (k ∈ keptM ps qs)
theorem stB_iff {ps qs : List Prim} {M : List Id3} {k : Id3} : stB ps qs M k = true ↔ Still ps qs M k := by
  unfold stB Still
  simp only [Bool.and_eq_true, Bool.not_eq_true', decide_eq_true_eq, decide_eq_false_iff_not]
  exact And.comm
/-- while the damage is gathered -/
structure DI (P : Program) (w : World) (H H5 : Hp) (d pd : Addr) (kvs : List (Id3 × V)) (wd hg : Int) (st : Id3 → Bool) (done : Prim → Prop) (c : Nat) (H' : Hp) : Prop where
  same : Same H H'
  kt : KT H5 H'
  dct : ND P w H' d kvs
  fd : H d = none
  fp : H pd = none
  ne : d ≠ pd
  pt : ∃ pk, PD P w H' pd pk ∧ pk.length ≤ c ∧ ValsOk H H' pk none c ∧ ∀ p, done p → st p.who = false → ∀ x y, contains ⟨0, 0, wd, hg⟩ x y = true → p.geo x y = true → Got H' pk x y
theorem DI.keep {H H5 : Hp} {d pd : Addr} {kvs : List (Id3 × V)} {wd hg : Int} {st : Id3 → Bool} {done : Prim → Prop} {c : Nat} {H1 H2 : Hp} (h : DI P w H H5 d pd kvs wd hg st done c H1) (e : Same H1 H2) : DI P w H H5 d pd kvs wd hg st done c H2 := by
  obtain ⟨h1, h2, h3, h4, h5, dp, pk, g1, g2, g3, g4⟩ := h
  exact ⟨h1.trans e, h2.trans (kt_of e), h3.keep e, h4, h5, dp, pk, g1.keep e, g2, g3.same e, fun p hp hs x y a b => (g4 p hp hs x y a b).same e⟩
theorem ValsOk.mono {H0 H : Hp} {pk : List (Option Key × V)} {ex : Option Addr} {c c' : Nat} (h : ValsOk H0 H pk ex c) (hc : c ≤ c') : ValsOk H0 H pk ex c' := fun v hv => let ⟨l, rs, h1, h2, h3, h4, h5⟩ := h v hv; ⟨l, rs, h1, h2, h3, h4, Nat.le_trans h5 hc⟩
theorem DI.done' {H H5 : Hp} {d pd : Addr} {kvs : List (Id3 × V)} {wd hg : Int} {st : Id3 → Bool} {done done' : Prim → Prop} {c : Nat} {H1 : Hp} (h : DI P w H H5 d pd kvs wd hg st done c H1) (hd : ∀ p, done' p → done p ∨ (st p.who = false → ∀ x y, contains ⟨0, 0, wd, hg⟩ x y = true → p.geo x y = true → False)) : DI P w H H5 d pd kvs wd hg st done' (c + 1) H1 := by
  obtain ⟨h1, h2, h3, h4, h5, dp, pk, g1, g2, g3, g4⟩ := h
  refine ⟨h1, h2, h3, h4, h5, dp, pk, g1, by omega, g3.mono (Nat.le_succ c), fun p hp hs x y a b => ?_⟩
  rcases hd p hp with z | z
  · exact g4 p z hs x y a b
  · exact (z hs x y a b).elim
/-- parts.setdefault(plot, []).append(box) -/
theorem pts_part {H H5 : Hp} {d pd bx pr : Addr} {kvs : List (Id3 × V)} {wd hg : Int} {st : Id3 → Bool} {done done' : Prim → Prop} {c : Nat} {H1 : Hp} {σ : L2.St} {i4 i6 i7 : Nat} {φ : V → Hp → Prop} {ψ : L2.St → Hp → Prop} {p : Prim} (h : DI P w H H5 d pd kvs wd hg st done c H1) (hc : c < 5000)
    (v4 : σ[i4]? = some (some (.ref pd))) (v6 : σ[i6]? = some (some (.ref pr))) (v7 : σ[i7]? = some (some (.ref bx))) (hp : PrimAt H1 pr p) {r : R4} (hb : RectAt H1 bx r) (hs : Seen wd hg p (some r)) (hd : ∀ q, done' q → done q ∨ q = p)
    (k : ∀ H2, DI P w H H5 d pd kvs wd hg st done' (c + 1) H2 → ψ σ H2) :
    PtS (tDrop (tBM K "list" rAppend (tSetdP P w (tVar i4) (tOp (rIxT K) (tVar i6) (tC (.int 0))) (tLst tNil)) (tCons (tVar i7) tNil))) σ H1 φ ψ := fun D _ n => by
  obtain ⟨h1, h2, h3, h4, h5, dp, pk, g1, g2, g3, g4⟩ := h
  obtain ⟨pa, cv, p1, p2, p3⟩ := hp
  have hz : (100000 : Nat) ≤ sizeLine := Nat.le_of_ble_eq_true rfl
  refine ⟨.ref pd, v4, pd, pk, rfl, g1, ?_⟩
  have ev : Ev Same (tOp (rIxT K) (tVar i6) (tC (.int 0))) σ H1 (oI p.who.plot) := ev_op (ev_var v6) ev_c (rv_ixT p1 rfl)
  refine ev H1 (Same.refl _) _ fun H2 e2 => ?_
  refine ea_nil (R := Same) H2 (Same.refl _) _ fun H2' e2' => ⟨Nat.zero_le _, fun za hza => ?_⟩
  have hz2 : (upd H2' za (.lst [])) za = some (.lst []) := upd_same
  have e := (e2.trans e2').trans (same_new (o := .lst []) hza)
  have fz : H za = none := Same.free ((h1.trans e2).trans e2') hza
  generalize upd H2' za (.lst []) = H3 at hz2 e ⊢
  have g1 := g1.keep e
  have g3 := g3.same e
  have hb := e _ _ hb
  refine ⟨pk, p.who.plot, rfl, g1, by omega, ?_, ?_⟩
  · intro v hv
    obtain ⟨kv, hkv, rfl⟩ : ∃ kv ∈ pk, kv.2 = v := by
      unfold valV at hv
      obtain ⟨kv, h9, h8⟩ := Option.map_eq_some_iff.mp hv
      exact ⟨kv, List.mem_of_find?_eq_some h9, h8⟩
    have hm := List.mem_map_of_mem (f := Prod.snd) hkv
    obtain ⟨l, rs, hl1, hl2, ⟨bs, hl3, hl4⟩, hl5, hl6⟩ := g3 _ hm
    rw [hl1] at hm ⊢
    have bl := pair_len hl4
    refine ⟨.inl ⟨rfl, _, SqL.of hl3⟩, .ref bx, v7, l, _, .ref bx, rfl, rfl, hl3, by rw [List.length_map]; omega, ?_⟩
    obtain ⟨a1, a2, a3, a4⟩ := append_box (H0 := H) (c := c) g1 hm hl3 hl4 (fun v hv => let ⟨l', rs', x1, x2, x3, x4, x5⟩ := g3 v hv; ⟨l', rs', x1, x2, x3, fun _ => x4 (fun z => nomatch z), x5⟩) hl6 hb
    refine n _ _ (k _ ⟨same_mut (h1.trans e) hl2, (h2.trans (kt_of e)).trans (kt_upd hl3), ?_, h4, h5, dp, pk, a1, by omega, a2, fun q hq hs2 x y c1 c2 => ?_⟩)
    · obtain ⟨o9, hn⟩ := h3.keep e
      refine ND.other ⟨o9, hn⟩ (kt_upd hl3) (upd_ne ?_)
      exact ne_of hn.2.2.1 hl3 (fun z => nomatch z)
    · rcases hd q hq with hq | rfl
      · exact a3 x y ((g4 q hq hs2 x y c1 c2).same e)
      · obtain ⟨c9, e9, h9⟩ := hs x y c1 c2
        injection e9 with e9
        subst e9
        exact a4 x y h9
  · intro hv H4 hp4 ho4
    obtain ⟨φ', hpd⟩ := pd_ext g1
    have hne : za ≠ pd := fun z => by
      rw [z, hpd] at hz2
      cases hz2
    have z4 : H4 za = some (.lst []) := (ho4 za hne).trans hz2
    have kt4 : KT H3 H4 := fun a xs ha => by
      rw [ho4 a (ne_of ha hpd (fun z => nomatch z))]
      exact ha
    have s4 : Same H H4 := fun a u hau => by
      have : a ≠ pd := ne_of_none hau h5
      rw [ho4 a this]
      exact (h1.trans e) a u hau
    have hm : V.ref za ∈ (pk ++ [(oK p.who.plot, V.ref za)]).map Prod.snd := by
      rw [List.map_append]
      exact List.mem_append_right _ List.mem_cons_self
    refine ⟨.inl ⟨rfl, [], SqL.of z4⟩, .ref bx, v7, za, [], .ref bx, rfl, rfl, z4, by show 0 < sizeLine; omega, ?_⟩
    have vo : ValsOk H H4 (pk ++ [(oK p.who.plot, V.ref za)]) (some za) c := by
      intro v hv
      rw [List.map_append] at hv
      rcases List.mem_append.mp hv with hv | hv
      · obtain ⟨l', rs', x1, x2, ⟨bs, x3, x3'⟩, x4, x5⟩ := g3 v hv
        refine ⟨l', rs', x1, x2, ⟨bs, ?_, x3'.kt kt4⟩, fun _ => x4 (fun z => nomatch z), x5⟩
        rw [ho4 l' (ne_of x3 hpd (fun z => nomatch z))]
        exact x3
      · rw [List.mem_singleton.mp hv]
        exact ⟨za, [], rfl, fz, ⟨[], z4, .nil⟩, fun z => absurd rfl z, Nat.zero_le _⟩
    obtain ⟨a1, a2, a3, a4⟩ := append_box (H0 := H) (c := c) (rs := []) hp4 hm (bs := []) z4 .nil vo (Nat.zero_le _) (kt4 _ _ hb)
    refine n _ _ (k _ ⟨same_mut s4 fz, ((h2.trans (kt_of e)).trans kt4).trans (kt_upd z4), ?_, h4, h5, dp, _, a1, by rw [List.length_append, List.length_singleton]; omega, a2, fun q hq hs2 x y c1 c2 => ?_⟩)
    · obtain ⟨o9, hn⟩ := h3.keep e
      have hn4 := ND.other ⟨o9, hn⟩ kt4 (ho4 d dp)
      obtain ⟨o8, hn8⟩ := hn4
      refine ND.other ⟨o8, hn8⟩ (kt_upd z4) (upd_ne ?_)
      exact ne_of hn8.2.2.1 z4 (fun z => nomatch z)
    · rcases hd q hq with hq | rfl
      · refine a3 x y ?_
        obtain ⟨l', rs', r', y1, ⟨bs, y2, y2'⟩, y3, y4⟩ := (g4 q hq hs2 x y c1 c2).same e
        refine ⟨l', rs', r', by rw [List.map_append]; exact List.mem_append_left _ y1, ⟨bs, ?_, y2'.kt kt4⟩, y3, y4⟩
        rw [ho4 l' (ne_of y2 hpd (fun z => nomatch z))]
        exact y2
      · obtain ⟨c9, e9, h9⟩ := hs x y c1 c2
        injection e9 with e9
        subst e9
        exact a4 x y h9
end
end Cs

namespace Cs
open PySem PySem.Spec PyProof.Rows L2
local macro_rules | `(tactic| walk_at "hp") => `(tactic| first | assumption)
local macro_rules | `(tactic| walk_at "num") => `(tactic| first | assumption | omega | decide)
local macro_rules | `(tactic| walk_at "rv") => `(tactic| first
  | (with_reducible exact rv_I0)
  | ((with_reducible apply rv_ixT); (walk_at "hp"); (rfl))
  | ((with_reducible apply rv_eq); (rfl))
  | ((with_reducible apply rv_ne); (rfl))
  | (with_reducible exact rv_isN)
  | (with_reducible exact rv_notN)
  | (with_reducible exact rv_inS)
  | ((with_reducible apply rv_I); (first | exact Or.inr ⟨by walk_at "num", by walk_at "num"⟩ | exact Or.inl ⟨by walk_at "num", by walk_at "num"⟩ | exact ⟨by walk_at "num", by walk_at "num"⟩ | exact ⟨by walk_at "num", by walk_at "num", by walk_at "num"⟩ | walk_at "num"))
  | ((with_reducible apply rv_ixS) <;> walk_at "num"))
local macro_rules | `(tactic| walk_at "rc") => `(tactic| first
  | (with_reducible exact rc_abs) | (with_reducible exact rc_max2) | (with_reducible exact rc_min2) | (with_reducible exact rc_int1)
  | ((with_reducible apply rc_lenT); walk_at "hp") | ((with_reducible apply rc_lenZ); walk_at "num"))
local macro_rules | `(tactic| walk_at "ev") => `(tactic| first
  | (with_reducible exact ev_c)
  | ((with_reducible apply ev_var); rfl)
  | ((with_reducible apply ev_op); (walk_at "ev"); (walk_at "ev"); (walk_at "rv"))
  | ((with_reducible apply ev_un); (walk_at "ev"); (exact ru_neg))
  | ((with_reducible apply ev_cb); (walk_at "ev"); (walk_at "rc"))
  | ((with_reducible apply ev_andV); (walk_at "ev"); (intro _; walk_at "ev"))
  | ((with_reducible apply ev_chain); (walk_at "ev"); (walk_at "ev"); (walk_at "rv"); (intro _; walk_at "ev"); (intro _; walk_at "rv"))
  | (with_reducible exact ea_nil)
  | ((with_reducible apply ea_cons); (walk_at "ev"); (walk_at "ev"))
  | ((with_reducible apply et_test); (walk_at "ev"))
  | ((with_reducible apply et_B); (walk_at "ev"))
  | ((with_reducible apply et_and); (walk_at "ev"); (intro _; walk_at "ev"))
  | ((with_reducible apply et_or); (walk_at "ev"); (intro _; walk_at "ev"))
  | ((with_reducible apply et_not); (walk_at "ev"))
  | (with_reducible exact eo_none)
  | ((with_reducible apply eo_some); (walk_at "ev")))
local macro_rules | `(tactic| walk_at "sz") => `(tactic| exact Nat.le_of_ble_eq_true rfl)
local macro_rules | `(tactic| walk_at "as") => `(tactic| ((with_reducible apply es_asg); (walk_at "ev")))
local macro_rules | `(tactic| walk_at "tp") => `(tactic| ((with_reducible apply ep_tup); (walk_at "ev"); (walk_at "sz")))
local macro_rules | `(tactic| walk_at "no") => `(tactic| ((with_reducible apply es_whenF); ((with_reducible apply et_is); (walk_at "ev"); (decide +kernel))))
local macro_rules | `(tactic| walk_at "yes") => `(tactic| ((with_reducible apply es_whenT); ((with_reducible apply et_is); (walk_at "ev"); (decide +kernel))))
section
variable {P : Program} {w : World} {K : PySem.W.Frag} {mg : Str → Option Value} {base : Heap}
theorem dc_ofLP {σ : L2.St} {H : Hp} {tl tk tv : TE} {tt : TT} {vs : List Nat} {j : Nat} {PA P' : V → Hp → Prop} (h : EvP Same tl σ H PA) (k : ∀ v H2, Same H H2 → PA v H2 → EvP Same (tDcN P w (iList K (tC v)) (gName j) tt tk tv vs) σ H2 P') : EvP Same (tDcN P w (iList K tl) (gName j) tt tk tv vs) σ H P' := fun H1 e Q q =>
  h H1 e _ fun v H2 e2 p => k v H2 (e.trans e2) p H2 (Same.refl _) Q fun v H3 e3 p' => q v H3 (e2.trans e3) p'
theorem lc_ofV {σ : L2.St} {H : Hp} {td te : TE} {tt : TT} {pd : Addr} {pk : List (Option Key × V)} {vs : List Nat} {j : Nat} (h : Ev Same td σ H (.ref pd)) (hd : PD P w H pd pk) (Lv : Nat → List V → Hp → Prop) (hL : ∀ i l H1 H2, KT H1 H2 → Lv i l H1 → Lv i l H2) (h0 : Lv 0 [] H)
    (hs : ∀ i x acc H1, i < pk.length → Same H H1 → (pk.map Prod.snd)[i]? = some x → Lv i acc H1 → ∃ b, EvT Same tt ((wipe σ vs).set j (some x)) H1 b ∧ (b = true → EvP Same te ((wipe σ vs).set j (some x)) H1 (fun y H2 => Lv (i + 1) (acc ++ [y]) H2)) ∧ (b = false → Lv (i + 1) acc H1))
    (hwp : ∀ x, wipe ((wipe σ vs).set j (some x)) vs = wipe σ vs) : EvP Same (tLc (iValsP P w td) (gName j) tt te vs) σ H (NewLv (Lv pk.length)) := fun H1 e Q q => h H1 e _ fun H2 e2 => by
  have e02 := e.trans e2
  obtain ⟨vs0, ep, hdo⟩ := hd.keep e02
  refine ⟨pd, pk, vs0, ep, rfl, hdo, fun D hD => ?_⟩
  have hz : (1000000 : Nat) ≤ sizeLine := Nat.le_of_ble_eq_true rfl
  have hlen := hdo.1
  have keepo : ∀ {H'}, Same H2 H' → PDo P w H' pd pk vs0 ep := fun e => ⟨hdo.1, hdo.2.1, e _ _ hdo.2.2.1, hdo.2.2.2⟩
  refine lc_it (J := Itp P w pd pk vs0 ep) (n := pk.length) (G := fun H => PDo P w H pd pk vs0 ep) (Y := fun i H x H' => H' = H ∧ ∃ k, pk[i]? = some (k, x)) ⟨fun _ _ hi q => ⟨q, hi⟩, fun _ q => ⟨q, Nat.le_refl _⟩, fun _ _ _ _ _ _ y => y⟩
    (fun i H' => Same H2 H' ∧ ∃ acc, H' D = some (.lst acc) ∧ acc.length ≤ i ∧ Lv i acc H') ⟨same_new hD, [], upd_same, Nat.le_refl 0, hL _ _ _ _ (kt_of (e02.trans (same_new hD))) h0⟩ (fun i H' _ p => keepo p.1) ?_ ?_
  · intro i x H' H'' hi p y
    obtain ⟨eH, k, hx⟩ := y
    subst eH
    obtain ⟨es, acc, ha, hl, lv⟩ := p
    obtain ⟨b, ht, h1, h2⟩ := hs i x acc _ hi (e02.trans es) (by rw [List.getElem?_map, hx]; rfl) lv
    refine ⟨hwp x, ht _ (Same.refl _) _ fun H3 e3 => ?_⟩
    cases b with
    | true =>
      refine iteT (h1 rfl H3 e3 _ fun y H4 e4 lv4 => ?_)
      have e34 := e3.trans e4
      refine ⟨acc, e34 _ _ ha, by omega, same_mut (es.trans e34) hD, acc ++ [y], upd_same, by rw [List.length_append, List.length_singleton]; omega, hL _ _ _ _ (kt_upd (e34 _ _ ha)) lv4⟩
    | false => exact iteF ⟨es.trans e3, acc, e3 _ _ ha, by omega, hL _ _ _ _ (kt_of e3) (h2 rfl)⟩
  · intro H' ⟨es, acc, ha, _, lv⟩
    exact q _ H' (e2.trans es) ⟨D, acc, rfl, ha, lv⟩
theorem spv_visible {s a : Addr} {wd hg : Int} {rs : List Prim} {p : Prim} {H : Hp} (hs : SceneAt H s wd hg rs) (hp : PrimAt H a p) (ok : p.ok) : SpV Same (sp_visible_part K) [.ref s, .ref a] H (fun v H2 => ∃ o, ORect H2 v o ∧ Seen wd hg p o) := fun H1 e Q q E => ⟨s, a, wd, hg, rs, p, rfl, hs.keep e, hp.keep e, ok, fun v o H2 e2 h1 h2 => q v H2 e2 ⟨o, h1, h2⟩⟩
theorem spv_hull {a : Addr} {bs : List Addr} {rs : List R4} {H : Hp} (ha : H a = some (.lst (bs.map V.ref))) (hr : RectsAt H bs rs) (hn : rs ≠ [] ∧ rs.length < 1000000) : SpV Same (sp_hull K) [.ref a] H (fun v H2 => ∃ b r, v = .ref b ∧ RectAt H2 b r ∧ ∀ z ∈ rs, Encl r z) := fun H1 e Q q E => ⟨a, bs, rs, rfl, e _ _ ha, hr.keep e, hn, fun b r H2 e2 h1 h2 => q _ H2 e2 ⟨b, r, rfl, h1, h2⟩⟩
def HullLv (H6 : Hp) (pk : List (Option Key × V)) (i : Nat) (acc : List V) (H : Hp) : Prop := ∃ cs rs, acc = cs.map V.ref ∧ RectsAt H cs rs ∧ rs.length ≤ i ∧ ∀ l rs0, V.ref l ∈ (pk.map Prod.snd).take i → LstAt H6 l rs0 → ∀ r ∈ rs0, ∃ z ∈ rs, Encl z r
theorem hullLv_kt {H6 : Hp} {pk : List (Option Key × V)} (i : Nat) (l : List V) (H1 H2 : Hp) (e : KT H1 H2) (h : HullLv H6 pk i l H1) : HullLv H6 pk i l H2 := by
  obtain ⟨cs, rs, h1, h2, h3, h4⟩ := h
  exact ⟨cs, rs, h1, h2.kt e, h3, h4⟩
theorem lst_inj {H : Hp} {l : Addr} {rs rs' : List R4} (h : LstAt H l rs) (h' : LstAt H l rs') : rs' = rs := by
  obtain ⟨bs, h1, h2⟩ := h
  obtain ⟨bs', h1', h2'⟩ := h'
  rw [h1] at h1'
  injection h1' with h1'
  injection h1' with h1'
  have := ref_inj h1'
  subst this
  exact rects_inj h2 h2'
theorem DI.mono {H H5 : Hp} {d pd : Addr} {kvs : List (Id3 × V)} {wd hg : Int} {st : Id3 → Bool} {done done' : Prim → Prop} {c c' : Nat} {H1 : Hp} (h : DI P w H H5 d pd kvs wd hg st done c H1) (hc : c ≤ c') (hd : ∀ p, done' p → done p) : DI P w H H5 d pd kvs wd hg st done' c' H1 := by
  obtain ⟨h1, h2, h3, h4, h5, dp, pk, g1, g2, g3, g4⟩ := h
  exact ⟨h1, h2, h3, h4, h5, dp, pk, g1, by omega, g3.mono hc, fun p hp => g4 p (hd p hp)⟩
/-- what the damage covers -/
def Covers (ps qs : List Prim) (M : List Id3) (wd hg : Int) (rs : List R4) : Prop := ∀ p, (p ∈ ps ∨ p ∈ qs) → stB ps qs M p.who = false → ∀ x y, contains ⟨0, 0, wd, hg⟩ x y = true → p.geo x y = true → ∃ r ∈ rs, contains r x y = true
def Dam (H2 : Hp) (ps qs : List Prim) (wd hg : Int) (t : Addr) : Prop := ∃ cs rs M, H2 t = some (.tup (cs.map V.ref)) ∧ RectsAt H2 cs rs ∧ rs.length ≤ 5000 ∧ Split (keptM ps qs) (keptM qs ps) M ∧ Covers ps qs M wd hg rs
def sp_damage (K : PySem.W.Frag) : Sp := fun vs H Q _ => ∃ a b wd hg ps qs, vs = [.ref a, .ref b] ∧ Scn H a wd hg ps ∧ Scn H b wd hg qs ∧ ∀ t H2, Same H H2 → Dam H2 ps qs wd hg t → Q (.ref t) H2
theorem ok_damage (T : Txt K mg) : FnOk P w K mg base CX0 6 (He.ga K "damage") (fdOf K (He.ga K "damage")) p_damage (sp_damage K) := by
  refine T.damage.fn.ok sc_damage (fun vs H Q E h => ?_) (fun cdv A outer s H vs Q E hr h => ?_)
  · obtain ⟨a, b, wd, hg, ps, qs, rfl, k1, k2, q⟩ := h
    rfl
  · obtain ⟨a, b, wd, hg, ps, qs, rfl, k1, k2, q⟩ := h
    refine ⟨_, (pss_cons (ps_setDcN (i := 2) (hu65 hr) (own := [("name", 3)]) (g := gName 3) rfl sc_damage.nd rfl rfl (sw_trueD rfl rfl rfl (by decide +kernel)) (pi_list (pe_call (ok_kept_names T) (hr.mono (by decide)) (by rfl) T.kept_names.mg T.kept_names.fn.kp (bd_kept_names T) .nil pass0 (pa_cons (pv 0) (pa_cons (pv 1) pa_nil)))) (blkOk_by (own := [("name", 3)]) (N := n_damage) (sc := defScope s_damage) (by decide +kernel)) (fun _ _ _ _ _ => pg_name (i := 3) sc_damage.nd rfl (Or.inl rfl)) (fun _ _ _ _ _ => pts_nil) (fun _ _ _ _ _ => (pv 3)) (fun _ _ _ _ _ => pe_bl)) (pss_cons (ps_for PassesOwn.never rfl (pi_tup (pe_call (ok_moved T) (hr.mono (by decide)) (by rfl) T.moved.mg T.moved.fn.kp (bd_moved T) .nil pass0 (pa_cons (pv 0) (pa_cons (pv 1) pa_nil)))) (pg_name (i := 3) sc_damage.nd rfl (Or.inl rfl)) (pss_one (ps_putN (hu65 hr) (pv 2) (pv 3) pe_bl rfl))) (pss_cons (ps_set (i := 4) sc_damage.nd rfl (Or.inl rfl) pe_dnewP) (pss_cons (ps_for PassesOwn.never rfl (pi_tup (pe_tup (pa_cons (pv 0) (pa_cons (pv 1) pa_nil)))) (pg_name (i := 5) sc_damage.nd rfl (Or.inl rfl)) (pss_one (ps_for PassesOwn.never rfl (pi_tup (pe_ix (r := rIxT K) ix_tup (pv 5) pe_int (fun _ _ => rfl))) (pg_name (i := 6) sc_damage.nd rfl (Or.inl rfl)) (pss_one (ps_if (pt_not (pt_val (pe_getN2 (P := P) (w := w) (pv 2) (pe_call (ok_identity T) (hr.mono (by decide)) (by rfl) T.identity.mg T.identity.fn.kp (bd_identity T) .nil pass0 (pa_cons (pv 6) pa_nil)) pe_bl))) (pss_cons (ps_set (i := 7) sc_damage.nd rfl (Or.inl rfl) (pe_call (ok_visible_part T) (hr.mono (by decide)) (by rfl) T.visible_part.mg T.visible_part.fn.kp (bd_visible_part T) .nil pass0 (pa_cons (pv 5) (pa_cons (pv 6) pa_nil)))) (pss_one (ps_if (pt_cmpR op_notN1 (pv 7) pe_non (nomark _)) (pss_one (ps_expr (pe_bm PySem.F.plainAttrs_list PySem.F.slot_list_append PySem.F.type_list_append mt_append (pe_setdefP (pv 4) (pe_ix (r := rIxT K) ix_tup (pv 6) pe_int (fun _ _ => rfl)) (pe_lst pa_nil)) (pa_cons (pv 7) pa_nil)))) pss_nil))) pss_nil))))) (pss_one (ps_ret (pe_callTy cb_tupOf (by rfl) T.b_tuple PyProof.Rows.boot_tuple (pa_cons (pe_lc (own := [("boxes", 8)]) (g := gName 8) rfl sc_damage.nd (pi_valuesP (pv 4)) (blkOk_by (own := [("boxes", 8)]) (N := n_damage) (sc := defScope s_damage) (by decide +kernel)) (fun _ _ _ _ _ => pg_name (i := 8) sc_damage.nd rfl (Or.inl rfl)) (fun _ _ _ _ _ => pts_nil) (fun _ _ _ _ _ => (pe_call (ok_hull T) (hr.mono (by decide)) (by rfl) T.hull.mg T.hull.fn.kp (bd_hull T) .nil pass0 (pa_cons (pv 8) pa_nil)))) pa_nil)))))))), ?_⟩
    refine PtS.run (φ := fun v H2 => ∃ t, v = .ref t ∧ Same H H2 ∧ Dam H2 ps qs wd hg t) ?_ fun v H2 ⟨t, p1, p2, p3⟩ => by rw [p1]; exact q t H2 p2 p3
    have hz : (1000000 : Nat) ≤ sizeLine := Nat.le_of_ble_eq_true rfl
    have lp := k1.len
    have lq := k2.len
    have nb : (keptM ps qs).length ≤ 1000 := by
      unfold keptM
      rw [List.length_map]
      have h9 := List.length_filter_le (fun p => decide (findId qs p.who = some p)) ps
      omega
    refine pts_asg (pe_of (dc_ofLP (P' := NewD0 P w H fun kvs => kvs.length ≤ 1000 ∧ ∀ k, valV kvs k = if k ∈ keptM ps qs then some (.bl true) else none) (ep_call (by walk_at "ev") (spv_kept (K := K) k1 k2)) ?_)) ?_
    · rintro v H1 e1 ⟨l, rfl, bs, g1, g2⟩
      have hl := pair_len g2
      refine EvP.imp (ep_dcN0 (X := fun i x => (bs.map V.ref)[i]? = some x) (walk_list (K := K) (a := l) (xs := bs.map V.ref)) (fun _ _ _ _ y => y) (ei_list ev_c (SqL.of g1)) (fun H2 e => SqL.of (e _ _ g1)) (by rw [List.length_map]; omega) (fun i kvs => kvs.length ≤ i ∧ ∀ k, valV kvs k = if k ∈ (keptM ps qs).take i then some (.bl true) else none) ⟨Nat.le_refl 0, fun k => by rw [List.take_zero, if_neg List.not_mem_nil]; rfl⟩ (fun _ => rfl) ?_) ?_
      · intro i x acc H2 hi e hx hacc
        obtain ⟨c, rfl, hc⟩ := map_get hx
        obtain ⟨k, hk, hk2⟩ := pair_get g2 hc
        refine ⟨true, et_true, fun _ => ⟨k, .bl true, EvP.imp (Ev.p (ev_var (v := .ref c) rfl)) fun v H3 e3 hv => ⟨c, hv, (e.trans e3) _ _ hk2⟩, fun H3 e3 => by walk_at "ev", by have := length_putK acc k (.bl true); omega, fun j => ?_⟩, fun z => nomatch z⟩
        rw [valV_put, hacc.2 j, List.take_add_one, hk]
        by_cases hj : j = k
        · rw [if_pos hj, if_pos (by rw [hj]; exact List.mem_append_right _ List.mem_cons_self)]
        · rw [if_neg hj]
          by_cases hm : j ∈ (keptM ps qs).take i
          · rw [if_pos hm, if_pos (List.mem_append_left _ hm)]
          · rw [if_neg hm, if_neg]
            intro z
            rcases List.mem_append.mp z with z | z
            · exact hm z
            · exact hj (List.mem_singleton.mp z)
      · rintro v H2 e2 ⟨d, kvs, rfl, f0, hnd, h1, h2⟩
        refine ⟨d, kvs, rfl, Same.free e1 f0, hnd, by rw [List.length_map] at h1; omega, fun k => ?_⟩
        rw [h2 k, List.length_map, hl, List.take_length]
    rintro v H1 ⟨e1, d, kv1, rfl, fd, hnd1, hlen1, hval1⟩
    refine pts_seq (ψ1 := fun σ' H' => ∃ v3 M kvs, σ' = [some (.ref a), some (.ref b), some (.ref d), v3, none, none, none, none, none] ∧ Same H H' ∧ Split (keptM ps qs) (keptM qs ps) M ∧ ND P w H' d kvs ∧ ∀ k, valV kvs k = if k ∈ M then some (.bl false) else if k ∈ keptM ps qs then some (.bl true) else none) (pts_forP (pe_of (ep_call (by walk_at "ev") (spv_moved (K := K) (k1.keep e1) (k2.keep e1)))) ?_) ?_
    · rintro v H2 ⟨e2, mt, M, rfl, ⟨ms, g1, g2⟩, hsp⟩
      have hl := pair_len g2
      have hM : M.length ≤ 1000 := by
        obtain ⟨A, M', C, x1, _⟩ := hsp
        have := congrArg List.length x1
        rw [List.length_append, List.length_append] at this
        omega
      refine pts_forT (K := K) (a := mt) (xs := ms.map V.ref) ev_c g1 (fun i σ' H' => (∃ v3, σ' = [some (.ref a), some (.ref b), some (.ref d), v3, none, none, none, none, none]) ∧ Same H H' ∧ KT H2 H' ∧ ∃ kvs, ND P w H' d kvs ∧ kvs.length ≤ 1000 + i ∧ ∀ k, valV kvs k = if k ∈ M.take i then some (.bl false) else if k ∈ keptM ps qs then some (.bl true) else none)
        (fun H3 e3 => ⟨⟨none, rfl⟩, e1.trans (e2.trans e3), kt_of e3, kv1, hnd1.keep (e2.trans e3), by omega, fun k => by rw [List.take_zero, if_neg List.not_mem_nil, hval1 k]⟩) (fun i σ' H' _ p => p.2.2.1 _ _ g1) ?_ ?_
      · rintro i x σ' H3 hi ⟨⟨v3, rfl⟩, es, kt, kvs, hnd, hlen, hval⟩ hx
        rw [List.length_map] at hi
        obtain ⟨c, rfl, hc⟩ := map_get hx
        obtain ⟨k, hk, hk2⟩ := pair_get g2 hc
        have hk3 := kt _ _ hk2
        obtain ⟨o9, hn9⟩ := id hnd
        intro D _ n
        refine ⟨.ref d, rfl, .ref c, rfl, d, c, k, kvs, rfl, rfl, hk3, hnd, by omega, fun H4 x1 x2 => n _ _ ⟨⟨_, rfl⟩, fun u o hu => ?_, fun u xs hu => ?_, _, x1, ?_, fun j => ?_⟩⟩
        · rw [x2 u (ne_of_none hu fd)]
          exact es u o hu
        · have h9 := kt u xs hu
          rw [x2 u (ne_of h9 hn9.2.2.1 (fun z => nomatch z))]
          exact h9
        · have := length_putK kvs k (.bl false)
          omega
        · rw [valV_put, hval j, List.take_add_one, hk]
          by_cases hj : j = k
          · rw [if_pos hj, if_pos (by rw [hj]; exact List.mem_append_right _ List.mem_cons_self)]
          · rw [if_neg hj]
            by_cases hm : j ∈ M.take i
            · rw [if_pos hm, if_pos (List.mem_append_left _ hm)]
            · have : j ∉ M.take i ++ (some k).toList := by
                intro z
                rcases List.mem_append.mp z with z | z
                · exact hm z
                · exact hj (List.mem_singleton.mp z)
              rw [if_neg hm, if_neg this]
      · rintro σ' H3 ⟨⟨v3, rfl⟩, es, kt, kvs, hnd, hlen, hval⟩
        refine ⟨v3, M, kvs, rfl, es, hsp, hnd, fun k => ?_⟩
        rw [hval k, List.length_map, hl, List.take_length]
    rintro σ' H2 ⟨v3, M, kvs, rfl, e2, hsp, hnd, hval⟩
    refine pts_asg (P := fun v H4 => ∃ pd o0, v = .ref pd ∧ H2 pd = none ∧ H4 = upd H2 pd o0 ∧ PD P w H4 pd []) (fun Q q p o0 hp hpd => q _ _ ⟨p, o0, rfl, hp, rfl, hpd⟩) ?_
    rintro v H3 ⟨pd, o0, rfl, fp2, rfl, hpd⟩
    have fp : H pd = none := Same.free e2 fp2
    have dp : d ≠ pd := by
      obtain ⟨_, hn⟩ := hnd
      exact ne_of_none hn.2.2.1 fp2
    have e3 : Same H2 (upd H2 pd o0) := same_new fp2
    have hnd3 := hnd.keep e3
    have e03 := e2.trans e3
    refine pts_seq (ψ1 := fun σ' H' => ∃ v3 v5 v6 v7 H5, σ' = [some (.ref a), some (.ref b), some (.ref d), v3, some (.ref pd), v5, v6, v7, none] ∧ DI P w H H5 d pd kvs wd hg (stB ps qs M) (fun p => p ∈ ps ∨ p ∈ qs) 2000 H') (pts_forP (pe_of (ep_tup (vs := [.ref a, .ref b]) (by walk_at "ev") (by walk_at "sz"))) ?_) ?_
    · rintro v H5 ⟨e5, t0, rfl, ht0⟩
      have di0 : DI P w H H5 d pd kvs wd hg (stB ps qs M) (fun _ => False) 0 H5 := ⟨e03.trans e5, fun _ _ h => h, hnd3.keep e5, fd, fp, dp, [], hpd.keep e5, Nat.le_refl 0, fun v hv => absurd hv (by simp), fun p hp => hp.elim⟩
      refine pts_forT (K := K) (a := t0) (xs := [.ref a, .ref b]) ev_c ht0 (fun i σ' H' => (∃ v3 v5 v6 v7, σ' = [some (.ref a), some (.ref b), some (.ref d), v3, some (.ref pd), v5, v6, v7, none]) ∧ DI P w H H5 d pd kvs wd hg (stB ps qs M) (fun p => (1 ≤ i ∧ p ∈ ps) ∨ (2 ≤ i ∧ p ∈ qs)) (1000 * i) H')
        (fun H6 e6 => ⟨⟨_, _, _, _, rfl⟩, (di0.keep e6).mono (Nat.zero_le _) fun p hp => by omega⟩) (fun i σ' H' _ p => p.2.kt _ _ ht0) ?_ ?_
      · rintro i x σ' H6 hi ⟨⟨v3, v5, v6, v7, rfl⟩, di⟩ hx
        obtain ⟨sa, rs, rfl, ks, hdone⟩ : ∃ sa rs, x = .ref sa ∧ Scn H sa wd hg rs ∧ ∀ p, ((1 ≤ i + 1 ∧ p ∈ ps) ∨ (2 ≤ i + 1 ∧ p ∈ qs)) → ((1 ≤ i ∧ p ∈ ps) ∨ (2 ≤ i ∧ p ∈ qs)) ∨ p ∈ rs := by
          match i, hx with
          | 0, hx =>
            simp only [List.getElem?_cons_zero, Option.some.injEq] at hx
            exact ⟨a, ps, hx.symm, k1, fun p hp => hp.elim (fun z => .inr z.2) fun z => absurd z.1 (by omega)⟩
          | 1, hx =>
            simp only [List.getElem?_cons_succ, List.getElem?_cons_zero, Option.some.injEq] at hx
            exact ⟨b, qs, hx.symm, k2, fun p hp => hp.elim (fun z => .inl (.inl ⟨by omega, z.2⟩)) fun z => .inr z.2⟩
          | _ + 2, hx => simp at hx
        have hi2 : i < 2 := hi
        have ks6 := ks.keep di.same
        obtain ⟨ta, as, s1, s2, s3⟩ := id ks.at_
        have hl := pair_len s3
        have lrs := ks.len
        have s1' := di.same _ _ s1
        refine pts_forT (K := K) (a := ta) (xs := as.map V.ref) (by walk_at "ev") (di.same _ _ s2) (fun j σ' H' => (∃ v6 v7, σ' = [some (.ref a), some (.ref b), some (.ref d), v3, some (.ref pd), some (.ref sa), v6, v7, none]) ∧ DI P w H H5 d pd kvs wd hg (stB ps qs M) (fun p => ((1 ≤ i ∧ p ∈ ps) ∨ (2 ≤ i ∧ p ∈ qs)) ∨ p ∈ rs.take j) (1000 * i + j) H')
          (fun H7 e7 => ⟨⟨_, _, rfl⟩, (di.keep e7).mono (Nat.le_refl _) fun p hp => hp.elim id fun z => absurd z (by simp)⟩) (fun j σ' H' _ p => p.2.same _ _ s2) ?_ ?_
        · rintro j x σ' H7 hj ⟨⟨v6, v7, rfl⟩, di7⟩ hx
          rw [List.length_map] at hj
          obtain ⟨pa, rfl, hpa⟩ := map_get hx
          obtain ⟨p, hp, hp2⟩ := pair_get s3 hpa
          have hp7 := hp2.keep di7.same
          have hpo := ks.ok p (List.mem_of_getElem? hp)
          have hv : (valV kvs p.who).getD (.bl false) = .bl (stB ps qs M p.who) := by
            rw [hval p.who]
            unfold stB
            by_cases h1 : p.who ∈ M
            · rw [if_pos h1, decide_eq_true h1]
              rfl
            · rw [if_neg h1, decide_eq_false h1]
              by_cases h2 : p.who ∈ keptM ps qs
              · rw [if_pos h2, decide_eq_true h2]
                rfl
              · rw [if_neg h2, decide_eq_false h2]
                rfl
          have tk : ∀ q, (((1 ≤ i ∧ q ∈ ps) ∨ (2 ≤ i ∧ q ∈ qs)) ∨ q ∈ rs.take (j + 1)) → (((1 ≤ i ∧ q ∈ ps) ∨ (2 ≤ i ∧ q ∈ qs)) ∨ q ∈ rs.take j) ∨ q = p := by
            intro q hq
            rcases hq with hq | hq
            · exact .inl (.inl hq)
            · rw [List.take_add_one, hp] at hq
              rcases List.mem_append.mp hq with hq | hq
              · exact .inl (.inr hq)
              · exact .inr (List.mem_singleton.mp hq)
          refine pts_if1 (pt_of (b := !stB ps qs M p.who) (et_not (et_B (ev_is (ev_getN2 (P := P) (w := w) (kvs := kvs) (k := p.who) (z := .bl false) (by walk_at "ev") di7.dct (ep_whoT (K := K) (by walk_at "ev") hp7) (fun _ _ => by walk_at "ev")) hv)))) ?_ ?_
          · rintro H8 ⟨hb, e8⟩
            have hst : stB ps qs M p.who = false := by
              cases h : stB ps qs M p.who with
              | false => rfl
              | true =>
                rw [h] at hb
                cases hb
            have di8 := di7.keep e8
            have hp8 := hp7.keep e8
            refine pts_asg (pe_of (ep_call (by walk_at "ev") (spv_visible (K := K) (ks.at_.keep di8.same) hp8 hpo))) ?_
            rintro v H9 ⟨e9, o, ho, hs⟩
            have di9 := di8.keep e9
            have hp9 := hp8.keep e9
            cases o with
            | none =>
              obtain rfl : v = .non := ho
              refine pts_if1 (pt_of (b := false) ?_) (fun H10 z => nomatch z.1) ?_
              · apply et_is
                · walk_at "ev"
                · rfl
              · rintro H10 ⟨_, e10⟩
                refine pts_next ⟨⟨_, _, rfl⟩, ((di9.keep e10).done' fun q hq => ?_).mono (by omega) fun _ h => h⟩
                rcases tk q hq with h | rfl
                · exact .inl h
                · exact .inr fun _ x y c1 c2 => by
                    obtain ⟨c, hc, _⟩ := hs x y c1 c2
                    cases hc
            | some r =>
              obtain ⟨bx, rfl, hbx⟩ : ∃ c, v = .ref c ∧ RectAt H9 c r := ho
              refine pts_if1 (pt_of (b := true) ?_) ?_ (fun H10 z => nomatch z.1)
              · apply et_is
                · walk_at "ev"
                · rfl
              · rintro H10 ⟨_, e10⟩
                exact pts_part (di9.keep e10) (by omega) rfl rfl rfl (hp9.keep e10) (e10 _ _ hbx) hs tk fun H11 h => ⟨⟨_, _, rfl⟩, h.mono (by omega) fun _ h => h⟩
          · rintro H8 ⟨hb, e8⟩
            have hst : stB ps qs M p.who = true := by
              cases h : stB ps qs M p.who with
              | true => rfl
              | false =>
                rw [h] at hb
                cases hb
            refine pts_next ⟨⟨_, _, rfl⟩, ((di7.keep e8).done' fun q hq => ?_).mono (by omega) fun _ h => h⟩
            rcases tk q hq with h | rfl
            · exact .inl h
            · exact .inr fun z => by rw [hst] at z; cases z
        · rintro σ' H7 ⟨⟨v6, v7, rfl⟩, di7⟩
          refine ⟨⟨_, _, _, _, rfl⟩, di7.mono (by rw [List.length_map]; omega) fun p hp => ?_⟩
          rw [List.length_map, hl, List.take_length]
          exact hdone p hp
      · rintro σ' H6 ⟨⟨v3, v5, v6, v7, rfl⟩, di⟩
        exact ⟨v3, v5, v6, v7, H5, rfl, di.mono (Nat.le_refl 2000) fun p hp => hp.elim (fun h => .inl ⟨Nat.le_of_ble_eq_true rfl, h⟩) fun h => .inr ⟨Nat.le_of_ble_eq_true rfl, h⟩⟩
    rintro σ' H6 ⟨v3, v5, v6, v7, H5, rfl, di⟩
    obtain ⟨es, _, _, _, _, _, pk, g1, g2, g3, g4⟩ := di
    refine pts_ret fun Q q => pe_of (P := fun v H2 => ∃ t, v = .ref t ∧ Dam H2 ps qs wd hg t) (ep_cbL (lc_ofV (P := P) (w := w) (by walk_at "ev") g1 (HullLv H6 pk) hullLv_kt ⟨[], [], rfl, .nil, Nat.le_refl 0, fun l rs0 h => absurd h (by simp)⟩ ?_ (fun _ => rfl)) ?_) Q fun v H7 ⟨e7, t, h1, h2⟩ => q v H7 ⟨t, h1, es.trans e7, h2⟩
    · rintro i x acc H7 hi e7 hx ⟨cs, rs, rfl, c1, c2, c3⟩
      obtain ⟨l, rs0, rfl, f1, ⟨bs, b1, b2⟩, f3, f4⟩ := g3 x (List.mem_of_getElem? hx)
      refine ⟨true, et_true, fun _ => EvP.imp (ep_call (by walk_at "ev") (spv_hull (K := K) (e7 _ _ b1) (b2.keep e7) ⟨f3 (fun z => nomatch z), by omega⟩)) ?_, fun z => nomatch z⟩
      rintro v H8 e8 ⟨bb, r, rfl, hb, henc⟩
      refine ⟨cs ++ [bb], rs ++ [r], by rw [List.map_append]; rfl, pair_snoc (c1.keep e8) hb, by rw [List.length_append, List.length_singleton]; omega, fun l' rs0' hm hl' z hz' => ?_⟩
      rw [List.take_add_one, hx] at hm
      rcases List.mem_append.mp hm with hm | hm
      · obtain ⟨z1, z2, z3⟩ := c3 l' rs0' hm hl' z hz'
        exact ⟨z1, List.mem_append_left _ z2, z3⟩
      · have : V.ref l' = V.ref l := List.mem_singleton.mp hm
        injection this with this
        subst this
        have hh := lst_inj ⟨bs, b1, b2⟩ hl'
        subst hh
        exact ⟨r, List.mem_append_right _ List.mem_cons_self, henc z hz'⟩
    · rintro p acc H7 e7 hp ⟨cs, rs, rfl, c1, c2, c3⟩ Q q
      refine ⟨p, _, rfl, .inl ⟨SqL.of hp, fun l hl2 => q _ _ (same_new hl2) ⟨l, rfl, cs, rs, M, upd_same, c1.keep (same_new hl2), by omega, hsp, fun pr hpr hst x y cc gg => ?_⟩⟩⟩
      obtain ⟨l', rs', r', y1, y2, y3, y4⟩ := g4 pr hpr hst x y cc gg
      obtain ⟨z1, z2, z3⟩ := c3 l' rs' (by rw [List.take_of_length_le (by rw [List.length_map]; omega)]; exact y1) y2 r' y3
      exact ⟨z1, z2, z3.has y4⟩
theorem spv_damage {a b : Addr} {wd hg : Int} {ps qs : List Prim} {H : Hp} (k1 : Scn H a wd hg ps) (k2 : Scn H b wd hg qs) : SpV Same (sp_damage K) [.ref a, .ref b] H (fun v H2 => ∃ t, v = .ref t ∧ Dam H2 ps qs wd hg t) := fun H1 e Q q E => ⟨a, b, wd, hg, ps, qs, rfl, k1.keep e, k2.keep e, fun t H2 e2 h => q _ H2 e2 ⟨t, rfl, h⟩⟩
end
end Cs

namespace Cs
open PySem PySem.Spec PyProof.Rows L2
local macro_rules | `(tactic| walk_at "hp") => `(tactic| first | assumption)
local macro_rules | `(tactic| walk_at "num") => `(tactic| first | assumption | omega | decide)
local macro_rules | `(tactic| walk_at "rv") => `(tactic| first
  | (with_reducible exact rv_I0)
  | ((with_reducible apply rv_ixT); (walk_at "hp"); (rfl))
  | ((with_reducible apply rv_eq); (rfl))
  | ((with_reducible apply rv_ne); (rfl))
  | (with_reducible exact rv_isN)
  | (with_reducible exact rv_notN)
  | (with_reducible exact rv_inS)
  | ((with_reducible apply rv_I); (first | exact Or.inr ⟨by walk_at "num", by walk_at "num"⟩ | exact Or.inl ⟨by walk_at "num", by walk_at "num"⟩ | exact ⟨by walk_at "num", by walk_at "num"⟩ | exact ⟨by walk_at "num", by walk_at "num", by walk_at "num"⟩ | walk_at "num"))
  | ((with_reducible apply rv_ixS) <;> walk_at "num"))
local macro_rules | `(tactic| walk_at "rc") => `(tactic| first
  | (with_reducible exact rc_abs) | (with_reducible exact rc_max2) | (with_reducible exact rc_min2) | (with_reducible exact rc_int1)
  | ((with_reducible apply rc_lenT); walk_at "hp") | ((with_reducible apply rc_lenZ); walk_at "num"))
local macro_rules | `(tactic| walk_at "ev") => `(tactic| first
  | (with_reducible exact ev_c)
  | ((with_reducible apply ev_var); rfl)
  | ((with_reducible apply ev_op); (walk_at "ev"); (walk_at "ev"); (walk_at "rv"))
  | ((with_reducible apply ev_un); (walk_at "ev"); (exact ru_neg))
  | ((with_reducible apply ev_cb); (walk_at "ev"); (walk_at "rc"))
  | ((with_reducible apply ev_andV); (walk_at "ev"); (intro _; walk_at "ev"))
  | ((with_reducible apply ev_chain); (walk_at "ev"); (walk_at "ev"); (walk_at "rv"); (intro _; walk_at "ev"); (intro _; walk_at "rv"))
  | (with_reducible exact ea_nil)
  | ((with_reducible apply ea_cons); (walk_at "ev"); (walk_at "ev"))
  | ((with_reducible apply et_test); (walk_at "ev"))
  | ((with_reducible apply et_B); (walk_at "ev"))
  | ((with_reducible apply et_and); (walk_at "ev"); (intro _; walk_at "ev"))
  | ((with_reducible apply et_or); (walk_at "ev"); (intro _; walk_at "ev"))
  | ((with_reducible apply et_not); (walk_at "ev"))
  | (with_reducible exact eo_none)
  | ((with_reducible apply eo_some); (walk_at "ev")))
local macro_rules | `(tactic| walk_at "sz") => `(tactic| exact Nat.le_of_ble_eq_true rfl)
local macro_rules | `(tactic| walk_at "as") => `(tactic| ((with_reducible apply es_asg); (walk_at "ev")))
local macro_rules | `(tactic| walk_at "tp") => `(tactic| ((with_reducible apply ep_tup); (walk_at "ev"); (walk_at "sz")))
local macro_rules | `(tactic| walk_at "no") => `(tactic| ((with_reducible apply es_whenF); ((with_reducible apply et_is); (walk_at "ev"); (decide +kernel))))
local macro_rules | `(tactic| walk_at "yes") => `(tactic| ((with_reducible apply es_whenT); ((with_reducible apply et_is); (walk_at "ev"); (decide +kernel))))
section
variable {P : Program} {w : World} {K : PySem.W.Frag} {mg : Str → Option Value} {base : Heap}
theorem eap_consE {R : Rl} [Rel R] {σ : L2.St} {H : Hp} {ta : TE} {tr : TA} {x : V} {P' : List V → Hp → Prop} (h : Ev R ta σ H x) (hr : ∀ H1, R H H1 → EvAP R tr σ H1 (fun vs H2 => P' (x :: vs) H2)) : EvAP R (tCons ta tr) σ H P' :=
  eap_cons (Ev.p h) fun y H1 e hy => by
    subst hy
    exact hr H1 e
theorem eap_nil {R : Rl} [Rel R] {σ : L2.St} {H : Hp} {P' : List V → Hp → Prop} (h : ∀ H1, R H H1 → P' [] H1) : EvAP R tNil σ H P' := EvA.p ea_nil h
theorem es_viaV {R : Rl} [Rel R] {σ : L2.St} {H : Hp} {ts us : TS} {φ : V → Hp → Prop} {ψ : L2.St → Hp → Prop} (σ6 : V → L2.St) (m : ∀ ov H6, R H H6 → EvS R us (σ6 ov) H6 φ ψ) (k : (∀ ov H6, R H H6 → EvS R us (σ6 ov) H6 φ ψ) → EvS R (tSeq ts us) σ H φ ψ) : EvS R (tSeq ts us) σ H φ ψ := k m
theorem es_ifA {R : Rl} [Rel R] {σ : L2.St} {H : Hp} {te : TE} {ts us ws : TS} {φ : V → Hp → Prop} {ψ : L2.St → Hp → Prop} (h : EvP R te σ H (fun v _ => ∃ b, v = .bl b)) (h1 : ∀ H2, R H H2 → EvS R (tSeq ts us) σ H2 φ ψ) (h2 : ∀ H2, R H H2 → EvS R (tSeq ws us) σ H2 φ ψ) : EvS R (tSeq (tIfS (tTest te) ts ws) us) σ H φ ψ := fun H1 e D q n =>
  h H1 e _ fun v H2 e2 ⟨b, hb⟩ => ⟨b, hb, by
    cases b with
    | true => exact h1 H2 (Rel.trans e e2) H2 (Rel.refl H2) D (fun v H3 e3 f => q v H3 (Rel.trans e2 e3) f) fun σ2 H3 e3 f => n σ2 H3 (Rel.trans e2 e3) f
    | false => exact h2 H2 (Rel.trans e e2) H2 (Rel.refl H2) D (fun v H3 e3 f => q v H3 (Rel.trans e2 e3) f) fun σ2 H3 e3 f => n σ2 H3 (Rel.trans e2 e3) f⟩
def PutLv (C : Prim → Prop) (i : Nat) (acc : List V) (H : Hp) : Prop := ∃ bs ps, acc = bs.map V.ref ∧ PrimsAt H bs ps ∧ ps.length ≤ i ∧ ∀ p ∈ ps, C p
theorem putLv_kt {C : Prim → Prop} (i : Nat) (l : List V) (H1 H2 : Hp) (e : KT H1 H2) (h : PutLv C i l H1) : PutLv C i l H2 := by
  obtain ⟨bs, ps, h1, h2, h3⟩ := h
  exact ⟨bs, ps, h1, h2.kt e, h3⟩
theorem putLv_step {C : Prim → Prop} {i : Nat} {acc : List V} {H : Hp} {b : Addr} {p : Prim} (h : PutLv C i acc H) (hb : PrimAt H b p) (hc : C p) : PutLv C (i + 1) (acc ++ [.ref b]) H := by
  obtain ⟨bs, ps, rfl, x2, x3, x4⟩ := h
  refine ⟨bs ++ [b], ps ++ [p], by rw [List.map_append]; rfl, pair_snoc x2 hb, by rw [List.length_append, List.length_singleton]; omega, fun d hd => ?_⟩
  rcases List.mem_append.mp hd with h | h
  · exact x4 d h
  · rw [List.mem_singleton.mp h]
    exact hc
theorem putLv_skip {C : Prim → Prop} {i : Nat} {acc : List V} {H : Hp} (h : PutLv C i acc H) : PutLv C (i + 1) acc H := by
  obtain ⟨bs, ps, h1, h2, h3, h4⟩ := h
  exact ⟨bs, ps, h1, h2, by omega, h4⟩
theorem eap_one' {R : Rl} [Rel R] {σ : L2.St} {H : Hp} {ta : TE} {P : V → Hp → Prop} {P' : List V → Hp → Prop} (h : EvP R ta σ H P) (k : ∀ v H1, R H H1 → P v H1 → P' [v] H1) : EvAP R (tCons ta tNil) σ H P' := fun H1 e Q q =>
  h H1 e _ fun x H2 e2 p => q _ H2 e2 (k x H2 (Rel.trans e e2) p)
/-- a tuple of primitives of C -/
def AnP (n : Nat) (C : Prim → Prop) : V → Hp → Prop := fun v H => ∃ a bs ps, v = .ref a ∧ H a = some (.tup (bs.map V.ref)) ∧ PrimsAt H bs ps ∧ ps.length ≤ n ∧ ∀ p ∈ ps, C p
theorem ep_tupPut {σ : L2.St} {H : Hp} {te : TE} {n : Nat} {C : Prim → Prop} (h : EvP Same te σ H (NewLv (PutLv C n))) : EvP Same (tCB (rTupOf K) (tCons te tNil)) σ H (AnP n C) := fun H1 e Q q =>
  h H1 e _ fun v H2 e2 ⟨a, acc, hv, ha, bs, ps, hb, h2, h3, h4⟩ => by
    subst hv hb
    exact ⟨a, _, rfl, .inl ⟨SqL.of ha, fun l hl => q _ _ (e2.trans (same_new hl)) ⟨l, bs, ps, rfl, upd_same, h2.keep (same_new hl), h3, h4⟩⟩⟩
structure DiffAt (H : Hp) (t : Addr) (ps qs : List Prim) (wd hg : Int) (rem : List Id3) (put : List Prim) (da : Addr) : Prop where
  at_ : ∃ r pt ov as, H t = some (.tup [.non, .ref r, .ref pt, ov, .ref da]) ∧ IdT H r rem ∧ H pt = some (.tup (as.map V.ref)) ∧ PrimsAt H as put
  l1 : rem.length ≤ 1000
  l2 : put.length ≤ 1000
  dam : Dam H ps qs wd hg da
  rem_ : ∀ k ∈ rem, k ∉ qs.map Prim.who ∧ k ∈ ps.map Prim.who
  put_ : ∀ p ∈ put, p ∈ qs ∧ p ∉ ps
theorem spv_merged {s a : Addr} {wd hg : Int} {ps put : List Prim} {rem : List Id3} {H : Hp} (k1 : Scn H s wd hg ps) (k2 : Patch H a rem put) : SpV Same (sp_merged_order K) [.ref s, .ref a] H (AnT fun ds => ∀ d ∈ ds, d ∈ ps.map Prim.who ∨ d ∈ put.map Prim.who) := fun H1 e Q q E => ⟨s, a, wd, hg, ps, rem, put, rfl, k1.keep e, k2.keep e, fun b ds H2 e2 h1 h2 => q _ H2 e2 ⟨b, ds, rfl, h1, h2⟩⟩
theorem idT_dp {H : Hp} {a : Addr} {ds : List Id3} (h : IdT H a ds) : Dp K H (.ref a) (.tuple (ds.map Id3.dat)) := let ⟨bs, h1, h2⟩ := h; .tup (SqT.of h1) (ids_dpAll h2)
theorem Dam.keep {H H' : Hp} {ps qs : List Prim} {wd hg : Int} {t : Addr} (h : Dam H ps qs wd hg t) (e : Same H H') : Dam H' ps qs wd hg t := let ⟨cs, rs, M, h1, h2, h3⟩ := h; ⟨cs, rs, M, e _ _ h1, h2.keep e, h3⟩
def sp_diff (K : PySem.W.Frag) : Sp := fun vs H Q _ => ∃ a b wd hg ps qs, vs = [.ref a, .ref b] ∧ Scn H a wd hg ps ∧ Scn H b wd hg qs ∧ ∀ t rem put da H2, Same H H2 → DiffAt H2 t ps qs wd hg rem put da → Q (.ref t) H2
theorem ok_diff (T : Txt K mg) : FnOk P w K mg base CX0 7 (He.ga K "diff") (fdOf K (He.ga K "diff")) p_diff (sp_diff K) := by
  refine T.diff.fn.ok sc_diff (fun vs H Q E h => ?_) (fun cdv A outer s H vs Q E hr h => ?_)
  · obtain ⟨a, b, wd, hg, ps, qs, rfl, k1, k2, q⟩ := h
    rfl
  · obtain ⟨a, b, wd, hg, ps, qs, rfl, k1, k2, q⟩ := h
    refine ⟨_, (pss_cons (ps_set (i := 2) sc_diff.nd rfl (Or.inr rfl) (pe_call (ok_by_identity T) (hr.mono (by decide)) (by rfl) T.by_identity.mg T.by_identity.fn.kp (bd_by_identity T) .nil pass0 (pa_cons (pv 0) pa_nil))) (pss_cons (ps_set (i := 3) sc_diff.nd rfl (Or.inr rfl) (pe_call (ok_by_identity T) (hr.mono (by decide)) (by rfl) T.by_identity.mg T.by_identity.fn.kp (bd_by_identity T) .nil pass0 (pa_cons (pv 1) pa_nil))) (pss_cons (ps_set (i := 4) sc_diff.nd rfl (Or.inl rfl) (pe_callTy cb_tupOf (by rfl) T.b_tuple PyProof.Rows.boot_tuple (pa_cons (pe_lc (own := [("name", 8)]) (g := gName 8) rfl sc_diff.nd (pi_keysN (pv 2)) (blkOk_by (own := [("name", 8)]) (N := n_diff) (sc := defScope s_diff) (by decide +kernel)) (fun _ _ _ _ _ => pg_name (i := 8) sc_diff.nd rfl (Or.inl rfl)) (fun _ _ _ _ _ => (pts_one (pt_cmpR (r := rNotInDN P w) (op_notinDN (hu65 hr)) (pv 8) (pv 3) (by rfl)))) (fun _ _ _ _ _ => (pv 8))) pa_nil))) (pss_cons (ps_set (i := 5) sc_diff.nd rfl (Or.inl rfl) (pe_callTy cb_tupOf (by rfl) T.b_tuple PyProof.Rows.boot_tuple (pa_cons (pe_lc (own := [("primitive", 9)]) (g := gName 9) rfl sc_diff.nd (pi_tup (pe_ix (r := rIxT K) ix_tup (pv 1) pe_int (fun _ _ => rfl))) (blkOk_by (own := [("primitive", 9)]) (N := n_diff) (sc := defScope s_diff) (by decide +kernel)) (fun _ _ _ _ _ => pg_name (i := 9) sc_diff.nd rfl (Or.inl rfl)) (fun _ _ _ _ _ => (pts_one (pt_cmpR (r := rNeD K) (op_neD hr.units) (pe_getN1 (P := P) (w := w) (pv 2) (pe_call (ok_identity T) (hr.mono (by decide)) (by rfl) T.identity.mg T.identity.fn.kp (bd_identity T) .nil pass0 (pa_cons (pv 9) pa_nil))) (pv 9) (nomark _)))) (fun _ _ _ _ _ => (pv 9))) pa_nil))) (pss_cons (ps_set (i := 6) sc_diff.nd rfl (Or.inl rfl) (pe_callTy cb_tupOf (by rfl) T.b_tuple PyProof.Rows.boot_tuple (pa_cons (pe_lc (own := [("primitive", 9)]) (g := gName 9) rfl sc_diff.nd (pi_tup (pe_ix (r := rIxT K) ix_tup (pv 1) pe_int (fun _ _ => rfl))) (blkOk_by (own := [("primitive", 9)]) (N := n_diff) (sc := defScope s_diff) (by decide +kernel)) (fun _ _ _ _ _ => pg_name (i := 9) sc_diff.nd rfl (Or.inl rfl)) (fun _ _ _ _ _ => pts_nil) (fun _ _ _ _ _ => (pe_call (ok_identity T) (hr.mono (by decide)) (by rfl) T.identity.mg T.identity.fn.kp (bd_identity T) .nil pass0 (pa_cons (pv 9) pa_nil)))) pa_nil))) (pss_cons (ps_if (pt_cmpR (r := rEqD K) (op_eqD hr.units) (pe_call (ok_merged_order T) (hr.mono (by decide)) (by rfl) T.merged_order.mg T.merged_order.fn.kp (bd_merged_order T) .nil pass0 (pa_cons (pv 0) (pa_cons (pe_tup (pa_cons pe_non (pa_cons (pv 4) (pa_cons (pv 5) (pa_cons pe_non (pa_cons (pe_tup pa_nil) pa_nil)))))) pa_nil))) (pv 6) (nomark _)) (pss_one (ps_set (i := 6) sc_diff.nd rfl (Or.inl rfl) pe_non)) pss_nil) (pss_cons (ps_if (pt_cmpR (r := rEqD K) (op_eqD hr.units) (pe_slice (r := rSlA K) sl_tupA (pv 0) po_none (po_some pe_int)) (pe_slice (r := rSlA K) sl_tupA (pv 1) po_none (po_some pe_int)) (nomark _)) (pss_one (ps_ret (pe_tup (pa_cons pe_non (pa_cons (pv 4) (pa_cons (pv 5) (pa_cons (pv 6) (pa_cons (pe_call (ok_damage T) (hr.mono (by decide)) (by rfl) T.damage.mg T.damage.fn.kp (bd_damage T) .nil pass0 (pa_cons (pv 0) (pa_cons (pv 1) pa_nil))) pa_nil)))))))) pss_nil) (pss_cons (ps_set (i := 7) sc_diff.nd rfl (Or.inl rfl) (pe_tup pa_nil)) (pss_cons (ps_if (PW.pt (pw_and (pt_cmpR op_gt (pe_ix (r := rIxT K) ix_tup (pv 1) pe_int (fun _ _ => rfl)) pe_int (nomark _)) (pw_and1 (pt_cmpR op_gt (pe_ix (r := rIxT K) ix_tup (pv 1) pe_int (fun _ _ => rfl)) pe_int (nomark _))))) (pss_one (ps_set (i := 7) sc_diff.nd rfl (Or.inl rfl) (pe_tup (pa_cons (pe_tup (pa_cons pe_int (pa_cons pe_int (pa_cons (pe_ix (r := rIxT K) ix_tup (pv 1) pe_int (fun _ _ => rfl)) (pa_cons (pe_ix (r := rIxT K) ix_tup (pv 1) pe_int (fun _ _ => rfl)) pa_nil))))) pa_nil)))) pss_nil) (pss_one (ps_ret (pe_tup (pa_cons (pe_slice (r := rSlA K) sl_tupA (pv 1) po_none (po_some pe_int)) (pa_cons (pv 4) (pa_cons (pv 5) (pa_cons (pv 6) (pa_cons (pv 7) pa_nil))))))))))))))))), ?_⟩
    refine EvS.run (R := Same) (φ := fun v H2 => ∃ t rem put da, v = .ref t ∧ DiffAt H2 t ps qs wd hg rem put da) ?_ fun v H2 e2 ⟨t, rem, put, da, p1, p2⟩ => by rw [p1]; exact q t rem put da H2 e2 p2
    have hz : (1000000 : Nat) ≤ sizeLine := Nat.le_of_ble_eq_true rfl
    have lp := k1.len
    have lq := k2.len
    refine es_asgP (ep_call (by walk_at "ev") (spv_byid (P := P) (w := w) (K := K) k1)) ?_
    rintro v H1 e1 ⟨od, ok, rfl, hod, om⟩
    refine es_asgP (ep_call (by walk_at "ev") (spv_byid (P := P) (w := w) (K := K) (k2.keep e1))) ?_
    rintro v H2 e2 ⟨nd, nk, rfl, hnd, nm⟩
    have hod := hod.keep e2
    have om := om.keep e2
    have k1 := k1.keep (e1.trans e2)
    have k2 := k2.keep (e1.trans e2)
    have okl : ok.length ≤ 1000 := by
      have := congrArg List.length om.keys
      rw [List.length_map, List.length_map] at this
      omega
    refine es_asgP (ep_tupIds (C := fun ds => ds.length ≤ 1000 ∧ ∀ k ∈ ds, k ∉ qs.map Prim.who ∧ k ∈ ps.map Prim.who) (EvP.imp (lc_ofK (P := P) (w := w) (by walk_at "ev") hod (SubLv fun k => k ∉ qs.map Prim.who ∧ k ∈ ps.map Prim.who) subLv_kt subLv_zero ?_ (fun _ => rfl)) ?_)) ?_
    · rintro i x acc H3 hi e ⟨k, v, c, hk1, rfl, hk2⟩ hacc
      refine ⟨!(valV nk k).isSome, ?_, fun hh => ?_, fun _ => subLv_skip hacc⟩
      · apply et_test
        exact ev_op (by walk_at "ev") (by walk_at "ev") (rv_notinN (hnd.keep e) hk2)
      · refine EvP.imp (Ev.p (ev_var (v := .ref c) rfl)) ?_
        rintro v H4 e4 rfl
        refine subLv_step (subLv_kt _ _ _ _ (kt_of e4) hacc) (e4 _ _ hk2) ⟨fun z => ?_, ?_⟩
        · rw [← nm.keys, ← valV_mem] at z
          rw [z] at hh
          cases hh
        · rw [← om.keys]
          exact List.mem_map_of_mem (f := Prod.fst) (List.mem_of_getElem? hk1)
    · rintro v H3 e3 ⟨p, acc, rfl, hp, bs, ds, rfl, x2, x3, x4⟩
      exact ⟨p, ds, rfl, ⟨bs, hp, x2⟩, by omega, x4⟩
    rintro v H3 e3 ⟨r, rem, rfl, hrem, hr1, hr2⟩
    have hod := hod.keep e3
    have om := om.keep e3
    have k1 := k1.keep e3
    have k2 := k2.keep e3
    obtain ⟨ta, as, s1, s2, s3⟩ := id k2.at_
    have hl := pair_len s3
    refine es_asgP (ep_tupPut (n := (as.map V.ref).length) (C := fun p => p ∈ qs ∧ p ∉ ps) (lc_ofT (K := K) (a := ta) (xs := as.map V.ref) (by walk_at "ev") s2 (by rw [List.length_map]; omega) (PutLv fun p => p ∈ qs ∧ p ∉ ps) putLv_kt ⟨[], [], rfl, .nil, Nat.le_refl 0, fun _ h => absurd h List.not_mem_nil⟩ ?_ (fun _ => rfl))) ?_
    · intro i x acc H4 e hx hacc
      obtain ⟨c, rfl, hc⟩ := map_get hx
      obtain ⟨p, hp, hpa⟩ := pair_get s3 hc
      have hpa := hpa.keep e
      have hm := List.mem_of_getElem? hp
      refine ⟨!decide (findId ps p.who = some p), ?_, fun hh => ?_, fun _ => putLv_skip hacc⟩
      · apply et_test
        exact ev_oldN (by walk_at "ev") (hod.keep e) (om.keep e) k1.ok (ep_whoT (K := K) (by walk_at "ev") hpa) (by walk_at "ev") hpa (k2.ok p hm)
      · refine EvP.imp (Ev.p (ev_var (v := .ref c) rfl)) ?_
        rintro v H5 e5 rfl
        refine putLv_step (putLv_kt _ _ _ _ (kt_of e5) hacc) (hpa.keep e5) ⟨hm, fun z => ?_⟩
        rw [decide_eq_true ((findId_iff k1.key).mpr z)] at hh
        cases hh
    rintro v H4 e4 ⟨pt, cs, put, rfl, hpt, hput, hp1, hp2⟩
    have hp1 : put.length ≤ 1000 := by
      rw [List.length_map] at hp1
      omega
    have hrem := hrem.keep e4
    have k1 := k1.keep e4
    have k2 := k2.keep e4
    have s1 := e4 _ _ s1
    have s2 := e4 _ _ s2
    have s3 := s3.keep e4
    refine es_asgP (ep_tupIds (ep_whos (K := K) (by walk_at "ev") s2 s3 (by omega) (fun b p H1 hp => ep_whoT (K := K) (by walk_at "ev") hp) (fun _ => rfl))) ?_
    rintro v H5 e5 ⟨ord, _, rfl, hord, rfl⟩
    have hrem := hrem.keep e5
    have hpt := e5 _ _ hpt
    have hput := hput.keep e5
    have k1 := k1.keep e5
    have k2 := k2.keep e5
    have s1 := e5 _ _ s1
    obtain ⟨ta1, as1, f1, _, _⟩ := id k1.at_
    -- the rest, whatever order holds
    refine es_viaV (fun ov => [some (.ref a), some (.ref b), some (.ref od), some (.ref nd), some (.ref r), some (.ref pt), some ov, none, none, none]) ?_ fun main => ?_
    · intro ov H6 e6
      apply es_whenT
      · refine et_test (ev_opL (ep_slT (K := K) (lo := none) (hi := some 2) (by walk_at "ev") eo_none (eo_some ev_c) (e6 _ _ f1)) ?_)
        rintro v H7 e7 ⟨c, rfl, hc⟩
        refine ev_opR ev_c (ep_slT (K := K) (lo := none) (hi := some 2) (by walk_at "ev") eo_none (eo_some ev_c) ((e6.trans e7) _ _ s1)) ?_
        rintro v H8 e8 ⟨c2, rfl, hc2⟩
        have hc : H7 c = some (.tup ([wd, hg].map V.int)) := hc
        have hc2 : H8 c2 = some (.tup ([wd, hg].map V.int)) := hc2
        have := rv_eqD (K := K) (ints_dp (K := K) (e8 _ _ hc)) (ints_dp (K := K) hc2) (shaped_ints _) (shaped_ints _)
        rw [eqv_ints, decide_eq_true rfl] at this
        exact this
      · apply es_retP
        · refine ep_tupP (PA := fun vs H7 => ∃ da, vs = [.non, .ref r, .ref pt, ov, .ref da] ∧ Same H6 H7 ∧ Dam H7 ps qs wd hg da) (P := fun v H2 => ∃ t rem put da, v = .ref t ∧ DiffAt H2 t ps qs wd hg rem put da) (eap_consE (by walk_at "ev") fun Ha ea => eap_consE (by walk_at "ev") fun Hb eb => eap_consE (by walk_at "ev") fun Hc ec => eap_consE (by walk_at "ev") fun Hd ed => eap_cons (ep_call (by walk_at "ev") (spv_damage (K := K) (k1.keep (e6.trans (ea.trans (eb.trans (ec.trans ed))))) (k2.keep (e6.trans (ea.trans (eb.trans (ec.trans ed))))))) ?_) ?_ ?_
          · rintro v He ee ⟨da, rfl, hda⟩
            exact eap_nil fun Hf ef => ⟨da, rfl, (ea.trans (eb.trans (ec.trans (ed.trans (ee.trans ef))))), hda.keep ef⟩
          · rintro vs H7 ⟨da, rfl, _⟩
            exact Nat.le_of_ble_eq_true rfl
          · rintro vs H7 t e7 ⟨da, rfl, e67, hda⟩ ht
            have en := same_new (o := .tup [V.non, .ref r, .ref pt, ov, .ref da]) ht
            have e57 := e6.trans (e67.trans en)
            exact ⟨t, rem, put, da, rfl, ⟨r, pt, ov, cs, upd_same, hrem.keep e57, e57 _ _ hpt, hput.keep e57⟩, hr1, hp1, hda.keep en, hr2, hp2⟩
        · exact fun v H7 e h => h
    refine es_ifA ?_ ?_ ?_
    · refine ep_opL (P := AnT fun ds => ∀ d ∈ ds, d ∈ ps.map Prim.who ∨ d ∈ put.map Prim.who) (ep_callP (PA := fun vs H6 => ∃ p, vs = [.ref a, .ref p] ∧ Same H5 H6 ∧ Patch H6 p rem put) (eap_consE (by walk_at "ev") fun Ha ea => eap_one' (ep_tupP (PA := fun vs H6 => ∃ u, vs = [.non, .ref r, .ref pt, .non, u] ∧ Same H5 H6) (P := fun v H6 => ∃ p, v = .ref p ∧ Same H5 H6 ∧ Patch H6 p rem put) (eap_consE (by walk_at "ev") fun Hb eb => eap_consE (by walk_at "ev") fun Hc ec => eap_consE (by walk_at "ev") fun Hd ed => eap_consE (by walk_at "ev") fun He ee => eap_cons (ep_tup (vs := []) (by walk_at "ev") (by walk_at "sz")) ?_) ?_ ?_) ?_) ?_) ?_
      · rintro u Hf ef ⟨u', rfl, _⟩
        exact eap_nil fun Hg eg => ⟨.ref u', rfl, ea.trans (eb.trans (ec.trans (ed.trans (ee.trans (ef.trans eg)))))⟩
      · rintro vs Hf ⟨u, rfl, _⟩
        exact Nat.le_of_ble_eq_true rfl
      · rintro vs Hf p ef ⟨u, rfl, e5f⟩ hp
        have en := same_new (o := .tup [V.non, .ref r, .ref pt, .non, u]) hp
        have e57 := e5f.trans en
        exact ⟨p, rfl, e57, ⟨_, _, _, _, _, _, upd_same, hrem.keep e57, e57 _ _ hpt, hput.keep e57⟩, hr1, hp1⟩
      · rintro v Hf ef ⟨p, rfl, e5f, hpp⟩
        exact ⟨p, rfl, e5f, hpp⟩
      · rintro vs Hf ef ⟨p, rfl, e5f, hpp⟩ Q q
        exact spv_merged (K := K) (k1.keep e5f) hpp Hf (Same.refl _) Q q _
      · rintro v H6 e6 ⟨m, ds, rfl, hm, hds⟩
        refine EvP.imp (Ev.p (ev_op ev_c (by walk_at "ev") (rv_eqD (idT_dp hm) (idT_dp (hord.keep e6)) (shaped_ids fun d hd => ?_) (shaped_ids fun d hd => ?_)))) fun v H7 e7 h => ⟨_, h⟩
        · rcases hds d hd with h | h
          · obtain ⟨p, hp, e⟩ := List.mem_map.mp h
            rw [← e]
            exact (k1.ok p hp).who
          · obtain ⟨p, hp, e⟩ := List.mem_map.mp h
            rw [← e]
            exact (k2.ok p (hp2 p hp).1).who
        · obtain ⟨p, hp, e⟩ := List.mem_map.mp hd
          rw [← e]
          exact (k2.ok p hp).who
    · intro H6 e6
      refine es_asg (v := .non) (by walk_at "ev") ?_
      exact main .non H6 e6
    · intro H6 e6
      exact es_skip (main (.ref ord) H6 e6)
end
end Cs

namespace Cs
open PySem PySem.Spec PyProof.Rows L2
/-! ### the tape -/
def TapeOk (t l : Addr) (ns : List Int) (H : Hp) : Prop := ∃ p n z : Int, H t = some (.lst [.ref l, .int p, .int n, .int z]) ∧ H l = some (.lst (ns.map V.int)) ∧ 0 ≤ p
/-- all stays but the tape and the lists in M; the tape stays a tape -/
structure Tq (t l : Addr) (ns : List Int) (M : List Addr) (H H' : Hp) : Prop where
  keep : ∀ a u, a ≠ t → a ∉ M → H a = some u → H' a = some u
  tup : ∀ a xs, H a = some (.tup xs) → H' a = some (.tup xs)
  back : ∀ a, H' a = none → H a = none
  tape : TapeOk t l ns H → TapeOk t l ns H'
abbrev Tp (t l : Addr) (ns : List Int) : Rl := Tq t l ns []
theorem tape_upd {t l : Addr} {ns : List Int} {H : Hp} {p : Addr} {o : HO} (h : TapeOk t l ns H) (ht : t ≠ p) (hl : l ≠ p) : TapeOk t l ns (upd H p o) := by
  obtain ⟨a, b, c, h1, h2, h3⟩ := h
  exact ⟨a, b, c, by rw [upd_ne ht]; exact h1, by rw [upd_ne hl]; exact h2, h3⟩
theorem TapeOk.t_some {t l : Addr} {ns : List Int} {H : Hp} (h : TapeOk t l ns H) : H t ≠ none ∧ H l ≠ none := by
  obtain ⟨a, b, c, h1, h2, h3⟩ := h
  rw [h1, h2]
  exact ⟨Option.some_ne_none _, Option.some_ne_none _⟩
instance {t l : Addr} {ns : List Int} {M : List Addr} : Rel (Tq t l ns M) where
  refl := fun H => ⟨fun _ _ _ _ h => h, fun _ _ h => h, fun _ h => h, id⟩
  trans := fun a b => ⟨fun x u h1 h2 h => b.keep x u h1 h2 (a.keep x u h1 h2 h), fun x xs h => b.tup x xs (a.tup x xs h), fun x h => a.back x (b.back x h), fun h => b.tape (a.tape h)⟩
  new := fun {H p o} hp => ⟨fun a u _ _ h => by rw [upd_ne (ne_of_none h hp)]; exact h, fun a xs h => by rw [upd_ne (ne_of_none h hp)]; exact h, fun a h => by
      by_cases e : a = p
      · rw [e]; exact hp
      · rw [upd_ne e] at h; exact h, fun h => tape_upd h (fun z => h.t_some.1 (by rw [z]; exact hp)) (fun z => h.t_some.2 (by rw [z]; exact hp))⟩
  tup := fun r h => r.tup _ _ h
  back := fun r h => r.back _ h
  upds := fun {H H' p o} r hp => ⟨fun a u h1 h2 h => by rw [upd_ne (ne_of_none h hp)]; exact r.keep a u h1 h2 h, fun a xs h => by rw [upd_ne (ne_of_none h hp)]; exact r.tup a xs h, fun a h => by
      by_cases e : a = p
      · rw [e]; exact hp
      · rw [upd_ne e] at h; exact r.back a h, fun h => tape_upd (r.tape h) (fun z => h.t_some.1 (by rw [z]; exact hp)) (fun z => h.t_some.2 (by rw [z]; exact hp))⟩
theorem tq_same {t l : Addr} {ns : List Int} {M : List Addr} {H H' : Hp} (e : Same H H') : Tq t l ns M H H' :=
  ⟨fun a u _ _ h => e a u h, fun a xs h => e a _ h, fun a h => Same.free e h, fun ⟨a, b, c, h1, h2, h3⟩ => ⟨a, b, c, e _ _ h1, e _ _ h2, h3⟩⟩
theorem tq_more {t l : Addr} {ns : List Int} {M : List Addr} {H H' : Hp} (e : Tp t l ns H H') : Tq t l ns M H H' := ⟨fun a u h1 _ h => e.keep a u h1 List.not_mem_nil h, e.tup, e.back, e.tape⟩
/-- lists made since the entry may have changed -/
theorem tq_less {t l : Addr} {ns : List Int} {M : List Addr} {H H1 H2 : Hp} (e : Tp t l ns H H1) (e2 : Tq t l ns M H1 H2) (hm : ∀ a ∈ M, H a = none) : Tp t l ns H H2 :=
  ⟨fun a u h1 _ h => e2.keep a u h1 (fun z => by rw [hm a z] at h; cases h) (e.keep a u h1 List.not_mem_nil h), fun a xs h => e2.tup a xs (e.tup a xs h), fun a h => e.back a (e2.back a h), fun h => e2.tape (e.tape h)⟩
/-- a list made since the entry is changed -/
theorem tp_mut {t l : Addr} {ns : List Int} {H H1 : Hp} {p : Addr} {o : HO} (e : Tp t l ns H H1) (hp : H p = none) : Tp t l ns H (upd H1 p o) := Rel.upds e hp
theorem lst_tp {t l : Addr} {ns : List Int} {H H' : Hp} {a : Addr} {u : HO} (e : Tp t l ns H H') (ha : a ≠ t) (h : H a = some u) : H' a = some u := e.keep a u ha List.not_mem_nil h
theorem seq_tp {K : PySem.W.Frag} {t l : Addr} {ns : List Int} {M : List Addr} {H H' : Hp} {a : Addr} {xs : List V} (e : Tq t l ns M H H') (ha : a ≠ t) (hm : a ∉ M) (h : SqL K H a xs) : SqL K H' a xs := by
  rcases h with h | h
  · rcases h with h | ⟨o, h⟩
    · exact .inl (.inl (e.keep _ _ ha hm h))
    · exact .inl (.inr ⟨o, e.keep _ _ ha hm h⟩)
  · exact .inr h
section
variable {t l : Addr} {ns : List Int} {K : PySem.W.Frag} {σ : L2.St} {H : Hp} {te : TE}
theorem ix4 {l : Addr} {p n z : Int} : atI [V.ref l, .int p, .int n, .int z] 0 = some (.ref l) ∧ atI [V.ref l, .int p, .int n, .int z] 1 = some (.int p) ∧ atI [V.ref l, .int p, .int n, .int z] 2 = some (.int n) ∧ atI [V.ref l, .int p, .int n, .int z] 3 = some (.int z) := ⟨rfl, rfl, rfl, rfl⟩
/-- what stands on the tape -/
theorem ev_t0 (ok : TapeOk t l ns H) (h : Ev (Tp t l ns) te σ H (.ref t)) : Ev (Tp t l ns) (tOp (rIxL K) te (tC (.int 0))) σ H (.ref l) := fun H1 e Q q =>
  h H1 e _ fun H2 e2 => by
    obtain ⟨p, n, z, h1, h2, h3⟩ := (Rel.trans e e2).tape ok
    exact ⟨t, _, 0, _, rfl, rfl, SqL.of h1, ix4.1, q H2 e2⟩
theorem ep_t1 (ok : TapeOk t l ns H) (h : Ev (Tp t l ns) te σ H (.ref t)) : EvP (Tp t l ns) (tOp (rIxL K) te (tC (.int 1))) σ H (fun v _ => ∃ p : Int, v = .int p ∧ 0 ≤ p) := fun H1 e Q q =>
  h H1 e _ fun H2 e2 => by
    obtain ⟨p, n, z, h1, h2, h3⟩ := (Rel.trans e e2).tape ok
    exact ⟨t, _, 1, _, rfl, rfl, SqL.of h1, ix4.2.1, q _ H2 e2 ⟨p, rfl, h3⟩⟩
theorem ep_t2 (ok : TapeOk t l ns H) (h : Ev (Tp t l ns) te σ H (.ref t)) : EvP (Tp t l ns) (tOp (rIxL K) te (tC (.int 2))) σ H (fun v _ => ∃ p : Int, v = .int p) := fun H1 e Q q =>
  h H1 e _ fun H2 e2 => by
    obtain ⟨p, n, z, h1, h2, h3⟩ := (Rel.trans e e2).tape ok
    exact ⟨t, _, 2, _, rfl, rfl, SqL.of h1, ix4.2.2.1, q _ H2 e2 ⟨n, rfl⟩⟩
theorem ep_t3 (ok : TapeOk t l ns H) (h : Ev (Tp t l ns) te σ H (.ref t)) : EvP (Tp t l ns) (tOp (rIxL K) te (tC (.int 3))) σ H (fun v _ => ∃ p : Int, v = .int p) := fun H1 e Q q =>
  h H1 e _ fun H2 e2 => by
    obtain ⟨p, n, z, h1, h2, h3⟩ := (Rel.trans e e2).tape ok
    exact ⟨t, _, 3, _, rfl, rfl, SqL.of h1, ix4.2.2.2, q _ H2 e2 ⟨z, rfl⟩⟩
theorem tape_set {H1 : Hp} {k j : Nat} {v : Int} (ok : TapeOk t l ns H1) (hl : l ≠ t) (hj : j = 1 ∨ j = 2 ∨ j = 3) (hv : j = 1 → 0 ≤ v) : ∃ xs, H1 t = some (.lst xs) ∧ xs.length = 4 ∧ Tp t l ns H1 (upd H1 t (.lst (xs.set j (.int v)))) := by
  obtain ⟨p, n, z, h1, h2, h3⟩ := ok
  refine ⟨_, h1, rfl, ⟨fun a u ha _ h => by rw [upd_ne ha]; exact h, fun a xs h => by rw [upd_ne (ne_of h h1 (fun z => nomatch z))]; exact h, fun a h => ?_, fun _ => ?_⟩⟩
  · by_cases e : a = t
    · subst e
      rw [upd_same] at h
      cases h
    · rw [upd_ne e] at h
      exact h
  · rcases hj with rfl | rfl | rfl
    · exact ⟨v, n, z, upd_same, by rw [upd_ne hl]; exact h2, hv rfl⟩
    · exact ⟨p, v, z, upd_same, by rw [upd_ne hl]; exact h2, h3⟩
    · exact ⟨p, n, v, upd_same, by rw [upd_ne hl]; exact h2, h3⟩
/-- tape[j] = e -/
theorem es_tset {us : TS} {φ : V → Hp → Prop} {ψ : L2.St → Hp → Prop} {to : TE} {j : Int} {P : V → Hp → Prop} (ok : TapeOk t l ns H) (hl : l ≠ t) (hj : j = 1 ∨ j = 2 ∨ j = 3) (he : EvP (Tp t l ns) te σ H (fun v _ => ∃ n : Int, v = .int n ∧ (j = 1 → 0 ≤ n))) (ho : ∀ H1, Ev (Tp t l ns) to σ H1 (.ref t)) (k : EvS (Tp t l ns) us σ H φ ψ) :
    EvS (Tp t l ns) (tSeq (tAsg te (gSub to (tC (.int j)) rSetL)) us) σ H φ ψ := fun H1 e D q n =>
  he H1 e _ fun v H2 e2 ⟨m, hv, hm⟩ => ho H2 H2 (Rel.refl _) _ fun H3 e3 => by
    have e13 := Rel.trans e2 e3
    have ok3 := (Rel.trans e e13).tape ok
    obtain ⟨xs, hx, h4, tp⟩ := tape_set (k := 0) (j := j.toNat) (v := m) ok3 hl (by rcases hj with rfl | rfl | rfl <;> simp) (fun z => hm (by rcases hj with rfl | rfl | rfl <;> simp at z ⊢))
    subst hv
    refine ⟨t, xs, j, j.toNat, rfl, rfl, hx, ?_, ?_⟩
    · unfold ixN
      rw [if_pos (by rcases hj with rfl | rfl | rfl <;> decide), if_pos (by rw [h4]; rcases hj with rfl | rfl | rfl <;> decide)]
    · have e14 := Rel.trans e13 tp
      exact k _ (Rel.trans e e14) D (fun v H5 e5 f => q v H5 (Rel.trans e14 e5) f) fun σ2 H5 e5 f => n σ2 H5 (Rel.trans e14 e5) f
theorem es_tset1 {φ : V → Hp → Prop} {ψ : L2.St → Hp → Prop} {to : TE} {j : Int} (ok : TapeOk t l ns H) (hl : l ≠ t) (hj : j = 1 ∨ j = 2 ∨ j = 3) (he : EvP (Tp t l ns) te σ H (fun v _ => ∃ n : Int, v = .int n ∧ (j = 1 → 0 ≤ n))) (ho : ∀ H1, Ev (Tp t l ns) to σ H1 (.ref t)) (k : ∀ H1, Tp t l ns H H1 → ψ σ H1) :
    EvS (Tp t l ns) (tAsg te (gSub to (tC (.int j)) rSetL)) σ H φ ψ := fun H1 e D q n =>
  es_tset (P := fun _ _ => True) ok hl hj he ho (us := tNext) (es_next k) H1 e D q n
end
end Cs

namespace Cs
open PySem PySem.Spec PyProof.Rows L2
local macro_rules | `(tactic| walk_at "hp") => `(tactic| first | assumption)
local macro_rules | `(tactic| walk_at "num") => `(tactic| first | assumption | omega | decide)
local macro_rules | `(tactic| walk_at "rv") => `(tactic| first
  | (with_reducible exact rv_I0)
  | ((with_reducible apply rv_ixT); (walk_at "hp"); (rfl))
  | ((with_reducible apply rv_eq); (rfl))
  | ((with_reducible apply rv_ne); (rfl))
  | (with_reducible exact rv_isN)
  | (with_reducible exact rv_notN)
  | (with_reducible exact rv_inS)
  | ((with_reducible apply rv_I); (first | exact Or.inr ⟨by walk_at "num", by walk_at "num"⟩ | exact Or.inl ⟨by walk_at "num", by walk_at "num"⟩ | exact ⟨by walk_at "num", by walk_at "num"⟩ | exact ⟨by walk_at "num", by walk_at "num", by walk_at "num"⟩ | walk_at "num"))
  | ((with_reducible apply rv_ixS) <;> walk_at "num"))
local macro_rules | `(tactic| walk_at "rc") => `(tactic| first
  | (with_reducible exact rc_abs) | (with_reducible exact rc_max2) | (with_reducible exact rc_min2) | (with_reducible exact rc_int1)
  | ((with_reducible apply rc_lenT); walk_at "hp") | ((with_reducible apply rc_lenZ); walk_at "num"))
local macro_rules | `(tactic| walk_at "ev") => `(tactic| first
  | (with_reducible exact ev_c)
  | ((with_reducible apply ev_var); rfl)
  | ((with_reducible apply ev_op); (walk_at "ev"); (walk_at "ev"); (walk_at "rv"))
  | ((with_reducible apply ev_un); (walk_at "ev"); (exact ru_neg))
  | ((with_reducible apply ev_cb); (walk_at "ev"); (walk_at "rc"))
  | ((with_reducible apply ev_andV); (walk_at "ev"); (intro _; walk_at "ev"))
  | ((with_reducible apply ev_chain); (walk_at "ev"); (walk_at "ev"); (walk_at "rv"); (intro _; walk_at "ev"); (intro _; walk_at "rv"))
  | (with_reducible exact ea_nil)
  | ((with_reducible apply ea_cons); (walk_at "ev"); (walk_at "ev"))
  | ((with_reducible apply et_test); (walk_at "ev"))
  | ((with_reducible apply et_B); (walk_at "ev"))
  | ((with_reducible apply et_and); (walk_at "ev"); (intro _; walk_at "ev"))
  | ((with_reducible apply et_or); (walk_at "ev"); (intro _; walk_at "ev"))
  | ((with_reducible apply et_not); (walk_at "ev"))
  | (with_reducible exact eo_none)
  | ((with_reducible apply eo_some); (walk_at "ev")))
local macro_rules | `(tactic| walk_at "sz") => `(tactic| exact Nat.le_of_ble_eq_true rfl)
local macro_rules | `(tactic| walk_at "as") => `(tactic| ((with_reducible apply es_asg); (walk_at "ev")))
local macro_rules | `(tactic| walk_at "tp") => `(tactic| ((with_reducible apply ep_tup); (walk_at "ev"); (walk_at "sz")))
local macro_rules | `(tactic| walk_at "no") => `(tactic| ((with_reducible apply es_whenF); ((with_reducible apply et_is); (walk_at "ev"); (decide +kernel))))
local macro_rules | `(tactic| walk_at "yes") => `(tactic| ((with_reducible apply es_whenT); ((with_reducible apply et_is); (walk_at "ev"); (decide +kernel))))
section
variable {P : Program} {w : World} {K : PySem.W.Frag} {mg : Str → Option Value} {base : Heap}
def TapeAt (t l : Addr) (ns : List Int) (H : Hp) : Prop := TapeOk t l ns H ∧ l ≠ t
theorem TapeAt.keep {t l : Addr} {ns : List Int} {M : List Addr} {H H' : Hp} (h : TapeAt t l ns H) (e : Tq t l ns M H H') : TapeAt t l ns H' := ⟨e.tape h.1, h.2⟩
theorem TapeAt.l_at {t l : Addr} {ns : List Int} {H : Hp} (h : TapeAt t l ns H) : H l = some (.lst (ns.map V.int)) := let ⟨⟨_, _, _, _, h2, _⟩, _⟩ := h; h2
/-- some int -/
def AnI : V → Hp → Prop := fun v _ => ∃ i : Int, v = .int i
def Dr (m : Int) : V → Hp → Prop := fun v _ => ∃ d : Int, v = .int d ∧ 0 ≤ d ∧ d < m
section
variable {R : Rl} [Rel R] {σ : L2.St} {H : Hp} {ta tb te : TE}
theorem epi_op0 {g : Int → Int → Int} {j : Int} (ha : EvP R ta σ H AnI) (hb : ∀ H1, R H H1 → Ev R tb σ H1 (.int j)) : EvP R (tOp (rI0 fun i j => .int (g i j)) ta tb) σ H AnI :=
  ep_opL ha fun x H1 e ⟨i, hx⟩ => by
    subst hx
    exact EvP.imp (Ev.p (ev_op ev_c (hb H1 e) rv_I0)) fun v H2 e2 hv => ⟨_, hv⟩
theorem epi_opC {C : Int → Int → Prop} {g : Int → Int → Int} {j : Int} (ha : EvP R ta σ H AnI) (hb : ∀ H1, R H H1 → Ev R tb σ H1 (.int j)) (hc : ∀ i, C i j) : EvP R (tOp (rI C fun i j => .int (g i j)) ta tb) σ H AnI :=
  ep_opL ha fun x H1 e ⟨i, hx⟩ => by
    subst hx
    exact EvP.imp (Ev.p (ev_op ev_c (hb H1 e) (rv_I (hc i)))) fun v H2 e2 hv => ⟨_, hv⟩
theorem epi_int1 (h : EvP R te σ H AnI) : EvP R (tCB rInt1 (tCons te tNil)) σ H AnI :=
  ep_cbP (PA := fun vs _ => ∃ i : Int, vs = [.int i]) (fun H1 e Q q => h H1 e _ fun v H2 e2 ⟨i, hi⟩ => q _ H2 e2 ⟨i, by rw [hi]⟩) fun vs H1 e ⟨i, hi⟩ Q q => by
    subst hi
    exact .inl ⟨i, rfl, q _ H1 (Rel.refl H1) ⟨i, rfl⟩⟩
theorem es_viaI {ι : Type} {ts us : TS} {φ : V → Hp → Prop} {ψ : L2.St → Hp → Prop} (σ6 : ι → L2.St) (m : ∀ i H6, R H H6 → EvS R us (σ6 i) H6 φ ψ) (k : (∀ i H6, R H H6 → EvS R us (σ6 i) H6 φ ψ) → EvS R (tSeq ts us) σ H φ ψ) : EvS R (tSeq ts us) σ H φ ψ := k m
end
def sp_l_draw (K : PySem.W.Frag) : Sp := fun vs H Q _ => ∃ t l ns m, vs = [.ref t, .int m] ∧ TapeAt t l ns H ∧ (1 ≤ m ∧ m < 1073741824) ∧ ∀ d H2, Tp t l ns H H2 → 0 ≤ d ∧ d < m → Q (.int d) H2
theorem max1 {m : Int} (h : 1 ≤ m) : (if (1 : Int) > m then (1 : Int) else m) = m := if_neg (by omega)
theorem ok_l_draw (T : Txt K mg) : FnOk P w K mg base CX0 1 (He.ga K "_law_draw") (fdOf K (He.ga K "_law_draw")) p_l_draw (sp_l_draw K) := by
  refine T.l_draw.fn.ok sc_l_draw (fun vs H Q E h => ?_) (fun cdv A outer s H vs Q E hr h => ?_)
  · obtain ⟨t, l, ns, m, rfl, tk, hm, q⟩ := h
    rfl
  · obtain ⟨t, l, ns, m, rfl, tk, hm, q⟩ := h
    refine ⟨_, (pss_cons (ps_if (pt_cmpR op_eq (pe_ix (r := rIxL K) ix_list (pv 0) pe_int (fun _ _ => rfl)) pe_int (nomark _)) (pss_cons (ps_set (i := 2) sc_l_draw.nd rfl (Or.inl rfl) (pe_ix (r := rIxL K) ix_list (pv 0) pe_int (fun _ _ => rfl))) (pss_cons (ps_set (i := 3) sc_l_draw.nd rfl (Or.inl rfl) pe_int) (pss_cons (ps_if (pt_cmpR op_lt (pv 2) (pe_callB (r := rLenQ K) cb_lenQ (by rfl) T.b_len PySem.boot_len (pa_cons (pe_ix (r := rIxL K) ix_list (pv 0) pe_int (fun _ _ => rfl)) pa_nil)) (nomark _)) (pss_one (ps_set (i := 3) sc_l_draw.nd rfl (Or.inl rfl) (pe_callB cb_abs (by rfl) T.b_abs PyProof.Rows.boot_abs (pa_cons (pe_callTy cb_int1 (by rfl) T.b_int PyProof.Rows.boot_int (pa_cons (pe_ix (r := rIxL K) ix_list (pe_ix (r := rIxL K) ix_list (pv 0) pe_int (fun _ _ => rfl)) (pv 2) (fun _ _ => rfl)) pa_nil)) pa_nil)))) (pss_cons (ps_asg (pe_op op_mod (pe_callTy cb_int1 (by rfl) T.b_int PyProof.Rows.boot_int (pa_cons (pe_op op_add (pe_op op_add (pe_op op_mul (pe_ix (r := rIxL K) ix_list (pv 0) pe_int (fun _ _ => rfl)) pe_int) (pv 2)) pe_int) pa_nil)) pe_int) (pg_sub (pv 0) pe_int set_list)) (pss_one (ps_set (i := 3) sc_l_draw.nd rfl (Or.inl rfl) (pe_ix (r := rIxL K) ix_list (pv 0) pe_int (fun _ _ => rfl)))))) (pss_cons (ps_asg (pe_op op_add (pv 2) pe_int) (pg_sub (pv 0) pe_int set_list)) (pss_cons (ps_if (pt_cmpR op_lt (pv 3) (pe_op op_pow pe_int pe_int) (nomark _)) (pss_cons (ps_set (i := 3) sc_l_draw.nd rfl (Or.inl rfl) (pe_op op_mod (pe_callTy cb_int1 (by rfl) T.b_int PyProof.Rows.boot_int (pa_cons (pe_op op_add (pe_op op_add (pe_op op_mul (pv 3) pe_int) (pe_op op_mul (pv 2) pe_int)) pe_int) pa_nil)) pe_int)) (pss_cons (ps_set (i := 3) sc_l_draw.nd rfl (Or.inl rfl) (pe_op op_mod (pe_callTy cb_int1 (by rfl) T.b_int PyProof.Rows.boot_int (pa_cons (pe_op op_mul (pv 3) pe_int) pa_nil)) pe_int)) (pss_one (ps_ret (pe_op op_mod (pe_callTy cb_int1 (by rfl) T.b_int PyProof.Rows.boot_int (pa_cons (pv 3) pa_nil)) (pe_callB (cb_max2 rfl) (by rfl) T.b_max PyProof.Rows.boot_max (pa_cons (pv 1) (pa_cons pe_int pa_nil)))))))) pss_nil) (pss_one (ps_asg (pv 3) (pg_sub (pv 0) pe_int set_list)))))))) pss_nil) (pss_cons (ps_set (i := 3) sc_l_draw.nd rfl (Or.inl rfl) (pe_ix (r := rIxL K) ix_list (pv 0) pe_int (fun _ _ => rfl))) (pss_cons (ps_asg (pe_op op_fdiv (pv 3) (pe_callB (cb_max2 rfl) (by rfl) T.b_max PyProof.Rows.boot_max (pa_cons (pv 1) (pa_cons pe_int pa_nil)))) (pg_sub (pv 0) pe_int set_list)) (pss_one (ps_ret (pe_op op_mod (pe_callTy cb_int1 (by rfl) T.b_int PyProof.Rows.boot_int (pa_cons (pv 3) pa_nil)) (pe_callB (cb_max2 rfl) (by rfl) T.b_max PyProof.Rows.boot_max (pa_cons (pv 1) (pa_cons pe_int pa_nil))))))))), ?_⟩
    refine EvS.run (R := Tp t l ns) (φ := Dr m) ?_ fun v H2 e2 ⟨d, p1, p2⟩ => by rw [p1]; exact q d H2 e2 p2
    have evm : ∀ (σ : L2.St) (H1 : Hp) (n : Int), σ[1]? = some (some (.int m)) → σ[3]? = some (some (.int n)) → Ev (Tp t l ns) (tOp (rI (fun _ j => 0 < j) fun i j => .int (i % j)) (tCB rInt1 (tCons (tVar 3) tNil)) (tCB rMax2 (tCons (tVar 1) (tCons (tC (.int 1)) tNil)))) σ H1 (.int (n % m)) := fun σ H1 n h1 h3 => by
      have := ev_cb (R := Tp t l ns) (σ := σ) (H := H1) (ea_cons (ev_var h1) (ea_cons (ev_c (v := .int 1)) ea_nil)) (rc_max2 (i := m) (j := 1))
      rw [max1 hm.1] at this
      exact ev_op (ev_cb (ea_cons (ev_var h3) ea_nil) rc_int1) this (rv_I (show 0 < m by omega))
    have dr : ∀ n : Int, ∀ H2, Dr m (.int (n % m)) H2 := fun n H2 => ⟨_, rfl, Int.emod_nonneg _ (by omega), Int.emod_lt_of_pos _ (by omega)⟩
    refine es_viaI (ι := Option V × Option V) (fun i => [some (.ref t), some (.int m), i.1, i.2]) ?_ fun main => ?_
    · rintro ⟨v2, v3⟩ H6 e6
      have tk := tk.keep e6
      refine es_asgP (ep_t2 (K := K) tk.1 (ev_var rfl)) ?_
      rintro v H7 e7 ⟨n, rfl⟩
      have tk := tk.keep e7
      refine es_tset (P := fun _ _ => True) tk.1 tk.2 (.inr (.inl rfl)) (EvP.imp (Ev.p (ev_op (z := .int (n / (if (2 : Int) > m then (2 : Int) else m))) (ev_var rfl) (ev_cb (ea_cons (ev_var (v := .int m) rfl) (ea_cons ev_c ea_nil)) rc_max2) (rv_I ⟨by split <;> omega, by split <;> omega⟩))) fun v H8 e8 hv => ⟨_, hv, fun z => nomatch z⟩) (fun H1 => ev_var rfl) ?_
      apply es_ret
      · exact evm _ _ n rfl rfl
      · exact fun H8 _ => dr n H8
    · refine es_ifA (ep_opL (ep_t2 (K := K) tk.1 (ev_var rfl)) ?_) (fun H2 e2 => ?_) fun H2 e2 => es_skip (main (none, none) H2 e2)
      · rintro x H1 e1 ⟨n, rfl⟩
        exact EvP.imp (Ev.p (ev_op ev_c ev_c (rv_eq rfl))) fun v H2 e2 hv => ⟨_, hv⟩
      have tk := tk.keep e2
      apply es_flat
      refine es_asgP (ep_t1 (K := K) tk.1 (ev_var rfl)) ?_
      rintro v H3 e3 ⟨p, rfl, hp⟩
      have tk := tk.keep e3
      apply es_flat
      refine es_asg (v := .int 0) ev_c ?_
      apply es_flat
      -- the number, from the script or from the hash
      refine es_viaI (ι := Int) (fun n => [some (.ref t), some (.int m), some (.int p), some (.int n)]) ?_ fun rest => ?_
      · intro n H4 e4
        have tk := tk.keep e4
        have ee := Rel.trans e2 (Rel.trans e3 e4)
        apply es_flat
        refine es_tset (P := fun _ _ => True) tk.1 tk.2 (.inl rfl) (EvP.imp (Ev.p (ev_op (z := .int (p + 1)) (ev_var rfl) ev_c rv_I0)) fun v H5 e5 hv => ⟨_, hv, fun _ => by omega⟩) (fun H1 => ev_var rfl) ?_
        apply es_flat
        refine es_when (b := decide (n < 10 ^ (18 : Int).toNat)) ?_ ?_ ?_
        · exact et_test (ev_op (ev_var rfl) (ev_op ev_c ev_c (rv_I ⟨by decide, by decide, by decide⟩)) rv_I0)
        · intro _
          refine es_asg (v := .int ((n * 48271 + p * 69621 + 5) % 2147483647)) ?_ ?_
          · exact ev_op (ev_cb (ea_cons (ev_op (ev_op (ev_op (ev_var rfl) ev_c (rv_I (.inr ⟨by decide, by decide⟩))) (ev_op (ev_var rfl) ev_c (rv_I (.inr ⟨by decide, by decide⟩))) rv_I0) ev_c rv_I0) ea_nil) rc_int1) ev_c (rv_I (by decide))
          refine es_asg (v := .int (((n * 48271 + p * 69621 + 5) % 2147483647 * 69621) % 2147483629)) ?_ ?_
          · exact ev_op (ev_cb (ea_cons (ev_op (ev_var rfl) ev_c (rv_I (.inr ⟨by decide, by decide⟩))) ea_nil) rc_int1) ev_c (rv_I (by decide))
          apply es_ret
          · exact evm _ _ _ rfl rfl
          · exact fun H8 _ => dr _ H8
        · intro _
          refine es_tset (P := fun _ _ => True) tk.1 tk.2 (.inr (.inl rfl)) (EvP.imp (Ev.p (ev_var (v := .int n) rfl)) fun v H5 e5 hv => ⟨_, hv, fun z => nomatch z⟩) (fun H1 => ev_var rfl) ?_
          exact (main (some (.int p), some (.int n)) H4 ee)
      · refine es_if (b := decide (p < ((ns.map V.int).length : Int))) ?_ ?_ ?_
        · refine et_test (ev_op (ev_var rfl) (ev_cb (ea_cons (ev_t0 (K := K) tk.1 (ev_var rfl)) ea_nil) (rc_lenL (K := K) (xs := ns.map V.int) fun H1 e => SqL.of (tk.keep e).l_at)) rv_I0)
        · intro hb
          have hb := of_decide_eq_true hb
          rw [List.length_map] at hb
          obtain ⟨k, rfl⟩ := Int.eq_ofNat_of_zero_le hp
          obtain ⟨x, hx⟩ : ∃ x, ns[k]? = some x := ⟨_, List.getElem?_eq_getElem (show k < ns.length by omega)⟩
          refine es_asg (v := .int (if x < 0 then -x else x)) ?_ (rest _ _ (Rel.refl _))
          exact ev_cb (ea_cons (ev_cb (ea_cons (ev_op (ev_t0 (K := K) tk.1 (ev_var rfl)) (ev_var rfl) (rv_ixL (K := K) (xs := ns.map V.int) (fun H1 e => SqL.of (tk.keep e).l_at) (atI_nat (i := k) (v := .int x) (by rw [List.getElem?_map, hx]; rfl)))) ea_nil) rc_int1) ea_nil) rc_abs
        · intro _
          apply es_flat
          refine es_tset (P := fun _ _ => True) tk.1 tk.2 (.inr (.inr rfl)) (EvP.imp (epi_opC (epi_int1 (epi_op0 (epi_op0 (epi_opC (ep_t3 (K := K) tk.1 (ev_var rfl)) (fun _ _ => ev_c) fun i => .inr ⟨by decide, by decide⟩) fun _ _ => ev_var rfl) fun _ _ => ev_c)) (fun _ _ => ev_c) fun i => by decide) fun v H5 e5 ⟨i, hv⟩ => ⟨i, hv, fun z => nomatch z⟩) (fun H1 => ev_var rfl) ?_
          refine es_asgP (ep_t3 (K := K) tk.1 (ev_var rfl)) ?_
          rintro v H5 e5 ⟨n, rfl⟩
          exact rest n H5 e5
theorem ep_draw {t l : Addr} {ns : List Int} {σ : L2.St} {H : Hp} {ta tb : TE} {m : Int} {E : XK} (tk : TapeAt t l ns H) (h : Ev (Tp t l ns) ta σ H (.ref t)) (hb : Ev (Tp t l ns) tb σ H (.int m)) (hm : 1 ≤ m ∧ m < 1073741824) : EvP (Tp t l ns) (tCall (sp_l_draw K) [] E (tCons ta (tCons tb tNil))) σ H (Dr m) :=
  ep_call (ea_cons h (ea_cons hb ea_nil)) fun H1 e Q q E => ⟨t, l, ns, m, rfl, tk.keep e, hm, fun d H2 e2 hd => q _ H2 e2 ⟨d, rfl, hd⟩⟩
end
end Cs

namespace Cs
open PySem PySem.Spec PyProof.Rows L2
local macro_rules | `(tactic| walk_at "hp") => `(tactic| first | assumption)
local macro_rules | `(tactic| walk_at "num") => `(tactic| first | assumption | omega | decide)
local macro_rules | `(tactic| walk_at "rv") => `(tactic| first
  | (with_reducible exact rv_I0)
  | ((with_reducible apply rv_ixT); (walk_at "hp"); (rfl))
  | ((with_reducible apply rv_eq); (rfl))
  | ((with_reducible apply rv_ne); (rfl))
  | (with_reducible exact rv_isN)
  | (with_reducible exact rv_notN)
  | (with_reducible exact rv_inS)
  | ((with_reducible apply rv_I); (first | exact Or.inr ⟨by walk_at "num", by walk_at "num"⟩ | exact Or.inl ⟨by walk_at "num", by walk_at "num"⟩ | exact ⟨by walk_at "num", by walk_at "num"⟩ | exact ⟨by walk_at "num", by walk_at "num", by walk_at "num"⟩ | walk_at "num"))
  | ((with_reducible apply rv_ixS) <;> walk_at "num"))
local macro_rules | `(tactic| walk_at "rc") => `(tactic| first
  | (with_reducible exact rc_abs) | (with_reducible exact rc_max2) | (with_reducible exact rc_min2) | (with_reducible exact rc_int1)
  | ((with_reducible apply rc_lenT); walk_at "hp") | ((with_reducible apply rc_lenZ); walk_at "num"))
local macro_rules | `(tactic| walk_at "ev") => `(tactic| first
  | (with_reducible exact ev_c)
  | ((with_reducible apply ev_var); rfl)
  | ((with_reducible apply ev_op); (walk_at "ev"); (walk_at "ev"); (walk_at "rv"))
  | ((with_reducible apply ev_un); (walk_at "ev"); (exact ru_neg))
  | ((with_reducible apply ev_cb); (walk_at "ev"); (walk_at "rc"))
  | ((with_reducible apply ev_andV); (walk_at "ev"); (intro _; walk_at "ev"))
  | ((with_reducible apply ev_chain); (walk_at "ev"); (walk_at "ev"); (walk_at "rv"); (intro _; walk_at "ev"); (intro _; walk_at "rv"))
  | (with_reducible exact ea_nil)
  | ((with_reducible apply ea_cons); (walk_at "ev"); (walk_at "ev"))
  | ((with_reducible apply et_test); (walk_at "ev"))
  | ((with_reducible apply et_B); (walk_at "ev"))
  | ((with_reducible apply et_and); (walk_at "ev"); (intro _; walk_at "ev"))
  | ((with_reducible apply et_or); (walk_at "ev"); (intro _; walk_at "ev"))
  | ((with_reducible apply et_not); (walk_at "ev"))
  | (with_reducible exact eo_none)
  | ((with_reducible apply eo_some); (walk_at "ev")))
local macro_rules | `(tactic| walk_at "sz") => `(tactic| exact Nat.le_of_ble_eq_true rfl)
local macro_rules | `(tactic| walk_at "as") => `(tactic| ((with_reducible apply es_asg); (walk_at "ev")))
local macro_rules | `(tactic| walk_at "tp") => `(tactic| ((with_reducible apply ep_tup); (walk_at "ev"); (walk_at "sz")))
local macro_rules | `(tactic| walk_at "no") => `(tactic| ((with_reducible apply es_whenF); ((with_reducible apply et_is); (walk_at "ev"); (decide +kernel))))
local macro_rules | `(tactic| walk_at "yes") => `(tactic| ((with_reducible apply es_whenT); ((with_reducible apply et_is); (walk_at "ev"); (decide +kernel))))
section
variable {P : Program} {w : World} {K : PySem.W.Frag} {mg : Str → Option Value} {base : Heap}
section
variable {R : Rl} [Rel R] {σ : L2.St} {H : Hp} {ta tb te : TE} {ts us tb' : TS} {φ : V → Hp → Prop} {ψ : L2.St → Hp → Prop} {P : V → Hp → Prop}
theorem es_ret_seq (h : EvS R (tRet te) σ H φ Out) : EvS R (tSeq (tRet te) us) σ H φ ψ := fun H1 e D q _ => h H1 e { D with nx := us D } q fun _ _ _ f => f.elim
theorem es_forRP {g : TG} (h : EvP R te σ H P) (k : ∀ v H1, R H H1 → P v H1 → EvS R (tFor (iRng1 (tCons (tC v) tNil)) g tb') σ H1 φ ψ) : EvS R (tFor (iRng1 (tCons te tNil)) g tb') σ H φ ψ := fun H1 e D q n =>
  h H1 e _ fun v H2 e2 p => k v H2 (Rel.trans e e2) p H2 (Rel.refl H2) D (fun v H3 e3 f => q v H3 (Rel.trans e2 e3) f) fun σ2 H3 e3 f => n σ2 H3 (Rel.trans e2 e3) f
theorem es_while {c : TT} (Iv : Nat → L2.St → Hp → Prop) (h0 : ∀ H1, R H H1 → ∃ m, Iv m σ H1) (hs : ∀ m σ' H1, R H H1 → Iv m σ' H1 → ∃ b, EvT R c σ' H1 b ∧ (b = true → ∀ H2, R H1 H2 → EvS R tb' σ' H2 φ (fun σ2 H3 => ∃ m', m' < m ∧ Iv m' σ2 H3)) ∧ (b = false → ∀ H2, R H1 H2 → ψ σ' H2)) : EvS R (tWhile c tb') σ H φ ψ := fun H1 e D q n => by
  obtain ⟨m0, i0⟩ := h0 H1 e
  refine ⟨fun m σ' H' => R H1 H' ∧ Iv m σ' H', ⟨m0, Rel.refl H1, i0⟩, fun m σ' H' ⟨e', iv⟩ => ?_⟩
  obtain ⟨b, ht, h1, h2⟩ := hs m σ' H' (Rel.trans e e') iv
  refine ht H' (Rel.refl H') _ fun H2 e2 => ?_
  cases b with
  | true =>
    refine iteT ⟨fun σ2 H3 => R H1 H3 ∧ ∃ m', m' < m ∧ Iv m' σ2 H3, fun σ2 H3 ⟨x1, m', x2, x3⟩ => ⟨m', x2, x1, x3⟩, ?_⟩
    exact h1 rfl H2 e2 H2 (Rel.refl H2) _ (fun v H3 e3 f => q v H3 (Rel.trans (Rel.trans e' e2) e3) f) fun σ2 H3 e3 f => ⟨Rel.trans (Rel.trans e' e2) e3, f⟩
  | false => exact iteF (n σ' H2 (Rel.trans e' e2) (h2 rfl H2 e2))
theorem ep_lstP {ta : TA} {PA : List V → Hp → Prop} (h : EvAP R ta σ H PA) (hl : ∀ vs H1, PA vs H1 → vs.length ≤ sizeLine) (k : ∀ vs H1 p, R H H1 → PA vs H1 → H1 p = none → P (.ref p) (upd H1 p (.lst vs))) : EvP R (tLst ta) σ H P := fun H1 e _ q =>
  h H1 e _ fun vs H2 e2 pa => ⟨hl vs H2 pa, fun p hp => q _ _ (Rel.trans e2 (Rel.new hp)) (k vs H2 p (Rel.trans e e2) pa hp)⟩
end
/-! ### the tape is made -/
def sp_l_tape (K : PySem.W.Frag) : Sp := fun vs H Q _ => ∃ a ns, vs = [.ref a] ∧ SqL K H a (ns.map V.int) ∧ ns.length ≤ 1000 ∧ ∀ t l H2, Same H H2 → TapeAt t l ns H2 → Q (.ref t) H2
theorem ok_l_tape (T : Txt K mg) : FnOk P w K mg base CX0 1 (He.ga K "_law_tape") (fdOf K (He.ga K "_law_tape")) p_l_tape (sp_l_tape K) := by
  refine T.l_tape.fn.ok sc_l_tape (fun vs H Q E h => ?_) (fun cdv A outer s H vs Q E hr h => ?_)
  · obtain ⟨a, ns, rfl, ha, hn, q⟩ := h
    rfl
  · obtain ⟨a, ns, rfl, ha, hn, q⟩ := h
    refine ⟨_, (pss_cons (ps_set (i := 1) sc_l_tape.nd rfl (Or.inl rfl) pe_int) (pss_cons (ps_for PassesOwn.never rfl (pi_list (pv 0)) (pg_name (i := 2) sc_l_tape.nd rfl (Or.inl rfl)) (pss_one (ps_set (i := 1) sc_l_tape.nd rfl (Or.inl rfl) (pe_op op_mod (pe_callTy cb_int1 (by rfl) T.b_int PyProof.Rows.boot_int (pa_cons (pe_op op_add (pe_op op_mul (pv 1) pe_int) (pe_callB cb_abs (by rfl) T.b_abs PyProof.Rows.boot_abs (pa_cons (pe_callTy cb_int1 (by rfl) T.b_int PyProof.Rows.boot_int (pa_cons (pv 2) pa_nil)) pa_nil))) pa_nil)) pe_int)))) (pss_one (ps_ret (pe_lst (pa_cons (pe_callTy cb_listOf (by rfl) T.b_list PyProof.Rows.boot_list (pa_cons (pv 0) pa_nil)) (pa_cons pe_int (pa_cons pe_int (pa_cons (pv 1) pa_nil))))))))), ?_⟩
    refine EvS.run (R := Same) (φ := fun v H2 => ∃ t l, v = .ref t ∧ TapeAt t l ns H2) ?_ fun v H2 e2 ⟨t, l, p1, p2⟩ => by rw [p1]; exact q t l H2 e2 p2
    refine es_asg (v := .int 7) ev_c ?_
    apply es_seq
    · refine es_for (X := fun i x => (ns.map V.int)[i]? = some x) (walk_list (K := K) (a := a) (xs := ns.map V.int)) (fun _ _ _ _ y => y) (ei_list (by walk_at "ev") ha) (fun H1 e => e.seq ha) (fun i σ _ => ∃ z v2, σ = [some (.ref a), some (.int z), v2]) (fun _ _ => ⟨7, none, rfl⟩) ?_ (ψ := fun σ _ => ∃ z v2, σ = [some (.ref a), some (.int z), v2]) (fun _ _ _ h => h)
      rintro i x σ' H1 hi e ⟨z, v2, rfl⟩ hx
      obtain ⟨n, rfl⟩ : ∃ n : Int, x = .int n := by
        rw [List.getElem?_map] at hx
        cases h : ns[i]? with
        | none => rw [h] at hx; cases hx
        | some n =>
          rw [h] at hx
          exact ⟨n, (Option.some.inj hx).symm⟩
      refine es_asg1 (v := .int ((z * 31 + if n < 0 then -n else n) % 2147483647)) ?_ fun H2 e2 => ⟨_, _, rfl⟩
      exact ev_op (ev_cb (ea_cons (ev_op (ev_op (ev_var rfl) ev_c (rv_I (.inr ⟨by decide, by decide⟩))) (ev_cb (ea_cons (ev_cb (ea_cons (ev_var rfl) ea_nil) rc_int1) ea_nil) rc_abs) rv_I0) ea_nil) rc_int1) ev_c (rv_I (by decide))
    · rintro σ' H1 e ⟨z, v2, rfl⟩
      have ha1 := e.seq ha
      apply es_retP
      · refine ep_lstP (PA := fun vs H2 => ∃ l, vs = [.ref l, .int 0, .int 0, .int z] ∧ H2 l = some (.lst (ns.map V.int))) (P := fun v H2 => ∃ t l, v = .ref t ∧ TapeAt t l ns H2) (eap_cons (P := fun v H2 => ∃ l, v = .ref l ∧ H2 l = some (.lst (ns.map V.int))) ?_ ?_) ?_ ?_
        · intro H2 e2 Q q
          exact ⟨_, rfl, a, ns.map V.int, rfl, .inl (e2.seq ha1), fun l hl => q _ _ (same_new hl) ⟨l, rfl, upd_same⟩⟩
        · rintro v H2 e2 ⟨l, rfl, hl⟩
          refine EvA.p (ea_cons ev_c (ea_cons ev_c (ea_cons (by walk_at "ev") ea_nil))) fun H3 e3 => ⟨l, rfl, e3 _ _ hl⟩
        · rintro vs H2 ⟨l, rfl, _⟩
          exact Nat.le_of_ble_eq_true rfl
        · rintro vs H2 p e2 ⟨l, rfl, hl⟩ hp
          have hne : l ≠ p := ne_of_none hl hp
          exact ⟨p, l, rfl, ⟨0, 0, z, upd_same, by rw [upd_ne hne]; exact hl, Int.le_refl 0⟩, hne⟩
      · exact fun v H2 e h => h
/-! ### drawn pieces -/
section
variable {t l : Addr} {ns : List Int} {σ : L2.St} {H : Hp}
/-- [..][draw] -/
theorem ep_pick {ta : TA} {td : TE} {vs : List V} {m : Int} (P : V → Prop) (tk : TapeAt t l ns H) (hv : EvA (Tp t l ns) ta σ H vs) (hl : vs.length = m.toNat ∧ vs.length ≤ 100) (hd : ∀ H1, Tp t l ns H H1 → EvP (Tp t l ns) td σ H1 (Dr m)) (hP : ∀ x ∈ vs, P x) : EvP (Tp t l ns) (tOp (rIxL K) (tLst ta) td) σ H (fun v _ => P v) := fun H1 e Q q =>
  hv H1 e _ fun H2 e2 => ⟨Nat.le_trans hl.2 (Nat.le_of_ble_eq_true rfl), fun p hp => by
    have en : Tp t l ns H2 (upd H2 p (.lst vs)) := Rel.new hp
    have e02 := Rel.trans (Rel.trans e e2) en
    have hpt : p ≠ t := fun z => ((tk.keep (Rel.trans e e2)).1.t_some.1) (by rw [← z]; exact hp)
    refine hd _ e02 _ (Rel.refl _) _ fun v H3 e3 ⟨d, hv, h0, h1⟩ => ?_
    subst hv
    obtain ⟨k, rfl⟩ := Int.eq_ofNat_of_zero_le h0
    have hk : k < vs.length := by omega
    exact ⟨p, vs, (k : Nat), vs[k], rfl, rfl, SqL.of (lst_tp e3 hpt upd_same), atI_nat (List.getElem?_eq_getElem hk), q _ H3 (Rel.trans e2 (Rel.trans en e3)) (hP _ (List.getElem_mem hk))⟩⟩
/-- a sign of a text, drawn -/
theorem ep_sign {tz td : TE} {z : Str} {m : Int} (hz : Ev (Tp t l ns) tz σ H (.str z)) (hl : z.length = m.toNat ∧ z.length ≤ 200) (ha : Asc z) (hd : EvP (Tp t l ns) td σ H (Dr m)) : EvP (Tp t l ns) (tOp rIxS tz td) σ H (fun v _ => ∃ c, v = .str ⟨#[c]⟩ ∧ c < 128) :=
  ep_opR hz hd fun y H1 e ⟨d, hv, h0, h1⟩ => by
    subst hv
    obtain ⟨k, rfl⟩ := Int.eq_ofNat_of_zero_le h0
    have hk : k < z.cps.toList.length := by
      rw [Array.length_toList]
      show k < z.length
      omega
    exact EvP.imp (Ev.p (ev_op ev_c ev_c (rv_ixS (Nat.le_trans hl.2 (Nat.le_of_ble_eq_true rfl)) (atI_nat (List.getElem?_eq_getElem hk))))) fun v H2 e2 hv => ⟨_, hv, ha _ (List.getElem_mem hk)⟩
end
theorem asc_app {a b : Str} (ha : Asc a) (hb : Asc b) : Asc (a ++ b) := by
  intro c hc
  have : (a ++ b).cps.toList = a.cps.toList ++ b.cps.toList := Array.toList_append
  rw [this] at hc
  rcases List.mem_append.mp hc with h | h
  · exact ha c h
  · exact hb c h
theorem asc_one {c : Nat} (h : c < 128) : Asc ⟨#[c]⟩ := fun x hx => by
  have : x = c := by simpa using hx
  rw [this]
  exact h
def allAsc (z : Str) : Bool := z.cps.toList.all fun c => decide (c < 128)
theorem asc_of {z : Str} (h : allAsc z = true) : Asc z := fun c hc => of_decide_eq_true (List.all_eq_true.mp h c hc)
def Word (n : Nat) : V → Hp → Prop := fun v _ => ∃ z, v = .str z ∧ Asc z ∧ z.length ≤ n
def sp_l_word (K : PySem.W.Frag) : Sp := fun vs H Q _ => ∃ t l ns, vs = [.ref t] ∧ TapeAt t l ns H ∧ ∀ v H2, Tp t l ns H H2 → Word 5 v H2 → Q v H2
def sgn : Str := (" !\"#$&'()*+,-./0123456789:;<=>?@ABCDEFGHIJKLMNOPQRSTUVWXYZ[\\]^_`" : Str) ++ ("abcdefghijklmnopqrstuvwxyz{|}~" : Str)
theorem ok_l_word (T : Txt K mg) : FnOk P w K mg base CX0 2 (He.ga K "_law_word") (fdOf K (He.ga K "_law_word")) p_l_word (sp_l_word K) := by
  refine T.l_word.fn.ok sc_l_word (fun vs H Q E h => ?_) (fun cdv A outer s H vs Q E hr h => ?_)
  · obtain ⟨t, l, ns, rfl, tk, q⟩ := h
    rfl
  · obtain ⟨t, l, ns, rfl, tk, q⟩ := h
    refine ⟨_, (pss_cons (ps_set (i := 1) sc_l_word.nd rfl (Or.inl rfl) pe_str) (pss_cons (ps_set (i := 1) sc_l_word.nd rfl (Or.inl rfl) (pe_op op_catS (pv 1) pe_str)) (pss_cons (ps_set (i := 2) sc_l_word.nd rfl (Or.inl rfl) pe_str) (pss_cons (ps_for PassesOwn.never rfl (pi_range1 (by rfl) T.b_range (pa_cons (pe_ix (r := rIxL K) ix_list (pe_lst (pa_cons pe_int (pa_cons pe_int (pa_cons pe_int (pa_cons pe_int (pa_cons pe_int (pa_cons pe_int pa_nil))))))) (pe_call (ok_l_draw T) (hr.mono (by decide)) (by rfl) T.l_draw.mg T.l_draw.fn.kp (bd_l_draw T) .nil pass0 (pa_cons (pv 0) (pa_cons pe_int pa_nil))) (fun _ _ => rfl)) pa_nil)) (pg_name (i := 3) sc_l_word.nd rfl (Or.inl rfl)) (pss_one (ps_set (i := 2) sc_l_word.nd rfl (Or.inl rfl) (pe_op op_catS (pv 2) (pe_ix ix_str (pv 1) (pe_call (ok_l_draw T) (hr.mono (by decide)) (by rfl) T.l_draw.mg T.l_draw.fn.kp (bd_l_draw T) .nil pass0 (pa_cons (pv 0) (pa_cons pe_int pa_nil))) (fun _ _ => rfl)))))) (pss_one (ps_ret (pv 2))))))), ?_⟩
    refine EvS.run (R := Tp t l ns) (φ := Word 5) ?_ fun v H2 e2 p => q v H2 e2 p
    refine es_asg (by walk_at "ev") ?_
    refine es_asg (v := .str sgn) (ev_op (ev_var rfl) ev_c (rv_catS (by decide +kernel))) ?_
    refine es_asg (v := .str "") (by walk_at "ev") ?_
    apply es_seq
    · refine es_forRP (ψ := fun σ _ => ∃ z v3, σ = [some (.ref t), some (.str sgn), some (.str z), v3] ∧ Asc z ∧ z.length ≤ 5) (P := fun v _ => ∃ n : Nat, v = .int (n : Nat) ∧ n ≤ 5) (ep_pick (K := K) (m := 6) (vs := [.int 0, .int 1, .int 1, .int 2, .int 3, .int 5]) (fun v => ∃ n : Nat, v = .int (n : Nat) ∧ n ≤ 5) tk (by walk_at "ev") ⟨rfl, by decide⟩ (fun H1 e1 => ep_draw (K := K) (tk.keep e1) (ev_var rfl) ev_c ⟨by decide, by decide⟩) ?_) ?_
      · intro x hx
        simp only [List.mem_cons, List.not_mem_nil, or_false] at hx
        rcases hx with rfl | rfl | rfl | rfl | rfl | rfl
        · exact ⟨0, rfl, by decide⟩
        · exact ⟨1, rfl, by decide⟩
        · exact ⟨1, rfl, by decide⟩
        · exact ⟨2, rfl, by decide⟩
        · exact ⟨3, rfl, by decide⟩
        · exact ⟨5, rfl, by decide⟩
      · rintro v H1 e1 ⟨n, rfl, hn⟩
        have tk := tk.keep e1
        refine es_forR (n := (n : Nat)) (ea_cons ev_c ea_nil) ⟨by omega, by omega⟩ (fun i σ _ => ∃ z v3, σ = [some (.ref t), some (.str sgn), some (.str z), v3] ∧ Asc z ∧ z.length ≤ i) (fun _ _ => ⟨"", none, rfl, asc_of (by decide +kernel), by decide +kernel⟩) ?_ (ψ := fun σ _ => ∃ z v3, σ = [some (.ref t), some (.str sgn), some (.str z), v3] ∧ Asc z ∧ z.length ≤ 5) ?_
        · rintro i σ' H2 hi e2 ⟨z, v3, rfl, hz, hzl⟩
          refine es_asgP1 (ep_opR (P := fun v _ => ∃ c, v = .str ⟨#[c]⟩ ∧ c < 128) (P' := fun v _ => ∃ c, v = .str (z ++ ⟨#[c]⟩) ∧ c < 128) (ev_var rfl) (ep_sign (m := 94) (z := sgn) (ev_var rfl) ⟨by decide +kernel, by decide +kernel⟩ (asc_of (by decide +kernel)) (ep_draw (K := K) (tk.keep e2) (ev_var rfl) ev_c ⟨by decide, by decide⟩)) ?_) ?_
          · rintro y H3 e3 ⟨c, rfl, hc⟩
            have h1 : (⟨#[c]⟩ : Str).length = 1 := rfl
            have hz5 : (100 : Nat) ≤ sizeLine := Nat.le_of_ble_eq_true rfl
            exact EvP.imp (Ev.p (ev_op ev_c ev_c (rv_catS (by rw [h1]; omega)))) fun v H4 e4 hv => ⟨c, hv, hc⟩
          · rintro v H3 e3 ⟨c, rfl, hc⟩
            refine ⟨_, _, rfl, asc_app hz (asc_one hc), ?_⟩
            rw [strLen_append]
            show z.length + 1 ≤ i + 1
            omega
        · rintro σ' H2 e2 ⟨z, v3, h1, h2, h3⟩
          exact ⟨z, v3, h1, h2, by omega⟩
    · rintro σ' H1 e1 ⟨z, v3, rfl, hz, hl⟩
      apply es_ret
      · walk_at "ev"
      · exact fun _ _ => ⟨z, rfl, hz, hl⟩
theorem ep_word {t l : Addr} {ns : List Int} {σ : L2.St} {H : Hp} {ta : TE} {E : XK} (tk : TapeAt t l ns H) (h : Ev (Tp t l ns) ta σ H (.ref t)) : EvP (Tp t l ns) (tCall (sp_l_word K) [] E (tCons ta tNil)) σ H (Word 5) :=
  ep_call (ea_cons h ea_nil) fun H1 e Q q E => ⟨t, l, ns, rfl, tk.keep e, fun v H2 e2 hd => q _ H2 e2 hd⟩
def Colr : V → Hp → Prop := fun v _ => ∃ o, v = oS o ∧ ∀ z, o = some z → Asc z
def sp_l_color (K : PySem.W.Frag) : Sp := fun vs H Q _ => ∃ t l ns, vs = [.ref t] ∧ TapeAt t l ns H ∧ ∀ v H2, Tp t l ns H H2 → Colr v H2 → Q v H2
theorem ok_l_color (T : Txt K mg) : FnOk P w K mg base CX0 2 (He.ga K "_law_color") (fdOf K (He.ga K "_law_color")) p_l_color (sp_l_color K) := by
  refine T.l_color.fn.ok sc_l_color (fun vs H Q E h => ?_) (fun cdv A outer s H vs Q E hr h => ?_)
  · obtain ⟨t, l, ns, rfl, tk, q⟩ := h
    rfl
  · obtain ⟨t, l, ns, rfl, tk, q⟩ := h
    refine ⟨_, (pss_cons (ps_set (i := 1) sc_l_color.nd rfl (Or.inl rfl) (pe_call (ok_l_draw T) (hr.mono (by decide)) (by rfl) T.l_draw.mg T.l_draw.fn.kp (bd_l_draw T) .nil pass0 (pa_cons (pv 0) (pa_cons pe_int pa_nil)))) (pss_cons (ps_set (i := 2) sc_l_color.nd rfl (Or.inl rfl) pe_str) (pss_cons (ps_for PassesOwn.never rfl (pi_range1 (by rfl) T.b_range (pa_cons pe_int pa_nil)) (pg_name (i := 3) sc_l_color.nd rfl (Or.inl rfl)) (pss_cons (ps_set (i := 2) sc_l_color.nd rfl (Or.inl rfl) (pe_op op_catS (pe_ix ix_str pe_str (pe_op op_mod (pe_callTy cb_int1 (by rfl) T.b_int PyProof.Rows.boot_int (pa_cons (pv 1) pa_nil)) pe_int) (fun _ _ => rfl)) (pv 2))) (pss_one (ps_set (i := 1) sc_l_color.nd rfl (Or.inl rfl) (pe_op op_fdiv (pv 1) pe_int))))) (pss_one (ps_ret (pe_ix (r := rIxL K) ix_list (pe_lst (pa_cons (pe_op op_catS pe_str (pv 2)) (pa_cons pe_str (pa_cons pe_str (pa_cons pe_str (pa_cons pe_non pa_nil)))))) (pe_call (ok_l_draw T) (hr.mono (by decide)) (by rfl) T.l_draw.mg T.l_draw.fn.kp (bd_l_draw T) .nil pass0 (pa_cons (pv 0) (pa_cons pe_int pa_nil))) (fun _ _ => rfl))))))), ?_⟩
    refine EvS.run (R := Tp t l ns) (φ := Colr) ?_ fun v H2 e2 p => q v H2 e2 p
    refine es_asgP (ep_draw (K := K) (m := 16777216) tk (ev_var rfl) ev_c ⟨by decide, by decide⟩) ?_
    rintro v H1 e1 ⟨d, rfl, hd⟩
    have tk := tk.keep e1
    refine es_asg (v := .str "") (by walk_at "ev") ?_
    apply es_seq
    · refine es_forR (n := 6) (ea_cons ev_c ea_nil) ⟨by decide, by decide⟩ (fun i σ _ => ∃ n z v3, σ = [some (.ref t), some (.int n), some (.str z), v3] ∧ Asc z ∧ z.length ≤ i) (fun _ _ => ⟨d, "", none, rfl, asc_of (by decide +kernel), by decide +kernel⟩) ?_ (ψ := fun σ _ => ∃ n z v3, σ = [some (.ref t), some (.int n), some (.str z), v3] ∧ Asc z ∧ z.length ≤ 6) (fun _ _ _ h => h)
      rintro i σ' H2 hi e2 ⟨n, z, v3, rfl, hz, hzl⟩
      have hk : (n % 16).toNat < ("0123456789abcdef" : Str).cps.toList.length := by
        have h1 := Int.emod_nonneg n (show (16 : Int) ≠ 0 by decide)
        have h2 := Int.emod_lt_of_pos n (show (0 : Int) < 16 by decide)
        have h3 : ("0123456789abcdef" : Str).cps.toList.length = 16 := by decide +kernel
        omega
      have hc : (("0123456789abcdef" : Str).cps.toList[(n % 16).toNat]'hk) < 128 := asc_of (z := "0123456789abcdef") (by decide +kernel) _ (List.getElem_mem hk)
      have hi5 : (i : Int) < 6 := hi
      have hz5 : (100 : Nat) ≤ sizeLine := Nat.le_of_ble_eq_true rfl
      refine es_asg (v := .str (⟨#[("0123456789abcdef" : Str).cps.toList[(n % 16).toNat]'hk]⟩ ++ z)) ?_ ?_
      · refine ev_op (ev_op ev_c (ev_op (z := .int (n % 16)) (ev_cb (ea_cons (ev_var rfl) ea_nil) rc_int1) ev_c (rv_I (by decide))) (rv_ixS (by decide +kernel) ?_)) (ev_var rfl) (rv_catS ?_)
        · have h1 := Int.emod_nonneg n (show (16 : Int) ≠ 0 by decide)
          have := atI_nat (xs := ("0123456789abcdef" : Str).cps.toList) (i := (n % 16).toNat) (List.getElem?_eq_getElem hk)
          rw [Int.toNat_of_nonneg h1] at this
          exact this
        · show 1 + z.length ≤ sizeLine
          omega
      refine es_asg1 (v := .int (n / 16)) (ev_op (ev_var rfl) ev_c (rv_I ⟨by decide, by decide⟩)) fun H3 e3 => ⟨_, _, _, rfl, asc_app (asc_one hc) hz, ?_⟩
      rw [strLen_append]
      show 1 + z.length ≤ i + 1
      omega
    · rintro σ' H2 e2 ⟨n, z, v3, rfl, hz, hzl⟩
      have tk := tk.keep e2
      have hz5 : (100 : Nat) ≤ sizeLine := Nat.le_of_ble_eq_true rfl
      apply es_retP
      · refine ep_pick (K := K) (m := 5) (vs := [.str ("#" ++ z), .str "#ffffff", .str "#000000", .str "#3a6ea8", .non]) (fun v => ∃ o, v = oS o ∧ ∀ z, o = some z → Asc z) tk (ea_cons (ev_op ev_c (ev_var rfl) (rv_catS ?_)) (by walk_at "ev")) ⟨rfl, Nat.le_of_ble_eq_true rfl⟩ (fun H1 e1 => ep_draw (K := K) (tk.keep e1) (ev_var rfl) ev_c ⟨by decide, by decide⟩) ?_
        · show 1 + z.length ≤ sizeLine
          omega
        · intro x hx
          simp only [List.mem_cons, List.not_mem_nil, or_false] at hx
          rcases hx with rfl | rfl | rfl | rfl | rfl
          · exact ⟨some _, rfl, fun y hy => by
              injection hy with hy
              subst hy
              exact asc_app (asc_of (by decide +kernel)) hz⟩
          · exact ⟨some "#ffffff", rfl, fun y hy => by injection hy with hy; subst hy; exact asc_of (by decide +kernel)⟩
          · exact ⟨some "#000000", rfl, fun y hy => by injection hy with hy; subst hy; exact asc_of (by decide +kernel)⟩
          · exact ⟨some "#3a6ea8", rfl, fun y hy => by injection hy with hy; subst hy; exact asc_of (by decide +kernel)⟩
          · exact ⟨none, rfl, fun y hy => by cases hy⟩
      · exact fun v H3 e h => h
theorem ep_color {t l : Addr} {ns : List Int} {σ : L2.St} {H : Hp} {ta : TE} {E : XK} (tk : TapeAt t l ns H) (h : Ev (Tp t l ns) ta σ H (.ref t)) : EvP (Tp t l ns) (tCall (sp_l_color K) [] E (tCons ta tNil)) σ H Colr :=
  ep_call (ea_cons h ea_nil) fun H1 e Q q E => ⟨t, l, ns, rfl, tk.keep e, fun v H2 e2 hd => q _ H2 e2 hd⟩
end
end Cs

namespace Cs
open PySem PySem.Spec PyProof.Rows L2
local macro_rules | `(tactic| walk_at "hp") => `(tactic| first | assumption)
local macro_rules | `(tactic| walk_at "num") => `(tactic| first | assumption | omega | decide)
local macro_rules | `(tactic| walk_at "rv") => `(tactic| first
  | (with_reducible exact rv_I0)
  | ((with_reducible apply rv_ixT); (walk_at "hp"); (rfl))
  | ((with_reducible apply rv_eq); (rfl))
  | ((with_reducible apply rv_ne); (rfl))
  | (with_reducible exact rv_isN)
  | (with_reducible exact rv_notN)
  | (with_reducible exact rv_inS)
  | ((with_reducible apply rv_I); (first | exact Or.inr ⟨by walk_at "num", by walk_at "num"⟩ | exact Or.inl ⟨by walk_at "num", by walk_at "num"⟩ | exact ⟨by walk_at "num", by walk_at "num"⟩ | exact ⟨by walk_at "num", by walk_at "num", by walk_at "num"⟩ | walk_at "num"))
  | ((with_reducible apply rv_ixS) <;> walk_at "num"))
local macro_rules | `(tactic| walk_at "rc") => `(tactic| first
  | (with_reducible exact rc_abs) | (with_reducible exact rc_max2) | (with_reducible exact rc_min2) | (with_reducible exact rc_int1)
  | ((with_reducible apply rc_lenT); walk_at "hp") | ((with_reducible apply rc_lenZ); walk_at "num"))
local macro_rules | `(tactic| walk_at "ev") => `(tactic| first
  | (with_reducible exact ev_c)
  | ((with_reducible apply ev_var); rfl)
  | ((with_reducible apply ev_op); (walk_at "ev"); (walk_at "ev"); (walk_at "rv"))
  | ((with_reducible apply ev_un); (walk_at "ev"); (exact ru_neg))
  | ((with_reducible apply ev_cb); (walk_at "ev"); (walk_at "rc"))
  | ((with_reducible apply ev_andV); (walk_at "ev"); (intro _; walk_at "ev"))
  | ((with_reducible apply ev_chain); (walk_at "ev"); (walk_at "ev"); (walk_at "rv"); (intro _; walk_at "ev"); (intro _; walk_at "rv"))
  | (with_reducible exact ea_nil)
  | ((with_reducible apply ea_cons); (walk_at "ev"); (walk_at "ev"))
  | ((with_reducible apply et_test); (walk_at "ev"))
  | ((with_reducible apply et_B); (walk_at "ev"))
  | ((with_reducible apply et_and); (walk_at "ev"); (intro _; walk_at "ev"))
  | ((with_reducible apply et_or); (walk_at "ev"); (intro _; walk_at "ev"))
  | ((with_reducible apply et_not); (walk_at "ev"))
  | (with_reducible exact eo_none)
  | ((with_reducible apply eo_some); (walk_at "ev")))
local macro_rules | `(tactic| walk_at "sz") => `(tactic| exact Nat.le_of_ble_eq_true rfl)
local macro_rules | `(tactic| walk_at "as") => `(tactic| ((with_reducible apply es_asg); (walk_at "ev")))
local macro_rules | `(tactic| walk_at "tp") => `(tactic| ((with_reducible apply ep_tup); (walk_at "ev"); (walk_at "sz")))
local macro_rules | `(tactic| walk_at "no") => `(tactic| ((with_reducible apply es_whenF); ((with_reducible apply et_is); (walk_at "ev"); (decide +kernel))))
local macro_rules | `(tactic| walk_at "yes") => `(tactic| ((with_reducible apply es_whenT); ((with_reducible apply et_is); (walk_at "ev"); (decide +kernel))))
section
variable {P : Program} {w : World} {K : PySem.W.Frag} {mg : Str → Option Value} {base : Heap}
section
variable {t l : Addr} {ns : List Int} {σ : L2.St} {H : Hp}
/-- draw - c -/
theorem ep_dsub {td : TE} {m c : Int} (hd : EvP (Tp t l ns) td σ H (Dr m)) : EvP (Tp t l ns) (tOp (rI0 fun i j => .int (i - j)) td (tC (.int c))) σ H (fun v _ => ∃ d : Int, v = .int d ∧ -c ≤ d ∧ d < m - c) :=
  ep_opL hd fun x H1 e ⟨d, hx, h0, h1⟩ => by
    subst hx
    exact EvP.imp (Ev.p (ev_op ev_c ev_c rv_I0)) fun v H2 e2 hv => ⟨_, hv, by omega, by omega⟩
/-- draw == c -/
theorem ep_deq {td : TE} {m c : Int} (hd : EvP (Tp t l ns) td σ H (Dr m)) : EvP (Tp t l ns) (tOp rEq td (tC (.int c))) σ H (fun v _ => ∃ b, v = .bl b) :=
  ep_opL hd fun x H1 e ⟨d, hx, h0, h1⟩ => by
    subst hx
    exact EvP.imp (Ev.p (ev_op ev_c ev_c (rv_eq rfl))) fun v H2 e2 hv => ⟨_, hv⟩
end
def Clip : V → Hp → Prop := fun v H => ∃ o, ORect H v o
def sp_l_clip (K : PySem.W.Frag) : Sp := fun vs H Q _ => ∃ t l ns m, vs = [.ref t, .int m] ∧ TapeAt t l ns H ∧ (1 ≤ m ∧ m < 1000) ∧ ∀ v H2, Tp t l ns H H2 → Clip v H2 → Q v H2
theorem ok_l_clip (T : Txt K mg) : FnOk P w K mg base CX0 2 (He.ga K "_law_clip") (fdOf K (He.ga K "_law_clip")) p_l_clip (sp_l_clip K) := by
  refine T.l_clip.fn.ok sc_l_clip (fun vs H Q E h => ?_) (fun cdv A outer s H vs Q E hr h => ?_)
  · obtain ⟨t, l, ns, m, rfl, tk, hm, q⟩ := h
    rfl
  · obtain ⟨t, l, ns, m, rfl, tk, hm, q⟩ := h
    refine ⟨_, (pss_cons (ps_if (pt_cmpR op_eq (pe_call (ok_l_draw T) (hr.mono (by decide)) (by rfl) T.l_draw.mg T.l_draw.fn.kp (bd_l_draw T) .nil pass0 (pa_cons (pv 0) (pa_cons pe_int pa_nil))) pe_int (nomark _)) (pss_one (ps_ret pe_non)) pss_nil) (pss_one (ps_ret (pe_tup (pa_cons (pe_op op_sub (pe_call (ok_l_draw T) (hr.mono (by decide)) (by rfl) T.l_draw.mg T.l_draw.fn.kp (bd_l_draw T) .nil pass0 (pa_cons (pv 0) (pa_cons (pv 1) pa_nil))) pe_int) (pa_cons (pe_op op_sub (pe_call (ok_l_draw T) (hr.mono (by decide)) (by rfl) T.l_draw.mg T.l_draw.fn.kp (bd_l_draw T) .nil pass0 (pa_cons (pv 0) (pa_cons (pv 1) pa_nil))) pe_int) (pa_cons (pe_call (ok_l_draw T) (hr.mono (by decide)) (by rfl) T.l_draw.mg T.l_draw.fn.kp (bd_l_draw T) .nil pass0 (pa_cons (pv 0) (pa_cons (pv 1) pa_nil))) (pa_cons (pe_call (ok_l_draw T) (hr.mono (by decide)) (by rfl) T.l_draw.mg T.l_draw.fn.kp (bd_l_draw T) .nil pass0 (pa_cons (pv 0) (pa_cons (pv 1) pa_nil))) pa_nil)))))))), ?_⟩
    refine EvS.run (R := Tp t l ns) (φ := Clip) ?_ fun v H2 e2 p => q v H2 e2 p
    refine es_ifA (ep_deq (ep_draw (K := K) (m := 2) tk (ev_var rfl) ev_c ⟨by decide, by decide⟩)) (fun H1 e1 => ?_) fun H1 e1 => es_skip ?_
    · apply es_ret_seq
      apply es_ret
      · walk_at "ev"
      · exact fun _ _ => ⟨none, rfl⟩
    have tk := tk.keep e1
    have hm2 : 1 ≤ m ∧ m < 1073741824 := ⟨hm.1, by omega⟩
    apply es_retP
    · refine ep_tupP (PA := fun vs _ => ∃ a b c d : Int, vs = [.int a, .int b, .int c, .int d]) (P := Clip) (eap_cons (ep_dsub (ep_draw (K := K) tk (ev_var rfl) (ev_var rfl) hm2)) ?_) ?_ ?_
      · rintro v H2 e2 ⟨a, rfl, _⟩
        refine eap_cons (ep_dsub (ep_draw (K := K) (tk.keep e2) (ev_var rfl) (ev_var rfl) hm2)) ?_
        rintro v H3 e3 ⟨b, rfl, _⟩
        refine eap_cons (ep_draw (K := K) (tk.keep (Rel.trans e2 e3)) (ev_var rfl) (ev_var rfl) hm2) ?_
        rintro v H4 e4 ⟨c, rfl, _⟩
        refine eap_cons (ep_draw (K := K) (tk.keep (Rel.trans e2 (Rel.trans e3 e4))) (ev_var rfl) (ev_var rfl) hm2) ?_
        rintro v H5 e5 ⟨d, rfl, _⟩
        exact eap_nil fun _ _ => ⟨a, b, c, d, rfl⟩
      · rintro vs H2 ⟨a, b, c, d, rfl⟩
        exact Nat.le_of_ble_eq_true rfl
      · rintro vs H2 p e2 ⟨a, b, c, d, rfl⟩ hp
        exact ⟨some ⟨a, b, c, d⟩, p, rfl, upd_same⟩
    · exact fun v H2 e h => h
theorem ep_clip {t l : Addr} {ns : List Int} {σ : L2.St} {H : Hp} {ta tb : TE} {m : Int} {E : XK} (tk : TapeAt t l ns H) (h : Ev (Tp t l ns) ta σ H (.ref t)) (hb : Ev (Tp t l ns) tb σ H (.int m)) (hm : 1 ≤ m ∧ m < 1000) : EvP (Tp t l ns) (tCall (sp_l_clip K) [] E (tCons ta (tCons tb tNil))) σ H Clip :=
  ep_call (ea_cons h (ea_cons hb ea_nil)) fun H1 e Q q E => ⟨t, l, ns, m, rfl, tk.keep e, hm, fun v H2 e2 hd => q _ H2 e2 hd⟩
/-! ### identities -/
def Idn (B : Nat) : V → Hp → Prop := fun v H => ∃ b d, v = .ref b ∧ IdAt H b d ∧ d.ok ∧ d.key.length ≤ B
def sp_l_identity (K : PySem.W.Frag) : Sp := fun vs H Q _ => ∃ t l ns, vs = [.ref t] ∧ TapeAt t l ns H ∧ ∀ v H2, Tp t l ns H H2 → Idn 10 v H2 → Q v H2
theorem ok_l_identity (T : Txt K mg) : FnOk P w K mg base CX0 3 (He.ga K "_law_identity") (fdOf K (He.ga K "_law_identity")) p_l_identity (sp_l_identity K) := by
  refine T.l_identity.fn.ok sc_l_identity (fun vs H Q E h => ?_) (fun cdv A outer s H vs Q E hr h => ?_)
  · obtain ⟨t, l, ns, rfl, tk, q⟩ := h
    rfl
  · obtain ⟨t, l, ns, rfl, tk, q⟩ := h
    refine ⟨_, (pss_cons (ps_set (i := 1) sc_l_identity.nd rfl (Or.inl rfl) (pe_ix (r := rIxL K) ix_list (pe_lst (pa_cons pe_non (pa_cons pe_int (pa_cons pe_int (pa_cons pe_int (pa_cons pe_int (pa_cons pe_int (pa_cons pe_int pa_nil)))))))) (pe_call (ok_l_draw T) (hr.mono (by decide)) (by rfl) T.l_draw.mg T.l_draw.fn.kp (bd_l_draw T) .nil pass0 (pa_cons (pv 0) (pa_cons pe_int pa_nil))) (fun _ _ => rfl))) (pss_cons (ps_set (i := 2) sc_l_identity.nd rfl (Or.inl rfl) (pe_ix (r := rIxL K) ix_list (pe_lst (pa_cons pe_str (pa_cons pe_str (pa_cons pe_str (pa_cons pe_str (pa_cons pe_str (pa_cons pe_str (pa_cons pe_str pa_nil)))))))) (pe_call (ok_l_draw T) (hr.mono (by decide)) (by rfl) T.l_draw.mg T.l_draw.fn.kp (bd_l_draw T) .nil pass0 (pa_cons (pv 0) (pa_cons pe_int pa_nil))) (fun _ _ => rfl))) (pss_cons (ps_set (i := 3) sc_l_identity.nd rfl (Or.inl rfl) (pe_ix (r := rIxL K) ix_list (pe_lst (pa_cons pe_str (pa_cons pe_str (pa_cons pe_str (pa_cons pe_str (pa_cons pe_str (pa_cons pe_str pa_nil))))))) (pe_call (ok_l_draw T) (hr.mono (by decide)) (by rfl) T.l_draw.mg T.l_draw.fn.kp (bd_l_draw T) .nil pass0 (pa_cons (pv 0) (pa_cons pe_int pa_nil))) (fun _ _ => rfl))) (pss_cons (ps_if (pt_cmpR op_eq (pe_call (ok_l_draw T) (hr.mono (by decide)) (by rfl) T.l_draw.mg T.l_draw.fn.kp (bd_l_draw T) .nil pass0 (pa_cons (pv 0) (pa_cons pe_int pa_nil))) pe_int (nomark _)) (pss_one (ps_set (i := 3) sc_l_identity.nd rfl (Or.inl rfl) (pe_op op_catS (pv 3) (pe_call (ok_l_word T) (hr.mono (by decide)) (by rfl) T.l_word.mg T.l_word.fn.kp (bd_l_word T) .nil pass0 (pa_cons (pv 0) pa_nil))))) pss_nil) (pss_one (ps_ret (pe_tup (pa_cons (pv 1) (pa_cons (pv 2) (pa_cons (pv 3) pa_nil)))))))))), ?_⟩
    refine EvS.run (R := Tp t l ns) (φ := Idn 10) ?_ fun v H2 e2 p => q v H2 e2 p
    refine es_asgP (ep_pick (K := K) (m := 7) (vs := [.non, .int 0, .int 0, .int 1, .int 1, .int 2, .int 99]) (fun v => ∃ o, v = oI o ∧ ∀ i, o = some i → 0 ≤ i ∧ i < 100) tk (by walk_at "ev") ⟨rfl, by decide⟩ (fun H1 e1 => ep_draw (K := K) (tk.keep e1) (ev_var rfl) ev_c ⟨by decide, by decide⟩) ?_) ?_
    · intro x hx
      simp only [List.mem_cons, List.not_mem_nil, or_false] at hx
      rcases hx with rfl | rfl | rfl | rfl | rfl | rfl | rfl
      · exact ⟨none, rfl, fun i h => by cases h⟩
      all_goals exact ⟨some _, rfl, fun i h => by injection h with h; subst h; decide⟩
    rintro v H1 e1 ⟨o, rfl, ho⟩
    have tk := tk.keep e1
    refine es_asgP (ep_pick (K := K) (m := 7) (vs := [.str "mark 0", .str "mark 0", .str "mark 1", .str "label 0", .str "x tick label", .str "mark 0 ", .str ""]) (fun v => ∃ z, v = .str z ∧ Asc z ∧ z.length ≤ 100) tk (by walk_at "ev") ⟨rfl, by decide⟩ (fun H1 e1 => ep_draw (K := K) (tk.keep e1) (ev_var rfl) ev_c ⟨by decide, by decide⟩) ?_) ?_
    · intro x hx
      simp only [List.mem_cons, List.not_mem_nil, or_false] at hx
      rcases hx with rfl | rfl | rfl | rfl | rfl | rfl | rfl
      all_goals exact ⟨_, rfl, asc_of (by decide +kernel), by decide +kernel⟩
    rintro v H2 e2 ⟨ro, rfl, hr1, hr2⟩
    have tk := tk.keep e2
    refine es_asgP (ep_pick (K := K) (m := 6) (vs := [.str "", .str "1", .str "1", .str "2", .str "10", .str "\"a\",-"]) (fun v => ∃ z, v = .str z ∧ Asc z ∧ z.length ≤ 5) tk (by walk_at "ev") ⟨rfl, by decide⟩ (fun H1 e1 => ep_draw (K := K) (tk.keep e1) (ev_var rfl) ev_c ⟨by decide, by decide⟩) ?_) ?_
    · intro x hx
      simp only [List.mem_cons, List.not_mem_nil, or_false] at hx
      rcases hx with rfl | rfl | rfl | rfl | rfl | rfl
      all_goals exact ⟨_, rfl, asc_of (by decide +kernel), by decide +kernel⟩
    rintro v H3 e3 ⟨z, rfl, hz1, hz2⟩
    have tk := tk.keep e3
    have hz5 : (100 : Nat) ≤ sizeLine := Nat.le_of_ble_eq_true rfl
    refine es_viaI (ι := { z : Str // Asc z ∧ z.length ≤ 10 }) (fun i => [some (.ref t), some (oI o), some (.str ro), some (.str i.1)]) ?_ fun main => ?_
    · rintro ⟨y, hy1, hy2⟩ H4 e4
      apply es_retP
      · exact ep_tup (vs := [oI o, .str ro, .str y]) (by walk_at "ev") (by walk_at "sz")
      · rintro v H5 e5 ⟨p, rfl, hp⟩
        exact ⟨p, ⟨o, ro, y⟩, rfl, hp, ⟨hr2, hr1, Nat.le_trans hy2 (by decide), hy1, ho⟩, hy2⟩
    · refine es_ifA (ep_deq (ep_draw (K := K) (m := 5) tk (ev_var rfl) ev_c ⟨by decide, by decide⟩)) (fun H4 e4 => ?_) fun H4 e4 => es_skip (main ⟨z, hz1, by omega⟩ H4 e4)
      refine es_asgP (ep_opR (P := Word 5) (P' := Word 10) (ev_var rfl) (ep_word (K := K) (tk.keep e4) (ev_var rfl)) ?_) ?_
      · rintro y H5 e5 ⟨x, rfl, hx1, hx2⟩
        exact EvP.imp (Ev.p (ev_op ev_c ev_c (rv_catS (by omega)))) fun v H6 e6 hv => ⟨_, hv, asc_app hz1 hx1, by rw [strLen_append]; omega⟩
      · rintro v H5 e5 ⟨x, rfl, hx1, hx2⟩
        exact main ⟨x, hx1, hx2⟩ H5 (Rel.trans e4 e5)
theorem ep_idn {t l : Addr} {ns : List Int} {σ : L2.St} {H : Hp} {ta : TE} {E : XK} (tk : TapeAt t l ns H) (h : Ev (Tp t l ns) ta σ H (.ref t)) : EvP (Tp t l ns) (tCall (sp_l_identity K) [] E (tCons ta tNil)) σ H (Idn 10) :=
  ep_call (ea_cons h ea_nil) fun H1 e Q q E => ⟨t, l, ns, rfl, tk.keep e, fun v H2 e2 hd => q _ H2 e2 hd⟩
theorem num_small : ∀ n, n < 100 → allAsc (toString (Int.ofNat n)) = true ∧ 1 ≤ (toString (Int.ofNat n) : Str).length ∧ (toString (Int.ofNat n) : Str).length ≤ 2 := by decide +kernel
/-- a new identity -/
def NewId (ds : List Id3) (B : Nat) : V → Hp → Prop := fun v H => ∃ b d, v = .ref b ∧ IdAt H b d ∧ d.ok ∧ d.key.length ≤ B + 2 ∧ d ∉ ds
def sp_l_new_identity (K : PySem.W.Frag) : Sp := fun vs H Q _ => ∃ t l ns a ds B, vs = [.ref t, .ref a] ∧ TapeAt t l ns H ∧ a ≠ t ∧ IdL H a ds ∧ (∀ d ∈ ds, d.ok ∧ d.key.length ≤ B) ∧ (10 ≤ B ∧ B ≤ 90) ∧ ds.length < 100 ∧ ∀ v H2, Tp t l ns H H2 → NewId ds B v H2 → Q v H2
theorem idL_dp {H : Hp} {a : Addr} {ds : List Id3} (h : IdL H a ds) : Dp K H (.ref a) (.list (ds.map Id3.dat)) := let ⟨bs, h1, h2⟩ := h; .lst (SqL.of h1) (ids_dpAll h2)
theorem ok_l_new_identity (T : Txt K mg) : FnOk P w K mg base CX0 4 (He.ga K "_law_new_identity") (fdOf K (He.ga K "_law_new_identity")) p_l_new_identity (sp_l_new_identity K) := by
  refine T.l_new_identity.fn.ok sc_l_new_identity (fun vs H Q E h => ?_) (fun cdv A outer s H vs Q E hr h => ?_)
  · obtain ⟨t, l, ns, a, ds, B, rfl, tk, hat, hl, hds, hB, hn, q⟩ := h
    rfl
  · obtain ⟨t, l, ns, a, ds, B, rfl, tk, hat, hl, hds, hB, hn, q⟩ := h
    refine ⟨_, (pss_cons (ps_set (i := 2) sc_l_new_identity.nd rfl (Or.inl rfl) (pe_call (ok_l_identity T) (hr.mono (by decide)) (by rfl) T.l_identity.mg T.l_identity.fn.kp (bd_l_identity T) .nil pass0 (pa_cons (pv 0) pa_nil))) (pss_cons (ps_while PassesOwn.never (pt_cmpR (r := rInD K) (op_inD (hu65 hr)) (pv 2) (pv 1) (by rfl)) (pss_one (ps_set (i := 2) sc_l_new_identity.nd rfl (Or.inl rfl) (pe_tup (pa_cons (pe_ix (r := rIxT K) ix_tup (pv 2) pe_int (fun _ _ => rfl)) (pa_cons (pe_ix (r := rIxT K) ix_tup (pv 2) pe_int (fun _ _ => rfl)) (pa_cons (pe_op op_catS (pe_ix (r := rIxT K) ix_tup (pv 2) pe_int (fun _ _ => rfl)) (pe_callTy cb_strI (by rfl) T.b_str PyProof.Rows.boot_str (pa_cons (pe_callB (r := rLenQ K) cb_lenQ (by rfl) T.b_len PySem.boot_len (pa_cons (pv 1) pa_nil)) pa_nil))) pa_nil))))))) (pss_one (ps_ret (pv 2))))), ?_⟩
    refine EvS.run (R := Tp t l ns) (φ := NewId ds B) ?_ fun v H2 e2 p => q v H2 e2 p
    refine es_asgP (ep_idn (K := K) tk (ev_var rfl)) ?_
    rintro v H1 e1 ⟨b, d, rfl, hb, hd, hdl⟩
    have hl1 : ∀ {H2}, Tp t l ns H H2 → IdL H2 a ds := fun e => let ⟨bs, h1, h2⟩ := hl; ⟨bs, lst_tp e hat h1, h2.keep e⟩
    apply es_seq
    · refine es_while (fun m σ H2 => ∃ b d, σ = [some (.ref t), some (.ref a), some (.ref b)] ∧ IdAt H2 b d ∧ d.ok ∧ d.key.length ≤ B + 2 ∧ m = B + 3 - d.key.length) (fun H2 e2 => ⟨_, b, d, rfl, Rel.tup e2 hb, hd, by omega, rfl⟩) ?_ (ψ := fun σ H2 => ∃ b d, σ = [some (.ref t), some (.ref a), some (.ref b)] ∧ IdAt H2 b d ∧ d.ok ∧ d.key.length ≤ B + 2 ∧ d ∉ ds)
      rintro m σ' H2 e2 ⟨b, d, rfl, hb, hd, hdl, rfl⟩
      have l2 := hl1 (Rel.trans e1 e2)
      refine ⟨decide (d ∈ ds), ?_, fun hm H3 e3 => ?_, fun hm H3 e3 => ⟨b, d, rfl, Rel.tup e3 hb, hd, hdl, of_decide_eq_false hm⟩⟩
      · rw [← any_ids d ds]
        refine et_test (ev_op (ev_var rfl) (ev_var rfl) fun H3 e3 Q q => ⟨d.dat, ds.map Id3.dat, id_dp (Rel.tup e3 hb), idL_dp (hl1 (Rel.trans e1 (Rel.trans e2 e3))), shaped_id hd, shaped_idsL (fun x hx => (hds x hx).1), q H3 (Rel.refl H3)⟩)
      · have hm := of_decide_eq_true hm
        have hkl := (hds d hm).2
        obtain ⟨n1, n2, n3⟩ := num_small ds.length hn
        have hb3 := Rel.tup e3 hb
        have hz5 : (100 : Nat) ≤ sizeLine := Nat.le_of_ble_eq_true rfl
        have hlen : ∀ {H4}, Tp t l ns H3 H4 → ∃ bs : List Addr, H4 a = some (.lst (bs.map V.ref)) ∧ bs.length = ds.length := fun e4 => by
          obtain ⟨bs, g1, g2⟩ := hl1 (Rel.trans e1 (Rel.trans e2 (Rel.trans e3 e4)))
          exact ⟨bs, g1, pair_len g2⟩
        obtain ⟨bs, g1, g2⟩ := hlen (Rel.refl H3)
        refine es_asgP1 (ep_tup (vs := Id3.vs ⟨d.plot, d.role, d.key ++ (toString (Int.ofNat ds.length) : Str)⟩) ?_ (by walk_at "sz")) ?_
        · refine ea_cons (ev_op (ev_var rfl) ev_c (rv_ixT hb3 rfl)) (ea_cons (ev_op (ev_var rfl) ev_c (rv_ixT hb3 rfl)) (ea_cons (ev_op (ev_op (ev_var rfl) ev_c (rv_ixT (v := .str d.key) hb3 rfl)) (ev_cb (ea_cons (ev_cb (ea_cons (ev_var rfl) ea_nil) (rc_lenL (K := K) (xs := bs.map V.ref) fun H4 e4 => SqL.of (lst_tp e4 hat g1))) ea_nil) ?_) (rv_catS ?_)) ea_nil))
          · rw [List.length_map, g2]
            exact rc_strI (by
              have : (ds.length : Int).natAbs < 2 ^ 10 := by omega
              refine Nat.lt_of_le_of_lt (?_ : _ ≤ 10) (by decide)
              by_cases h0 : (ds.length : Int).natAbs = 0
              · rw [h0]
                decide
              · exact Nat.le_of_lt ((Nat.log2_lt h0).mpr this))
          · omega
        · rintro v H4 e4 ⟨p, rfl, hp⟩
          refine ⟨B + 3 - (d.key ++ (toString (Int.ofNat ds.length) : Str)).length, ?_, p, ⟨d.plot, d.role, d.key ++ (toString (Int.ofNat ds.length) : Str)⟩, rfl, hp, ⟨hd.rl, hd.ra, ?_, asc_app hd.ka (asc_of n1), hd.pl⟩, ?_, rfl⟩
          · rw [strLen_append]
            omega
          · show (d.key ++ (toString (Int.ofNat ds.length) : Str)).length ≤ 100
            rw [strLen_append]
            omega
          · show (d.key ++ (toString (Int.ofNat ds.length) : Str)).length ≤ B + 2
            rw [strLen_append]
            omega
    · rintro σ' H2 e2 ⟨b, d, rfl, h1, h2, h3, h4⟩
      apply es_ret
      · walk_at "ev"
      · exact fun H3 e3 => ⟨b, d, rfl, Rel.tup e3 h1, h2, h3, h4⟩
end
end Cs

namespace Cs
open PySem PySem.Spec PyProof.Rows L2
local macro_rules | `(tactic| walk_at "hp") => `(tactic| first | assumption)
local macro_rules | `(tactic| walk_at "num") => `(tactic| first | assumption | omega | decide)
local macro_rules | `(tactic| walk_at "rv") => `(tactic| first
  | (with_reducible exact rv_I0)
  | ((with_reducible apply rv_ixT); (walk_at "hp"); (rfl))
  | ((with_reducible apply rv_eq); (rfl))
  | ((with_reducible apply rv_ne); (rfl))
  | (with_reducible exact rv_isN)
  | (with_reducible exact rv_notN)
  | (with_reducible exact rv_inS)
  | ((with_reducible apply rv_I); (first | exact Or.inr ⟨by walk_at "num", by walk_at "num"⟩ | exact Or.inl ⟨by walk_at "num", by walk_at "num"⟩ | exact ⟨by walk_at "num", by walk_at "num"⟩ | exact ⟨by walk_at "num", by walk_at "num", by walk_at "num"⟩ | walk_at "num"))
  | ((with_reducible apply rv_ixS) <;> walk_at "num"))
local macro_rules | `(tactic| walk_at "rc") => `(tactic| first
  | (with_reducible exact rc_abs) | (with_reducible exact rc_max2) | (with_reducible exact rc_min2) | (with_reducible exact rc_int1)
  | ((with_reducible apply rc_lenT); walk_at "hp") | ((with_reducible apply rc_lenZ); walk_at "num"))
local macro_rules | `(tactic| walk_at "ev") => `(tactic| first
  | (with_reducible exact ev_c)
  | ((with_reducible apply ev_var); rfl)
  | ((with_reducible apply ev_op); (walk_at "ev"); (walk_at "ev"); (walk_at "rv"))
  | ((with_reducible apply ev_un); (walk_at "ev"); (exact ru_neg))
  | ((with_reducible apply ev_cb); (walk_at "ev"); (walk_at "rc"))
  | ((with_reducible apply ev_andV); (walk_at "ev"); (intro _; walk_at "ev"))
  | ((with_reducible apply ev_chain); (walk_at "ev"); (walk_at "ev"); (walk_at "rv"); (intro _; walk_at "ev"); (intro _; walk_at "rv"))
  | (with_reducible exact ea_nil)
  | ((with_reducible apply ea_cons); (walk_at "ev"); (walk_at "ev"))
  | ((with_reducible apply et_test); (walk_at "ev"))
  | ((with_reducible apply et_B); (walk_at "ev"))
  | ((with_reducible apply et_and); (walk_at "ev"); (intro _; walk_at "ev"))
  | ((with_reducible apply et_or); (walk_at "ev"); (intro _; walk_at "ev"))
  | ((with_reducible apply et_not); (walk_at "ev"))
  | (with_reducible exact eo_none)
  | ((with_reducible apply eo_some); (walk_at "ev")))
local macro_rules | `(tactic| walk_at "sz") => `(tactic| exact Nat.le_of_ble_eq_true rfl)
local macro_rules | `(tactic| walk_at "as") => `(tactic| ((with_reducible apply es_asg); (walk_at "ev")))
local macro_rules | `(tactic| walk_at "tp") => `(tactic| ((with_reducible apply ep_tup); (walk_at "ev"); (walk_at "sz")))
local macro_rules | `(tactic| walk_at "no") => `(tactic| ((with_reducible apply es_whenF); ((with_reducible apply et_is); (walk_at "ev"); (decide +kernel))))
local macro_rules | `(tactic| walk_at "yes") => `(tactic| ((with_reducible apply es_whenT); ((with_reducible apply et_is); (walk_at "ev"); (decide +kernel))))
section
variable {P : Program} {w : World} {K : PySem.W.Frag} {mg : Str → Option Value} {base : Heap}
def PtsSm (sh : Sh) (pts : List Int) : Prop := PtsOk sh pts ∧ ∀ n ∈ pts, -50 ≤ n ∧ n ≤ 50
def Form : V → Hp → Prop := fun v H => ∃ b sh pa pts z, v = .ref b ∧ H b = some (.tup [.str (Sh.str sh), .ref pa, .str z]) ∧ IntsAt H pa pts ∧ PtsSm sh pts ∧ Asc z ∧ z.length ≤ 5
def PAI (C : List Int → Prop) : List V → Hp → Prop := fun vs _ => ∃ is : List Int, vs = is.map V.int ∧ C is
section
variable {R : Rl} [Rel R] {σ : L2.St} {H : Hp} {ta tb te : TE} {tr : TA}
theorem eap_consI {C : List Int → Prop} {D : Int → Prop} (h : EvP R ta σ H (fun v _ => ∃ i : Int, v = .int i ∧ D i)) (hr : ∀ i H1, R H H1 → D i → EvAP R tr σ H1 (PAI fun is => C (i :: is))) : EvAP R (tCons ta tr) σ H (PAI C) :=
  eap_cons h fun x H1 e ⟨i, hx, hd⟩ => by
    subst hx
    intro H2 e2 Q q
    exact hr i H1 e hd H2 e2 _ fun vs H3 e3 ⟨is, h1, h2⟩ => q vs H3 e3 ⟨i :: is, by rw [h1]; rfl, h2⟩
theorem eap_nilI {C : List Int → Prop} (h : C []) : EvAP R tNil σ H (PAI C) := eap_nil fun _ _ => ⟨[], rfl, h⟩
theorem ep_tupI {C : List Int → Prop} {ta : TA} (h : EvAP R ta σ H (PAI C)) (hl : ∀ is, C is → is.length ≤ 100) : EvP R (tTup ta) σ H (fun v H2 => ∃ pa pts, v = .ref pa ∧ IntsAt H2 pa pts ∧ C pts) :=
  ep_tupP h (fun vs H1 ⟨is, h1, h2⟩ => by rw [h1, List.length_map]; exact Nat.le_trans (hl is h2) (Nat.le_of_ble_eq_true rfl)) fun vs H1 p e ⟨is, h1, h2⟩ hp => ⟨p, is, rfl, by show upd H1 p (.tup vs) p = _; rw [upd_same, h1], h2⟩
theorem ep_form {S : Sh → Prop} (h1 : EvP R ta σ H (fun v _ => ∃ sh, v = .str (Sh.str sh) ∧ S sh)) (h2 : ∀ H1, R H H1 → EvP R tb σ H1 (fun v H2 => ∃ pa pts, v = .ref pa ∧ IntsAt H2 pa pts ∧ ∀ sh, S sh → PtsSm sh pts)) (h3 : ∀ H1, R H H1 → EvP R te σ H1 (Word 5)) : EvP R (tTup (tCons ta (tCons tb (tCons te tNil)))) σ H Form := by
  refine ep_tupP (PA := fun vs H2 => ∃ sh pa pts z, vs = [.str (Sh.str sh), .ref pa, .str z] ∧ IntsAt H2 pa pts ∧ PtsSm sh pts ∧ Asc z ∧ z.length ≤ 5) (eap_cons h1 ?_) ?_ ?_
  · rintro v H1 e1 ⟨sh, rfl, hs⟩
    refine eap_cons (h2 H1 e1) ?_
    rintro v H2 e2 ⟨pa, pts, rfl, hp, hpt⟩
    refine eap_cons (h3 H2 (Rel.trans e1 e2)) ?_
    rintro v H3 e3 ⟨z, rfl, hz1, hz2⟩
    exact eap_nil fun H4 e4 => ⟨sh, pa, pts, z, rfl, Rel.tup (Rel.trans e3 e4) hp, hpt sh hs, hz1, hz2⟩
  · rintro vs H1 ⟨sh, pa, pts, z, rfl, _⟩
    exact Nat.le_of_ble_eq_true rfl
  · rintro vs H1 p e ⟨sh, pa, pts, z, rfl, hp, hs, hz1, hz2⟩ hn
    exact ⟨p, sh, pa, pts, z, rfl, upd_same, Rel.tup (R := Same) (same_new hn) hp, hs, hz1, hz2⟩
theorem ep_shp {sh : Sh} {z : Str} (h : Ev R te σ H (.str z)) (e : z = sh.str) : EvP R te σ H (fun v _ => ∃ s, v = .str (Sh.str s) ∧ s = sh) := EvP.imp (Ev.p h) fun v H2 _ hv => ⟨sh, by rw [hv, e], rfl⟩
theorem ep_nul (h : Ev R te σ H (.str "")) : EvP R te σ H (Word 5) := EvP.imp (Ev.p h) fun v H2 _ hv => ⟨"", hv, asc_of (by decide +kernel), by decide +kernel⟩
end
def Sm (n : Int) : Prop := -50 ≤ n ∧ n ≤ 50
theorem sm_bd {n : Int} (h : Sm n) : Bd n := ⟨by have := h.1; omega, by have := h.2; omega⟩
theorem pts_of {sh : Sh} {pts : List Int} (h : ∀ n ∈ pts, Sm n) (hs : match sh with | .rect => pts.length = 4 | .line => pts.length = 4 | .poly => pts.length % 2 = 0 ∧ 2 ≤ pts.length ∧ pts.length ≤ 20 | .circ => pts.length = 3 ∧ 0 ≤ at0 pts 2 | _ => pts.length = 2) : PtsSm sh pts := ⟨⟨fun n hn => sm_bd (h n hn), hs⟩, h⟩
def sp_l_form (K : PySem.W.Frag) : Sp := fun vs H Q _ => ∃ t l ns, vs = [.ref t, .int 10] ∧ TapeAt t l ns H ∧ ∀ v H2, Tp t l ns H H2 → Form v H2 → Q v H2
theorem ok_l_form (T : Txt K mg) : FnOk P w K mg base CX0 3 (He.ga K "_law_form") (fdOf K (He.ga K "_law_form")) p_l_form (sp_l_form K) := by
  refine T.l_form.fn.ok sc_l_form (fun vs H Q E h => ?_) (fun cdv A outer s H vs Q E hr h => ?_)
  · obtain ⟨t, l, ns, rfl, tk, q⟩ := h
    rfl
  · obtain ⟨t, l, ns, rfl, tk, q⟩ := h
    refine ⟨_, (pss_cons (ps_set (i := 2) sc_l_form.nd rfl (Or.inl rfl) (pe_op op_sub (pe_call (ok_l_draw T) (hr.mono (by decide)) (by rfl) T.l_draw.mg T.l_draw.fn.kp (bd_l_draw T) .nil pass0 (pa_cons (pv 0) (pa_cons (pe_op op_add (pv 1) pe_int) pa_nil))) pe_int)) (pss_cons (ps_set (i := 3) sc_l_form.nd rfl (Or.inl rfl) (pe_op op_sub (pe_call (ok_l_draw T) (hr.mono (by decide)) (by rfl) T.l_draw.mg T.l_draw.fn.kp (bd_l_draw T) .nil pass0 (pa_cons (pv 0) (pa_cons (pe_op op_add (pv 1) pe_int) pa_nil))) pe_int)) (pss_cons (ps_set (i := 4) sc_l_form.nd rfl (Or.inl rfl) (pe_call (ok_l_draw T) (hr.mono (by decide)) (by rfl) T.l_draw.mg T.l_draw.fn.kp (bd_l_draw T) .nil pass0 (pa_cons (pv 0) (pa_cons pe_int pa_nil)))) (pss_cons (ps_if (pt_cmpR op_lt (pv 4) pe_int (nomark _)) (pss_one (ps_ret (pe_tup (pa_cons pe_str (pa_cons (pe_tup (pa_cons (pv 2) (pa_cons (pv 3) (pa_cons (pe_call (ok_l_draw T) (hr.mono (by decide)) (by rfl) T.l_draw.mg T.l_draw.fn.kp (bd_l_draw T) .nil pass0 (pa_cons (pv 0) (pa_cons (pv 1) pa_nil))) (pa_cons (pe_call (ok_l_draw T) (hr.mono (by decide)) (by rfl) T.l_draw.mg T.l_draw.fn.kp (bd_l_draw T) .nil pass0 (pa_cons (pv 0) (pa_cons (pv 1) pa_nil))) pa_nil))))) (pa_cons pe_str pa_nil)))))) pss_nil) (pss_cons (ps_if (pt_cmpR op_eq (pv 4) pe_int (nomark _)) (pss_one (ps_ret (pe_tup (pa_cons pe_str (pa_cons (pe_tup (pa_cons (pv 2) (pa_cons (pv 3) (pa_cons (pe_op op_sub (pe_call (ok_l_draw T) (hr.mono (by decide)) (by rfl) T.l_draw.mg T.l_draw.fn.kp (bd_l_draw T) .nil pass0 (pa_cons (pv 0) (pa_cons (pe_op op_add (pv 1) pe_int) pa_nil))) pe_int) (pa_cons (pe_op op_sub (pe_call (ok_l_draw T) (hr.mono (by decide)) (by rfl) T.l_draw.mg T.l_draw.fn.kp (bd_l_draw T) .nil pass0 (pa_cons (pv 0) (pa_cons (pe_op op_add (pv 1) pe_int) pa_nil))) pe_int) pa_nil))))) (pa_cons pe_str pa_nil)))))) pss_nil) (pss_cons (ps_if (pt_cmpR op_eq (pv 4) pe_int (nomark _)) (pss_cons (ps_set (i := 5) sc_l_form.nd rfl (Or.inl rfl) (pe_tup (pa_cons (pv 2) (pa_cons (pv 3) pa_nil)))) (pss_cons (ps_for PassesOwn.never rfl (pi_range1 (by rfl) T.b_range (pa_cons (pe_call (ok_l_draw T) (hr.mono (by decide)) (by rfl) T.l_draw.mg T.l_draw.fn.kp (bd_l_draw T) .nil pass0 (pa_cons (pv 0) (pa_cons pe_int pa_nil))) pa_nil)) (pg_name (i := 6) sc_l_form.nd rfl (Or.inl rfl)) (pss_one (ps_set (i := 5) sc_l_form.nd rfl (Or.inl rfl) (pe_op (r := rCatA K) op_catA (pv 5) (pe_tup (pa_cons (pe_op op_sub (pe_call (ok_l_draw T) (hr.mono (by decide)) (by rfl) T.l_draw.mg T.l_draw.fn.kp (bd_l_draw T) .nil pass0 (pa_cons (pv 0) (pa_cons (pe_op op_add (pv 1) pe_int) pa_nil))) pe_int) (pa_cons (pe_op op_sub (pe_call (ok_l_draw T) (hr.mono (by decide)) (by rfl) T.l_draw.mg T.l_draw.fn.kp (bd_l_draw T) .nil pass0 (pa_cons (pv 0) (pa_cons (pe_op op_add (pv 1) pe_int) pa_nil))) pe_int) pa_nil))))))) (pss_one (ps_ret (pe_tup (pa_cons pe_str (pa_cons (pv 5) (pa_cons pe_str pa_nil)))))))) pss_nil) (pss_cons (ps_if (pt_cmpR op_eq (pv 4) pe_int (nomark _)) (pss_one (ps_ret (pe_tup (pa_cons pe_str (pa_cons (pe_tup (pa_cons (pv 2) (pa_cons (pv 3) (pa_cons (pe_call (ok_l_draw T) (hr.mono (by decide)) (by rfl) T.l_draw.mg T.l_draw.fn.kp (bd_l_draw T) .nil pass0 (pa_cons (pv 0) (pa_cons (pe_op op_add (pe_op op_fdiv (pv 1) pe_int) pe_int) pa_nil))) pa_nil)))) (pa_cons pe_str pa_nil)))))) pss_nil) (pss_one (ps_ret (pe_tup (pa_cons (pe_ix (r := rIxL K) ix_list (pe_lst (pa_cons pe_str (pa_cons pe_str (pa_cons pe_str pa_nil)))) (pe_op op_sub (pv 4) pe_int) (fun _ _ => rfl)) (pa_cons (pe_tup (pa_cons (pv 2) (pa_cons (pv 3) pa_nil))) (pa_cons (pe_call (ok_l_word T) (hr.mono (by decide)) (by rfl) T.l_word.mg T.l_word.fn.kp (bd_l_word T) .nil pass0 (pa_cons (pv 0) pa_nil)) pa_nil))))))))))))), ?_⟩
    refine EvS.run (R := Tp t l ns) (φ := Form) ?_ fun v H2 e2 p => q v H2 e2 p
    have dx : ∀ {σ : L2.St} {H1 : Hp} {E : XK}, Tp t l ns H H1 → σ[0]? = some (some (.ref t)) → σ[1]? = some (some (.int 10)) → EvP (Tp t l ns) (tOp (rI0 fun i j => .int (i - j)) (tCall (sp_l_draw K) [] E (tCons (tVar 0) (tCons (tOp (rI0 fun i j => .int (i + j)) (tVar 1) (tC (.int 8))) tNil))) (tC (.int 4))) σ H1 (fun v _ => ∃ i : Int, v = .int i ∧ Sm i) := fun e h0 h1 =>
      EvP.imp (ep_dsub (ep_draw (K := K) (m := 18) (tk.keep e) (ev_var h0) (ev_op (ev_var h1) ev_c rv_I0) ⟨by decide, by decide⟩)) fun v H2 _ ⟨d, hv, a1, a2⟩ => ⟨d, hv, by omega, by omega⟩
    have dw : ∀ {σ : L2.St} {H1 : Hp} {E : XK}, Tp t l ns H H1 → σ[0]? = some (some (.ref t)) → σ[1]? = some (some (.int 10)) → EvP (Tp t l ns) (tCall (sp_l_draw K) [] E (tCons (tVar 0) (tCons (tVar 1) tNil))) σ H1 (fun v _ => ∃ i : Int, v = .int i ∧ Sm i) := fun e h0 h1 =>
      EvP.imp (ep_draw (K := K) (m := 10) (tk.keep e) (ev_var h0) (ev_var h1) ⟨by decide, by decide⟩) fun v H2 _ ⟨d, hv, a1, a2⟩ => ⟨d, hv, by omega, by omega⟩
    refine es_asgP (dx (Rel.refl H) rfl rfl) ?_
    rintro v H1 e1 ⟨x, rfl, hx⟩
    refine es_asgP (dx e1 rfl rfl) ?_
    rintro v H2 e2 ⟨y, rfl, hy⟩
    have e2 := Rel.trans e1 e2
    refine es_asgP (ep_draw (K := K) (m := 8) (tk.keep e2) (ev_var rfl) ev_c ⟨by decide, by decide⟩) ?_
    rintro v H3 e3 ⟨kd, rfl, hk0, hk1⟩
    have e3 := Rel.trans e2 e3
    have evx : ∀ {σ : L2.St} {H1 : Hp}, σ[2]? = some (some (.int x)) → EvP (Tp t l ns) (tVar 2) σ H1 (fun v _ => ∃ i : Int, v = .int i ∧ i = x) := fun h => EvP.imp (Ev.p (ev_var h)) fun v H2 _ hv => ⟨x, hv, rfl⟩
    have evy : ∀ {σ : L2.St} {H1 : Hp}, σ[3]? = some (some (.int y)) → EvP (Tp t l ns) (tVar 3) σ H1 (fun v _ => ∃ i : Int, v = .int i ∧ i = y) := fun h => EvP.imp (Ev.p (ev_var h)) fun v H2 _ hv => ⟨y, hv, rfl⟩
    refine es_when (b := decide (kd < 2)) (by walk_at "ev") (fun _ => ?_) fun h2 => ?_
    · apply es_retP
      · refine ep_form (S := fun s => s = .rect) (ep_shp (sh := .rect) ev_c rfl) (fun H4 e4 => EvP.imp (ep_tupI (C := fun is => is.length = 4 ∧ ∀ n ∈ is, Sm n) (eap_consI (evx rfl) fun _ H5 e5 h1 => eap_consI (evy rfl) fun _ H6 e6 h2 => eap_consI (dw (Rel.trans e3 (Rel.trans e4 (Rel.trans e5 e6))) rfl rfl) fun c H7 e7 h3 => eap_consI (dw (Rel.trans e3 (Rel.trans e4 (Rel.trans e5 (Rel.trans e6 e7)))) rfl rfl) fun d H8 e8 h4 => eap_nilI ⟨rfl, fun n hn => ?_⟩) (fun is h => by rw [h.1]; decide)) fun v H9 _ ⟨pa, pts, a1, a2, a3, a4⟩ => ⟨pa, pts, a1, a2, fun sh hs => by subst hs; exact pts_of a4 a3⟩) fun H4 e4 => ep_nul ev_c
        simp only [List.mem_cons, List.not_mem_nil, or_false] at hn
        rcases hn with rfl | rfl | rfl | rfl
        · rw [h1]; exact hx
        · rw [h2]; exact hy
        · exact h3
        · exact h4
      · exact fun v H4 e h => h
    refine es_when (b := decide (V.int kd = .int 2)) (by walk_at "ev") (fun _ => ?_) fun h3 => ?_
    · apply es_retP
      · refine ep_form (S := fun s => s = .line) (ep_shp (sh := .line) ev_c rfl) (fun H4 e4 => EvP.imp (ep_tupI (C := fun is => is.length = 4 ∧ ∀ n ∈ is, Sm n) (eap_consI (evx rfl) fun _ H5 e5 h1 => eap_consI (evy rfl) fun _ H6 e6 h2 => eap_consI (dx (Rel.trans e3 (Rel.trans e4 (Rel.trans e5 e6))) rfl rfl) fun c H7 e7 h3 => eap_consI (dx (Rel.trans e3 (Rel.trans e4 (Rel.trans e5 (Rel.trans e6 e7)))) rfl rfl) fun d H8 e8 h4 => eap_nilI ⟨rfl, fun n hn => ?_⟩) (fun is h => by rw [h.1]; decide)) fun v H9 _ ⟨pa, pts, a1, a2, a3, a4⟩ => ⟨pa, pts, a1, a2, fun sh hs => by subst hs; exact pts_of a4 a3⟩) fun H4 e4 => ep_nul ev_c
        simp only [List.mem_cons, List.not_mem_nil, or_false] at hn
        rcases hn with rfl | rfl | rfl | rfl
        · rw [h1]; exact hx
        · rw [h2]; exact hy
        · exact h3
        · exact h4
      · exact fun v H4 e h => h
    refine es_when (b := decide (V.int kd = .int 3)) (by walk_at "ev") (fun _ => ?_) fun h4 => ?_
    · refine es_asgP (ep_tup (vs := [.int x, .int y]) (by walk_at "ev") (by walk_at "sz")) ?_
      rintro v H4 e4 ⟨p0, rfl, hp0⟩
      have e4 := Rel.trans e3 e4
      apply es_seq
      · refine es_forRP (ψ := fun σ H5 => ∃ pa pts v6, σ = [some (.ref t), some (.int 10), some (.int x), some (.int y), some (.int kd), some (.ref pa), v6] ∧ IntsAt H5 pa pts ∧ (pts.length % 2 = 0 ∧ 2 ≤ pts.length ∧ pts.length ≤ 20) ∧ ∀ n ∈ pts, Sm n) (ep_draw (K := K) (m := 4) (tk.keep e4) (ev_var rfl) ev_c ⟨by decide, by decide⟩) ?_
        rintro v H5 e5 ⟨n, rfl, hn0, hn1⟩
        have e45 := Rel.trans e4 e5
        refine es_forR (n := n) (ea_cons ev_c ea_nil) ⟨by omega, by omega⟩ (fun i σ H6 => ∃ pa pts v6, σ = [some (.ref t), some (.int 10), some (.int x), some (.int y), some (.int kd), some (.ref pa), v6] ∧ IntsAt H6 pa pts ∧ pts.length = 2 + 2 * i ∧ ∀ n ∈ pts, Sm n) (fun H6 e6 => ⟨p0, [x, y], none, rfl, Rel.tup (Rel.trans e5 e6) hp0, rfl, fun m hm => ?_⟩) ?_ ?_
        · simp only [List.mem_cons, List.not_mem_nil, or_false] at hm
          rcases hm with rfl | rfl
          · exact hx
          · exact hy
        · rintro i σ' H6 hi e6 ⟨pa, pts, v6, rfl, hp, hl, hs⟩
          have e06 := Rel.trans e45 e6
          refine es_asgP1 (ep_opR (P := fun v H2 => ∃ qa qts, v = .ref qa ∧ IntsAt H2 qa qts ∧ qts.length = 2 ∧ ∀ n ∈ qts, Sm n) (P' := fun v H2 => ∃ qa qts, v = .ref qa ∧ IntsAt H2 qa (pts ++ qts) ∧ qts.length = 2 ∧ ∀ n ∈ qts, Sm n) (ev_var rfl) (ep_tupI (C := fun is => is.length = 2 ∧ ∀ n ∈ is, Sm n) (eap_consI (dx e06 rfl rfl) fun c H7 e7 h3 => eap_consI (dx (Rel.trans e06 e7) rfl rfl) fun d H8 e8 h4 => eap_nilI ⟨rfl, fun n hn => ?_⟩) (fun is h => by rw [h.1]; decide)) ?_) ?_
          · simp only [List.mem_cons, List.not_mem_nil, or_false] at hn
            rcases hn with rfl | rfl
            · exact h3
            · exact h4
          · rintro u H7 e7 ⟨qa, qts, rfl, h1, h2, h3⟩
            have hz5 : (100 : Nat) ≤ sizeLine := Nat.le_of_ble_eq_true rfl
            refine EvP.imp (rp_catT (K := K) (Rel.tup e7 hp) h1 (by rw [List.length_map, List.length_map]; omega)) ?_
            rintro v H8 e8 ⟨p, rfl, hp8⟩
            exact ⟨p, qts, rfl, by show H8 p = _; rw [hp8, List.map_append], h2, h3⟩
          · rintro v H7 e7 ⟨qa, qts, rfl, h1, h2, h3⟩
            refine ⟨qa, pts ++ qts, _, rfl, h1, by rw [List.length_append]; omega, fun m hm => ?_⟩
            rcases List.mem_append.mp hm with h | h
            · exact hs m h
            · exact h3 m h
        · rintro σ' H6 e6 ⟨pa, pts, v6, rfl, hp, hl, hs⟩
          exact ⟨pa, pts, v6, rfl, hp, ⟨by omega, by omega, by omega⟩, hs⟩
      · rintro σ' H5 e5 ⟨pa, pts, v6, rfl, hp, hl, hs⟩
        apply es_retP
        · exact ep_form (S := fun s => s = .poly) (ep_shp (sh := .poly) ev_c rfl) (fun H6 e6 => EvP.imp (Ev.p (ev_var (v := .ref pa) rfl)) fun v H7 e7 hv => ⟨pa, pts, hv, Rel.tup (Rel.trans e6 e7) hp, fun sh h => by subst h; exact pts_of hs hl⟩) fun H4 e4 => ep_nul ev_c
        · exact fun v H4 e h => h
    refine es_when (b := decide (V.int kd = .int 4)) (by walk_at "ev") (fun _ => ?_) fun h5 => ?_
    · apply es_retP
      · refine ep_form (S := fun s => s = .circ) (ep_shp (sh := .circ) ev_c rfl) (fun H4 e4 => EvP.imp (ep_tupI (C := fun is => (is.length = 3 ∧ 0 ≤ at0 is 2) ∧ ∀ n ∈ is, Sm n) (eap_consI (evx rfl) fun _ H5 e5 h1 => eap_consI (evy rfl) fun _ H6 e6 h2 => eap_consI (D := fun i => 0 ≤ i ∧ i < 4) (EvP.imp (ep_draw (K := K) (m := 4) (tk.keep (Rel.trans e3 (Rel.trans e4 (Rel.trans e5 e6)))) (ev_var rfl) (ev_op (ev_op (ev_var rfl) ev_c (rv_I ⟨by decide, by decide⟩)) ev_c rv_I0) ⟨by decide, by decide⟩) fun v H9 _ ⟨d, h, hd⟩ => ⟨d, h, hd⟩) fun c H7 e7 h3 => eap_nilI ⟨⟨rfl, h3.1⟩, fun n hn => ?_⟩) (fun is h => by rw [h.1.1]; decide)) fun v H9 _ ⟨pa, pts, a1, a2, a3, a4⟩ => ⟨pa, pts, a1, a2, fun sh hs => by subst hs; exact pts_of a4 a3⟩) fun H4 e4 => ep_nul ev_c
        simp only [List.mem_cons, List.not_mem_nil, or_false] at hn
        rcases hn with rfl | rfl | rfl
        · rw [h1]; exact hx
        · rw [h2]; exact hy
        · exact ⟨by omega, by omega⟩
      · exact fun v H4 e h => h
    have k5 : 5 ≤ kd := by
      have h2 := of_decide_eq_false h2
      have a3 : kd ≠ 2 := fun z => of_decide_eq_false h3 (by rw [z])
      have a4 : kd ≠ 3 := fun z => of_decide_eq_false h4 (by rw [z])
      have a5 : kd ≠ 4 := fun z => of_decide_eq_false h5 (by rw [z])
      omega
    apply es_retP
    · refine ep_form (S := fun s => s = .ts ∨ s = .tm ∨ s = .te) (ep_pick (K := K) (m := 3) (vs := [.str "text start", .str "text middle", .str "text end"]) (fun v => ∃ sh, v = .str (Sh.str sh) ∧ (sh = .ts ∨ sh = .tm ∨ sh = .te)) (tk.keep e3) (by walk_at "ev") ⟨rfl, by decide⟩ (fun H4 e4 => EvP.imp (Ev.p (ev_op (z := .int (kd - 5)) (ev_var rfl) ev_c rv_I0)) fun v H5 _ hv => ⟨_, hv, by omega, by omega⟩) ?_) (fun H4 e4 => EvP.imp (ep_tupI (C := fun is => is.length = 2 ∧ ∀ n ∈ is, Sm n) (eap_consI (evx rfl) fun _ H5 e5 h1 => eap_consI (evy rfl) fun _ H6 e6 h2 => eap_nilI ⟨rfl, fun n hn => ?_⟩) (fun is h => by rw [h.1]; decide)) fun v H9 _ ⟨pa, pts, a1, a2, a3, a4⟩ => ⟨pa, pts, a1, a2, fun sh hs => by rcases hs with rfl | rfl | rfl <;> exact pts_of a4 a3⟩) fun H4 e4 => ep_word (K := K) (tk.keep (Rel.trans e3 e4)) (ev_var rfl)
      · intro x hx
        simp only [List.mem_cons, List.not_mem_nil, or_false] at hx
        rcases hx with rfl | rfl | rfl
        · exact ⟨.ts, rfl, .inl rfl⟩
        · exact ⟨.tm, rfl, .inr (.inl rfl)⟩
        · exact ⟨.te, rfl, .inr (.inr rfl)⟩
      · simp only [List.mem_cons, List.not_mem_nil, or_false] at hn
        rcases hn with rfl | rfl
        · rw [h1]; exact hx
        · rw [h2]; exact hy
    · exact fun v H4 e h => h
theorem ep_formC {t l : Addr} {ns : List Int} {σ : L2.St} {H : Hp} {ta tb : TE} {E : XK} (tk : TapeAt t l ns H) (h : Ev (Tp t l ns) ta σ H (.ref t)) (hb : Ev (Tp t l ns) tb σ H (.int 10)) : EvP (Tp t l ns) (tCall (sp_l_form K) [] E (tCons ta (tCons tb tNil))) σ H Form :=
  ep_call (ea_cons h (ea_cons hb ea_nil)) fun H1 e Q q E => ⟨t, l, ns, rfl, tk.keep e, fun v H2 e2 hd => q _ H2 e2 hd⟩
end
end Cs

namespace Cs
open PySem PySem.Spec PyProof.Rows L2
local macro_rules | `(tactic| walk_at "hp") => `(tactic| first | assumption)
local macro_rules | `(tactic| walk_at "num") => `(tactic| first | assumption | omega | decide)
local macro_rules | `(tactic| walk_at "rv") => `(tactic| first
  | (with_reducible exact rv_I0)
  | ((with_reducible apply rv_ixT); (walk_at "hp"); (rfl))
  | ((with_reducible apply rv_eq); (rfl))
  | ((with_reducible apply rv_ne); (rfl))
  | (with_reducible exact rv_isN)
  | (with_reducible exact rv_notN)
  | (with_reducible exact rv_inS)
  | ((with_reducible apply rv_I); (first | exact Or.inr ⟨by walk_at "num", by walk_at "num"⟩ | exact Or.inl ⟨by walk_at "num", by walk_at "num"⟩ | exact ⟨by walk_at "num", by walk_at "num"⟩ | exact ⟨by walk_at "num", by walk_at "num", by walk_at "num"⟩ | walk_at "num"))
  | ((with_reducible apply rv_ixS) <;> walk_at "num"))
local macro_rules | `(tactic| walk_at "rc") => `(tactic| first
  | (with_reducible exact rc_abs) | (with_reducible exact rc_max2) | (with_reducible exact rc_min2) | (with_reducible exact rc_int1)
  | ((with_reducible apply rc_lenT); walk_at "hp") | ((with_reducible apply rc_lenZ); walk_at "num"))
local macro_rules | `(tactic| walk_at "ev") => `(tactic| first
  | (with_reducible exact ev_c)
  | ((with_reducible apply ev_var); rfl)
  | ((with_reducible apply ev_op); (walk_at "ev"); (walk_at "ev"); (walk_at "rv"))
  | ((with_reducible apply ev_un); (walk_at "ev"); (exact ru_neg))
  | ((with_reducible apply ev_cb); (walk_at "ev"); (walk_at "rc"))
  | ((with_reducible apply ev_andV); (walk_at "ev"); (intro _; walk_at "ev"))
  | ((with_reducible apply ev_chain); (walk_at "ev"); (walk_at "ev"); (walk_at "rv"); (intro _; walk_at "ev"); (intro _; walk_at "rv"))
  | (with_reducible exact ea_nil)
  | ((with_reducible apply ea_cons); (walk_at "ev"); (walk_at "ev"))
  | ((with_reducible apply et_test); (walk_at "ev"))
  | ((with_reducible apply et_B); (walk_at "ev"))
  | ((with_reducible apply et_and); (walk_at "ev"); (intro _; walk_at "ev"))
  | ((with_reducible apply et_or); (walk_at "ev"); (intro _; walk_at "ev"))
  | ((with_reducible apply et_not); (walk_at "ev"))
  | (with_reducible exact eo_none)
  | ((with_reducible apply eo_some); (walk_at "ev")))
local macro_rules | `(tactic| walk_at "sz") => `(tactic| exact Nat.le_of_ble_eq_true rfl)
local macro_rules | `(tactic| walk_at "as") => `(tactic| ((with_reducible apply es_asg); (walk_at "ev")))
local macro_rules | `(tactic| walk_at "tp") => `(tactic| ((with_reducible apply ep_tup); (walk_at "ev"); (walk_at "sz")))
local macro_rules | `(tactic| walk_at "no") => `(tactic| ((with_reducible apply es_whenF); ((with_reducible apply et_is); (walk_at "ev"); (decide +kernel))))
local macro_rules | `(tactic| walk_at "yes") => `(tactic| ((with_reducible apply es_whenT); ((with_reducible apply et_is); (walk_at "ev"); (decide +kernel))))
section
variable {P : Program} {w : World} {K : PySem.W.Frag} {mg : Str → Option Value} {base : Heap}
def POk (p : Prim) : Prop := p.ok ∧ ∀ n ∈ p.pts, Sm n
def APrim (d : Id3) : V → Hp → Prop := fun v H => ∃ b p, v = .ref b ∧ PrimAt H b p ∧ POk p ∧ p.who = d
theorem ep_cat2 {R : Rl} [Rel R] {σ : L2.St} {H : Hp} {ta tb : TE} {a b : Addr} {xs ys : List V} (ha : Ev R ta σ H (.ref a)) (hb : Ev R tb σ H (.ref b)) (h1 : H a = some (.tup xs)) (h2 : H b = some (.tup ys)) (hl : xs.length + ys.length ≤ sizeLine) : EvP R (tOp (rCatA K) ta tb) σ H (NewT (xs ++ ys)) :=
  ep_catT (Ev.pT ha h1) (fun H1 e => Ev.pT (hb.mono e) (Rel.tup e h2)) hl
def sp_l_primitive (K : PySem.W.Frag) : Sp := fun vs H Q _ => ∃ t l ns wb d, vs = [.ref t, .ref wb, .int 10] ∧ TapeAt t l ns H ∧ IdAt H wb d ∧ d.ok ∧ ∀ v H2, Tp t l ns H H2 → APrim d v H2 → Q v H2
theorem ok_l_primitive (T : Txt K mg) : FnOk P w K mg base CX0 4 (He.ga K "_law_primitive") (fdOf K (He.ga K "_law_primitive")) p_l_primitive (sp_l_primitive K) := by
  refine T.l_primitive.fn.ok sc_l_primitive (fun vs H Q E h => ?_) (fun cdv A outer s H vs Q E hr h => ?_)
  · obtain ⟨t, l, ns, wb, d, rfl, tk, hw, hd, q⟩ := h
    rfl
  · obtain ⟨t, l, ns, wb, d, rfl, tk, hw, hd, q⟩ := h
    refine ⟨_, (pss_cons (ps_set (i := 3) sc_l_primitive.nd rfl (Or.inl rfl) (pe_call (ok_l_form T) (hr.mono (by decide)) (by rfl) T.l_form.mg T.l_form.fn.kp (bd_l_form T) .nil pass0 (pa_cons (pv 0) (pa_cons (pv 2) pa_nil)))) (pss_cons (ps_set (i := 4) sc_l_primitive.nd rfl (Or.inl rfl) (pe_call (ok_l_color T) (hr.mono (by decide)) (by rfl) T.l_color.mg T.l_color.fn.kp (bd_l_color T) .nil pass0 (pa_cons (pv 0) pa_nil))) (pss_cons (ps_set (i := 5) sc_l_primitive.nd rfl (Or.inl rfl) (pe_call (ok_l_color T) (hr.mono (by decide)) (by rfl) T.l_color.mg T.l_color.fn.kp (bd_l_color T) .nil pass0 (pa_cons (pv 0) pa_nil))) (pss_one (ps_ret (pe_op (r := rCatA K) op_catA (pe_op (r := rCatA K) op_catA (pv 1) (pv 3)) (pe_tup (pa_cons (pv 4) (pa_cons (pv 5) (pa_cons (pe_call (ok_l_clip T) (hr.mono (by decide)) (by rfl) T.l_clip.mg T.l_clip.fn.kp (bd_l_clip T) .nil pass0 (pa_cons (pv 0) (pa_cons (pv 2) pa_nil))) pa_nil)))))))))), ?_⟩
    refine EvS.run (R := Tp t l ns) (φ := APrim d) ?_ fun v H2 e2 p => q v H2 e2 p
    refine es_asgP (ep_formC (K := K) tk (ev_var rfl) (ev_var rfl)) ?_
    rintro v H1 e1 ⟨fb, sh, pa, pts, z, rfl, hf, hp, hs, hz1, hz2⟩
    refine es_asgP (ep_color (K := K) (tk.keep e1) (ev_var rfl)) ?_
    rintro v H2 e2 ⟨fi, rfl, hfi⟩
    refine es_asgP (ep_color (K := K) (tk.keep (Rel.trans e1 e2)) (ev_var rfl)) ?_
    rintro v H3 e3 ⟨st, rfl, hst⟩
    have e13 := Rel.trans e2 e3
    have e03 := Rel.trans e1 e13
    have tk := tk.keep e03
    have hw := Rel.tup e03 hw
    have hf := Rel.tup e13 hf
    have hp := Rel.tup e13 hp
    have hz5 : (100 : Nat) ≤ sizeLine := Nat.le_of_ble_eq_true rfl
    apply es_retP
    · refine ep_opL (P' := APrim d) (ep_cat2 (ev_var rfl) (ev_var rfl) hw hf (Nat.le_of_ble_eq_true rfl)) ?_
      rintro x H4 e4 ⟨a4, rfl, h4⟩
      refine ep_opR (P := fun v H5 => ∃ b cv o, v = .ref b ∧ H5 b = some (.tup [oS fi, oS st, cv]) ∧ ORect H5 cv o) ev_c (ep_tupP (PA := fun vs H5 => ∃ cv o, vs = [oS fi, oS st, cv] ∧ ORect H5 cv o) (eap_consE (ev_var rfl) fun H5 e5 => eap_consE (ev_var rfl) fun H6 e6 => eap_one' (ep_clip (K := K) (tk.keep (Rel.trans e4 (Rel.trans e5 e6))) (ev_var rfl) (ev_var rfl) ⟨by decide, by decide⟩) fun v H7 e7 ⟨o, ho⟩ => ⟨v, o, rfl, ho⟩) ?_ ?_) ?_
      · rintro vs H5 ⟨cv, o, rfl, _⟩
        exact Nat.le_of_ble_eq_true rfl
      · rintro vs H5 p e5 ⟨cv, o, rfl, ho⟩ hn
        exact ⟨p, cv, o, rfl, upd_same, ho.keep (R := Same) (same_new hn)⟩
      · rintro y H5 e5 ⟨b, cv, o, rfl, hb, ho⟩
        refine EvP.imp (rp_catT (K := K) (Rel.tup e5 h4) hb (Nat.le_of_ble_eq_true rfl)) ?_
        rintro v H6 e6 ⟨p, rfl, hp6⟩
        refine ⟨p, ⟨d, sh, pts, z, fi, st, o⟩, rfl, ⟨pa, cv, hp6, Rel.tup (Rel.trans e4 (Rel.trans e5 e6)) hp, ho.keep e6⟩, ⟨⟨hd, hs.1, by show z.length ≤ 100; omega, hz1, hfi, hst⟩, hs.2⟩, rfl⟩
    · exact fun v H4 e h => h
def sp_l_identities (K : PySem.W.Frag) : Sp := fun vs H Q _ => ∃ a as ps, vs = [.ref a] ∧ H a = some (.lst (as.map V.ref)) ∧ PrimsAt H as ps ∧ ps.length ≤ 1000 ∧ ∀ b H2, Same H H2 → IdL H2 b (ps.map Prim.who) → Q (.ref b) H2
theorem ok_l_identities (T : Txt K mg) : FnOk P w K mg base CX0 1 (He.ga K "_law_identities") (fdOf K (He.ga K "_law_identities")) p_l_identities (sp_l_identities K) := by
  refine T.l_identities.fn.ok sc_l_identities (fun vs H Q E h => ?_) (fun cdv A outer s H vs Q E hr h => ?_)
  · obtain ⟨a, as, ps, rfl, ha, hp, hn, q⟩ := h
    rfl
  · obtain ⟨a, as, ps, rfl, ha, hp, hn, q⟩ := h
    refine ⟨_, (pss_one (ps_ret (pe_lc (own := [("_law_item", 1)]) (g := gName 1) rfl sc_l_identities.nd (pi_list (pv 0)) (blkOk_by (own := [("_law_item", 1)]) (N := n_l_identities) (sc := defScope s_l_identities) (by decide +kernel)) (fun _ _ _ _ _ => pg_name (i := 1) sc_l_identities.nd rfl (Or.inl rfl)) (fun _ _ _ _ _ => pts_nil) (fun _ _ _ _ _ => (pe_slice (r := rSlA K) sl_tupA (pv 1) po_none (po_some pe_int)))))), ?_⟩
    refine EvS.run (R := Same) (φ := fun v H2 => ∃ l, v = .ref l ∧ IdL H2 l (ps.map Prim.who)) ?_ fun v H2 e2 ⟨l, p1, p2⟩ => by rw [p1]; exact q l H2 e2 p2
    have hl := pair_len hp
    apply es_retP
    · refine lc_ofL (K := K) (a := a) (xs := as.map V.ref) (by walk_at "ev") (SqL.of ha) (by rw [List.length_map]; omega) (IdsLv ps fun _ => true) idsLv_kt ⟨[], rfl, .nil⟩ ?_ (fun _ => rfl)
      intro i x acc H1 e hx hacc
      obtain ⟨c, rfl, hc⟩ := map_get hx
      obtain ⟨p, hp2, hp3⟩ := pair_get hp hc
      obtain ⟨pa, cv, g1, g2, g3⟩ := hp3.keep e
      refine ⟨true, et_true, fun _ => EvP.imp (ep_slT (K := K) (lo := none) (hi := some 3) (by walk_at "ev") eo_none (eo_some ev_c) g1) ?_, fun z => nomatch z⟩
      rintro v H2 e2 ⟨b, rfl, hb⟩
      exact idsLv_step (idsLv_kt _ _ _ _ (kt_of e2) hacc) hp2 rfl ⟨b, rfl, hb⟩
    · intro v H2 e2 hv
      obtain ⟨l, h1, h2⟩ := idsLv_end (by rw [List.length_map, hl]) hv
      refine ⟨l, h1, ?_⟩
      rw [List.filter_eq_self.mpr fun _ _ => rfl] at h2
      exact h2
/-! ### lists that grow while the tape turns -/
theorem peT_of {t l : Addr} {ns : List Int} {σ : L2.St} {H : Hp} {te : TE} {P : V → Hp → Prop} (h : EvP (Tp t l ns) te σ H P) : PtE te σ H (fun v H2 => Tp t l ns H H2 ∧ P v H2) := fun Q q => h H (Rel.refl H) Q fun v H2 e p => q v H2 ⟨e, p⟩
theorem pts_forR {σ : L2.St} {H : Hp} {ta : TA} {tb : TS} {j : Nat} {n : Int} {φ : V → Hp → Prop} {ψ : L2.St → Hp → Prop} (h : EvA Same ta σ H [.int n]) (hn : -(2 ^ 62) ≤ n ∧ n < 2 ^ 62) (Iv : Nat → L2.St → Hp → Prop) (h0 : ∀ H2, Same H H2 → Iv 0 σ H2)
    (hs : ∀ (i : Nat) σ' H', (i : Int) < n → Iv i σ' H' → PtS tb (σ'.set j (some (.int (i : Int)))) H' φ (Iv (i + 1))) (hd : ∀ σ' H', Iv n.toNat σ' H' → ψ σ' H') : PtS (tFor (iRng1 ta) (gName j) tb) σ H φ ψ :=
  pts_for (I0 := fun H2 => Same H H2) (Gd := fun _ => True) (walk_range (lo := 0) (n := n.toNat)) (fun Q q => ei_rng1 (R := Same) h hn H (Same.refl H) Q q) Iv h0 (fun _ _ _ _ _ => trivial) (fun i x σ' H' H'' hi p ⟨e, hx⟩ => by
    have hx : x = .int (0 + (i : Int)) := hx
    rw [Int.zero_add] at hx
    subst e hx
    exact hs i σ' _ (by omega) p) hd
theorem pts_append {t l : Addr} {ns : List Int} {σ : L2.St} {H : Hp} {te : TE} {i : Nat} {p0 : Addr} {xs : List V} {P : V → Hp → Prop} {φ : V → Hp → Prop} {ψ : L2.St → Hp → Prop} (h0 : σ[i]? = some (some (.ref p0))) (hl : H p0 = some (.lst xs)) (hp : p0 ≠ t) (hn : xs.length ≤ 1000) (he : EvP (Tp t l ns) te σ H P)
    (k : ∀ v H2, Tp t l ns H H2 → H2 p0 = some (.lst xs) → P v H2 → ψ σ (upd H2 p0 (.lst (xs ++ [v])))) : PtS (tDrop (tBM K "list" rAppend (tVar i) (tCons te tNil))) σ H φ ψ := fun D _ n =>
  ⟨.ref p0, h0, .inl ⟨rfl, xs, SqL.of hl⟩, he H (Rel.refl H) _ fun v H2 e pv => by
    have hl2 := lst_tp e hp hl
    have hz : (100000 : Nat) ≤ sizeLine := Nat.le_of_ble_eq_true rfl
    exact ⟨p0, xs, v, rfl, rfl, hl2, by omega, n _ _ (k v H2 e hl2 pv)⟩⟩
/-- a list of primitives drawn -/
structure PLst (H : Hp) (a : Addr) (ps : List Prim) (B n : Nat) : Prop where
  at_ : ∃ as, H a = some (.lst (as.map V.ref)) ∧ PrimsAt H as ps
  key : Keyed ps
  ok : ∀ p ∈ ps, p.ok ∧ p.who.key.length ≤ B
  len : ps.length ≤ n
theorem PLst.keep {t l : Addr} {ns : List Int} {H H2 : Hp} {a : Addr} {ps : List Prim} {B n : Nat} (h : PLst H a ps B n) (e : Tp t l ns H H2) (ha : a ≠ t) : PLst H2 a ps B n := by
  obtain ⟨⟨as, h1, h2⟩, h3, h4, h5⟩ := h
  exact ⟨⟨as, lst_tp e ha h1, h2.keep e⟩, h3, h4, h5⟩
theorem tape_no_refs {t l : Addr} {ns : List Int} {H : Hp} {bs : List Addr} {a : Addr} (tk : TapeAt t l ns H) (h : H a = some (.lst (bs.map V.ref))) : a ≠ t := by
  rintro rfl
  obtain ⟨⟨p, n, z, h1, _, _⟩, _⟩ := tk
  rw [h1] at h
  injection h with h
  injection h with h
  match bs, h with
  | [], h => simp at h
  | [_], h => simp at h
  | _ :: _ :: _, h => simp at h
/-- primitive(tape, new_identity(tape, identities(items)), room) -/
def FreshPrim (ps : List Prim) (B : Nat) : V → Hp → Prop := fun v H => ∃ b p, v = .ref b ∧ PrimAt H b p ∧ POk p ∧ p.who.key.length ≤ B + 2 ∧ p.who ∉ ps.map Prim.who
theorem ep_fresh {t l : Addr} {ns : List Int} {σ : L2.St} {H : Hp} {ta ti tr : TE} {a : Addr} {ps : List Prim} {B n : Nat} {E1 E2 E3 : XK} (tk : TapeAt t l ns H) (hl : PLst H a ps B n) (hB : 10 ≤ B ∧ B ≤ 90) (hn : n < 100) (ha : a ≠ t) (h1 : ∀ H1, Ev (Tp t l ns) ta σ H1 (.ref t)) (h2 : ∀ H1, Ev (Tp t l ns) ti σ H1 (.ref a)) (h3 : ∀ H1, Ev (Tp t l ns) tr σ H1 (.int 10)) :
    EvP (Tp t l ns) (tCall (sp_l_primitive K) [] E1 (tCons ta (tCons (tCall (sp_l_new_identity K) [] E2 (tCons ta (tCons (tCall (sp_l_identities K) [] E3 (tCons ti tNil)) tNil))) (tCons tr tNil)))) σ H (FreshPrim ps B) := by
  have idn : ∀ H1, Tp t l ns H H1 → EvP (Tp t l ns) (tCall (sp_l_identities K) [] E3 (tCons ti tNil)) σ H1 (fun v H2 => ∃ b, v = .ref b ∧ b ≠ t ∧ IdL H2 b (ps.map Prim.who)) := fun H1 e1 =>
    ep_call (ea_cons (h2 H1) ea_nil) fun H2 e2 Q q E => by
      have e12 := Rel.trans e1 e2
      obtain ⟨⟨as, g1, g2⟩, _, _, g5⟩ := hl.keep e12 ha
      refine ⟨a, as, ps, rfl, g1, g2, by omega, fun b H3 e3 hb => q _ H3 (tq_same e3) ⟨b, rfl, ?_, hb⟩⟩
      obtain ⟨bs, b1, _⟩ := hb
      exact tape_no_refs ((tk.keep e12).keep (tq_same (M := []) e3)) b1
  refine ep_callP (PA := fun vs H2 => ∃ wb d, vs = [.ref t, .ref wb, .int 10] ∧ Tp t l ns H H2 ∧ IdAt H2 wb d ∧ d.ok ∧ d.key.length ≤ B + 2 ∧ d ∉ ps.map Prim.who) (eap_consE (h1 H) fun Ha ea => eap_cons (P := NewId (ps.map Prim.who) B) (ep_callP (PA := fun vs H2 => ∃ b, vs = [.ref t, .ref b] ∧ Tp t l ns H H2 ∧ b ≠ t ∧ IdL H2 b (ps.map Prim.who)) (eap_consE (h1 Ha) fun Hb eb => eap_one' (idn Hb (Rel.trans ea eb)) ?_) ?_) ?_) ?_
  · rintro v Hc ec ⟨b, rfl, hb, hb2⟩
    exact ⟨b, rfl, Rel.trans ea (Rel.trans eb ec), hb, hb2⟩
  · rintro vs Hc ec ⟨b, rfl, e0c, hb, hb2⟩ Q q
    refine ⟨t, l, ns, b, ps.map Prim.who, B, rfl, tk.keep e0c, hb, hb2, fun d hd => ?_, hB, by rw [List.length_map]; have := hl.len; omega, fun v H2 e2 hv => q v H2 e2 hv⟩
    obtain ⟨p, hp, e⟩ := List.mem_map.mp hd
    rw [← e]
    exact ⟨(hl.ok p hp).1.who, (hl.ok p hp).2⟩
  · rintro v Hc ec ⟨wb, d, rfl, g1, g2, g3, g4⟩
    refine eap_consE (h3 Hc) fun Hd ed => eap_nil fun He ee => ⟨wb, d, rfl, Rel.trans ea (Rel.trans ec (Rel.trans ed ee)), Rel.tup (Rel.trans ed ee) g1, g2, g3, g4⟩
  · rintro vs H2 e2 ⟨wb, d, rfl, e02, g1, g2, g3, g4⟩ Q q
    refine ⟨t, l, ns, wb, d, rfl, tk.keep e02, g1, g2, fun v H3 e3 ⟨b, p, hv, p1, p2, p3⟩ => q v H3 e3 ⟨b, p, hv, p1, p2, by rw [p3]; exact g3, by rw [p3]; exact g4⟩⟩
/-- a scene drawn -/
def AScene (wd hg : Int) (B n : Nat) : V → Hp → Prop := fun v H => ∃ b ps, v = .ref b ∧ SceneAt H b wd hg ps ∧ Keyed ps ∧ (∀ p ∈ ps, POk p ∧ p.who.key.length ≤ B) ∧ ps.length ≤ n
theorem keyed_snoc {ps : List Prim} {p : Prim} (h : Keyed ps) (hp : p.who ∉ ps.map Prim.who) : Keyed (ps ++ [p]) := by
  unfold Keyed at h ⊢
  rw [List.map_append, List.nodup_append]
  refine ⟨h, by simp, fun a ha b hb e => ?_⟩
  have : b = p.who := by simpa using hb
  subst this
  subst e
  exact hp ha
def sp_l_scene (K : PySem.W.Frag) : Sp := fun vs H Q _ => ∃ t l ns wd hg m, vs = [.ref t, .int wd, .int hg, .int 10, .int m] ∧ TapeAt t l ns H ∧ (0 ≤ m ∧ m ≤ 6) ∧ ∀ v H2, Tp t l ns H H2 → AScene wd hg 22 6 v H2 → Q v H2
theorem ok_l_scene (T : Txt K mg) : FnOk P w K mg base CX0 5 (He.ga K "_law_scene") (fdOf K (He.ga K "_law_scene")) p_l_scene (sp_l_scene K) := by
  refine T.l_scene.fn.ok sc_l_scene (fun vs H Q E h => ?_) (fun cdv A outer s H vs Q E hr h => ?_)
  · obtain ⟨t, l, ns, wd, hg, m, rfl, tk, hm, q⟩ := h
    rfl
  · obtain ⟨t, l, ns, wd, hg, m, rfl, tk, hm, q⟩ := h
    refine ⟨_, (pss_cons (ps_set (i := 5) sc_l_scene.nd rfl (Or.inl rfl) (pe_lst pa_nil)) (pss_cons (ps_for PassesOwn.never rfl (pi_range1 (by rfl) T.b_range (pa_cons (pv 4) pa_nil)) (pg_name (i := 6) sc_l_scene.nd rfl (Or.inl rfl)) (pss_one (ps_expr (pe_bm PySem.F.plainAttrs_list PySem.F.slot_list_append PySem.F.type_list_append mt_append (pv 5) (pa_cons (pe_call (ok_l_primitive T) (hr.mono (by decide)) (by rfl) T.l_primitive.mg T.l_primitive.fn.kp (bd_l_primitive T) .nil pass0 (pa_cons (pv 0) (pa_cons (pe_call (ok_l_new_identity T) (hr.mono (by decide)) (by rfl) T.l_new_identity.mg T.l_new_identity.fn.kp (bd_l_new_identity T) .nil pass0 (pa_cons (pv 0) (pa_cons (pe_call (ok_l_identities T) (hr.mono (by decide)) (by rfl) T.l_identities.mg T.l_identities.fn.kp (bd_l_identities T) .nil pass0 (pa_cons (pv 5) pa_nil)) pa_nil))) (pa_cons (pv 3) pa_nil)))) pa_nil))))) (pss_one (ps_ret (pe_tup (pa_cons (pv 1) (pa_cons (pv 2) (pa_cons (pe_callTy cb_tupOf (by rfl) T.b_tuple PyProof.Rows.boot_tuple (pa_cons (pv 5) pa_nil)) pa_nil)))))))), ?_⟩
    refine PtS.run (φ := fun v H2 => Tp t l ns H H2 ∧ AScene wd hg 22 6 v H2) ?_ fun v H2 ⟨p1, p2⟩ => q v H2 p1 p2
    refine pts_asg (P := fun v H1 => ∃ p, v = .ref p ∧ H p = none ∧ H1 = upd H p (.lst [])) (fun Q q => ⟨Nat.zero_le _, fun p hp => q _ _ ⟨p, rfl, hp, rfl⟩⟩) ?_
    rintro v H1 ⟨p0, rfl, f0, rfl⟩
    have pt : p0 ≠ t := fun z => tk.1.t_some.1 (by rw [← z]; exact f0)
    have e1 : Tp t l ns H (upd H p0 (.lst [])) := Rel.new f0
    refine pts_seq (ψ1 := fun σ' H' => (∃ v6, σ' = [some (.ref t), some (.int wd), some (.int hg), some (.int 10), some (.int m), some (.ref p0), v6]) ∧ Tp t l ns H H' ∧ ∃ ps, PLst H' p0 ps 22 6 ∧ ∀ p ∈ ps, ∀ n ∈ p.pts, Sm n) (pts_forR (n := m) (by walk_at "ev") ⟨by omega, by omega⟩ (fun i σ' H' => (∃ v6, σ' = [some (.ref t), some (.int wd), some (.int hg), some (.int 10), some (.int m), some (.ref p0), v6]) ∧ Tp t l ns H H' ∧ ∃ ps, PLst H' p0 ps (10 + 2 * i) i ∧ ∀ p ∈ ps, ∀ n ∈ p.pts, Sm n) ?_ ?_ ?_) ?_
    · intro H2 e2
      refine ⟨⟨none, rfl⟩, Rel.trans e1 (tq_same e2), [], ⟨⟨[], e2 _ _ upd_same, .nil⟩, List.nodup_nil, fun p hp => absurd hp List.not_mem_nil, Nat.le_refl 0⟩, fun p hp => absurd hp List.not_mem_nil⟩
    · rintro i σ' H2 hi ⟨⟨v6, rfl⟩, e2, ps, hl, hsm⟩
      obtain ⟨as, g1, g2⟩ := id hl.at_
      have hal := pair_len g2
      have hll := hl.len
      refine pts_append (K := K) (xs := as.map V.ref) rfl g1 pt (by rw [List.length_map]; omega) (ep_fresh (K := K) (tk.keep e2) hl ⟨by omega, by omega⟩ (by omega) pt (fun _ => ev_var rfl) (fun _ => ev_var rfl) (fun _ => ev_var rfl)) ?_
      rintro v H3 e3 hl3 ⟨b, p, rfl, p1, p2, p3, p4⟩
      have e23 := Rel.trans e2 e3
      refine ⟨⟨_, rfl⟩, tp_mut e23 f0, ps ++ [p], ⟨⟨as ++ [b], by rw [upd_same, List.map_append]; rfl, pair_snoc ((g2.keep e3).kt (kt_upd hl3)) (p1.kt (kt_upd hl3))⟩, keyed_snoc hl.key p4, fun x hx => ?_, by rw [List.length_append, List.length_singleton]; omega⟩, fun x hx => ?_⟩
      · rcases List.mem_append.mp hx with h | h
        · exact ⟨(hl.ok x h).1, by have := (hl.ok x h).2; omega⟩
        · rw [List.mem_singleton.mp h]
          exact ⟨p2.1, by omega⟩
      · rcases List.mem_append.mp hx with h | h
        · exact hsm x h
        · rw [List.mem_singleton.mp h]
          exact p2.2
    · rintro σ' H2 ⟨h1, h2, ps, ⟨h3, h4, h5, h6⟩, h7⟩
      refine ⟨h1, h2, ps, ⟨h3, h4, fun p hp => ⟨(h5 p hp).1, by have := (h5 p hp).2; omega⟩, by omega⟩, h7⟩
    rintro σ' H2 ⟨⟨v6, rfl⟩, e2, ps, ⟨⟨as, g1, g2⟩, h4, h5, h6⟩, hsm⟩
    refine pts_ret fun Q q => pe_of (P := AScene wd hg 22 6) (ep_tupP (R := Same) (PA := fun vs H3 => ∃ ta, vs = [.int wd, .int hg, .ref ta] ∧ H3 ta = some (.tup (as.map V.ref)) ∧ PrimsAt H3 as ps) (eap_consE (by walk_at "ev") fun Ha ea => eap_consE (by walk_at "ev") fun Hb eb => eap_one' (P := fun v H3 => ∃ ta, v = .ref ta ∧ H3 ta = some (.tup (as.map V.ref)) ∧ PrimsAt H3 as ps) ?_ fun v H3 e3 ⟨ta, h1, h2, h3⟩ => ⟨ta, by rw [h1], h2, h3⟩) ?_ ?_) Q fun v H3 ⟨e3, h⟩ => q v H3 ⟨Rel.trans e2 (tq_same e3), h⟩
    · intro H3 e3 Q q
      have ee := ea.trans (eb.trans e3)
      refine ⟨.ref p0, rfl, p0, _, rfl, .inl ⟨SqL.of (ee _ _ g1), fun l hl => q _ _ (same_new hl) ⟨l, rfl, upd_same, (g2.keep ee).keep (same_new hl)⟩⟩⟩
    · rintro vs H3 ⟨ta, rfl, _⟩
      exact Nat.le_of_ble_eq_true rfl
    · rintro vs H3 p e3 ⟨ta, rfl, h2, h3⟩ hn
      have en := same_new (o := .tup [V.int wd, .int hg, .ref ta]) hn
      exact ⟨p, ps, rfl, ⟨ta, as, upd_same, en _ _ h2, h3.keep en⟩, h4, fun x hx => ⟨⟨(h5 x hx).1, hsm x hx⟩, (h5 x hx).2⟩, h6⟩
end
end Cs

namespace Cs
open PySem PySem.Spec PyProof.Rows L2
local macro_rules | `(tactic| walk_at "hp") => `(tactic| first | assumption)
local macro_rules | `(tactic| walk_at "num") => `(tactic| first | assumption | omega | decide)
local macro_rules | `(tactic| walk_at "rv") => `(tactic| first
  | (with_reducible exact rv_I0)
  | ((with_reducible apply rv_ixT); (walk_at "hp"); (rfl))
  | ((with_reducible apply rv_eq); (rfl))
  | ((with_reducible apply rv_ne); (rfl))
  | (with_reducible exact rv_isN)
  | (with_reducible exact rv_notN)
  | (with_reducible exact rv_inS)
  | ((with_reducible apply rv_I); (first | exact Or.inr ⟨by walk_at "num", by walk_at "num"⟩ | exact Or.inl ⟨by walk_at "num", by walk_at "num"⟩ | exact ⟨by walk_at "num", by walk_at "num"⟩ | exact ⟨by walk_at "num", by walk_at "num", by walk_at "num"⟩ | walk_at "num"))
  | ((with_reducible apply rv_ixS) <;> walk_at "num"))
local macro_rules | `(tactic| walk_at "rc") => `(tactic| first
  | (with_reducible exact rc_abs) | (with_reducible exact rc_max2) | (with_reducible exact rc_min2) | (with_reducible exact rc_int1)
  | ((with_reducible apply rc_lenT); walk_at "hp") | ((with_reducible apply rc_lenZ); walk_at "num"))
local macro_rules | `(tactic| walk_at "ev") => `(tactic| first
  | (with_reducible exact ev_c)
  | ((with_reducible apply ev_var); rfl)
  | ((with_reducible apply ev_op); (walk_at "ev"); (walk_at "ev"); (walk_at "rv"))
  | ((with_reducible apply ev_un); (walk_at "ev"); (exact ru_neg))
  | ((with_reducible apply ev_cb); (walk_at "ev"); (walk_at "rc"))
  | ((with_reducible apply ev_andV); (walk_at "ev"); (intro _; walk_at "ev"))
  | ((with_reducible apply ev_chain); (walk_at "ev"); (walk_at "ev"); (walk_at "rv"); (intro _; walk_at "ev"); (intro _; walk_at "rv"))
  | (with_reducible exact ea_nil)
  | ((with_reducible apply ea_cons); (walk_at "ev"); (walk_at "ev"))
  | ((with_reducible apply et_test); (walk_at "ev"))
  | ((with_reducible apply et_B); (walk_at "ev"))
  | ((with_reducible apply et_and); (walk_at "ev"); (intro _; walk_at "ev"))
  | ((with_reducible apply et_or); (walk_at "ev"); (intro _; walk_at "ev"))
  | ((with_reducible apply et_not); (walk_at "ev"))
  | (with_reducible exact eo_none)
  | ((with_reducible apply eo_some); (walk_at "ev")))
local macro_rules | `(tactic| walk_at "sz") => `(tactic| exact Nat.le_of_ble_eq_true rfl)
local macro_rules | `(tactic| walk_at "as") => `(tactic| ((with_reducible apply es_asg); (walk_at "ev")))
local macro_rules | `(tactic| walk_at "tp") => `(tactic| ((with_reducible apply ep_tup); (walk_at "ev"); (walk_at "sz")))
local macro_rules | `(tactic| walk_at "no") => `(tactic| ((with_reducible apply es_whenF); ((with_reducible apply et_is); (walk_at "ev"); (decide +kernel))))
local macro_rules | `(tactic| walk_at "yes") => `(tactic| ((with_reducible apply es_whenT); ((with_reducible apply et_is); (walk_at "ev"); (decide +kernel))))
section
variable {P : Program} {w : World} {K : PySem.W.Frag} {mg : Str → Option Value} {base : Heap}
/-- a tuple that C tells -/
def AnTup (C : List V → Hp → Prop) : V → Hp → Prop := fun v H => ∃ b ys, v = .ref b ∧ H b = some (.tup ys) ∧ C ys H
section
variable {R : Rl} [Rel R] {σ : L2.St} {H : Hp} {ta tb te : TE} {tr : TA}
theorem ep_catX {C1 C2 C : List V → Hp → Prop} (ha : EvP R ta σ H (AnTup C1)) (hb : ∀ H1, R H H1 → EvP R tb σ H1 (AnTup C2)) (hC : ∀ xs ys H1 H2 H3, R H H1 → R H1 H2 → R H2 H3 → C1 xs H1 → C2 ys H2 → xs.length + ys.length ≤ 1000 ∧ C (xs ++ ys) H3) : EvP R (tOp (rCatA K) ta tb) σ H (AnTup C) := by
  refine ep_opL ha ?_
  rintro x H1 e1 ⟨a, xs, rfl, h1, c1⟩
  refine ep_opR ev_c (hb H1 e1) ?_
  rintro y H2 e2 ⟨b, ys, rfl, h2, c2⟩
  have hz : (1000 : Nat) ≤ sizeLine := Nat.le_of_ble_eq_true rfl
  refine EvP.imp (rp_catT (K := K) (Rel.tup e2 h1) h2 (by have := (hC xs ys H1 H2 H2 e1 e2 (Rel.refl _) c1 c2).1; omega)) ?_
  rintro v H3 e3 ⟨p, rfl, hp⟩
  exact ⟨p, _, rfl, hp, (hC xs ys H1 H2 H3 e1 e2 e3 c1 c2).2⟩
theorem ep_newT {xs : List V} (h : EvP R te σ H (NewT xs)) : EvP R te σ H (AnTup fun ys _ => ys = xs) := EvP.imp h fun v H2 _ ⟨p, h1, h2⟩ => ⟨p, xs, h1, h2, rfl⟩
/-- (e,) -/
theorem ep_one {P : V → Hp → Prop} (h : EvP R te σ H P) (st : ∀ v H H', R H H' → P v H → P v H') : EvP R (tTup (tCons te tNil)) σ H (AnTup fun ys H2 => ∃ v, ys = [v] ∧ P v H2) :=
  ep_tupP (PA := fun vs H2 => ∃ v, vs = [v] ∧ P v H2) (eap_one h) (fun vs H1 ⟨v, h1, _⟩ => by rw [h1]; exact Nat.le_of_ble_eq_true rfl) fun vs H1 p e ⟨v, h1, h2⟩ hp => ⟨p, vs, rfl, upd_same, v, h1, st _ _ _ (Rel.new hp) h2⟩
end
def PrimT (d : Id3) : List V → Hp → Prop := fun ys H => ∃ (p : Prim) (pa : Addr) (cv : V), ys = p.vs pa cv ∧ IntsAt H pa p.pts ∧ ORect H cv p.clip ∧ p.ok ∧ p.who = d
def OkPrim (d : Id3) : V → Hp → Prop := fun v H => ∃ b p, v = .ref b ∧ PrimAt H b p ∧ p.ok ∧ p.who = d
theorem okPrim_of {d : Id3} {v : V} {H : Hp} (h : AnTup (PrimT d) v H) : OkPrim d v H := let ⟨b, ys, h1, h2, p, pa, cv, h3, h4, h5, h6, h7⟩ := h; ⟨b, p, h1, ⟨pa, cv, by rw [← h3]; exact h2, h4, h5⟩, h6, h7⟩
theorem at0_set {pts : List Int} {k : Nat} {x : Int} (hk : k < pts.length) (j : Nat) : at0 (pts.take k ++ (x :: pts.drop (k + 1))) j = if j = k then x else at0 pts j := by
  unfold at0
  simp only [List.getD_eq_getElem?_getD]
  rw [List.getElem?_append]
  have hl : (pts.take k).length = k := by rw [List.length_take]; omega
  rw [hl]
  by_cases h1 : j < k
  · rw [if_pos h1, if_neg (by omega), List.getElem?_take, if_pos h1]
  · rw [if_neg h1]
    by_cases h2 : j = k
    · subst h2
      simp
    · rw [if_neg h2, show j - k = (j - k - 1) + 1 by omega, List.getElem?_cons_succ, List.getElem?_drop]
      congr 2
      omega
theorem bump_ok {p : Prim} (h : p.ok) (hs : ∀ n ∈ p.pts, Sm n) {k : Nat} {x : Int} (hx : p.pts[k]? = some x) : Prim.ok { p with pts := p.pts.take k ++ ((x + 1) :: p.pts.drop (k + 1)) } := by
  have hk : k < p.pts.length := (List.getElem?_eq_some_iff.mp hx).1
  have hxs := hs x (List.mem_of_getElem? hx)
  have hl : (p.pts.take k ++ ((x + 1) :: p.pts.drop (k + 1))).length = p.pts.length := by
    rw [List.length_append, List.length_cons, List.length_take, List.length_drop]
    omega
  refine ⟨h.who, ⟨fun n hn => ?_, ?_⟩, h.text, h.asc⟩
  · rcases List.mem_append.mp hn with h1 | h1
    · exact h.pts.1 n (List.mem_of_mem_take h1)
    · rcases List.mem_cons.mp h1 with h1 | h1
      · rw [h1]
        exact ⟨by have := hxs.1; omega, by have := hxs.2; omega⟩
      · exact h.pts.1 n (List.mem_of_mem_drop h1)
  · have h2 := h.pts.2
    show match p.sh with | .rect => _ | .line => _ | .poly => _ | .circ => _ | _ => _
    revert h2
    cases p.sh with
    | circ =>
      rintro ⟨g1, g2⟩
      refine ⟨by rw [hl]; exact g1, ?_⟩
      rw [at0_set hk]
      split
      · rename_i e
        subst e
        unfold at0 at g2
        rw [List.getD_eq_getElem?_getD, hx] at g2
        have g2 : 0 ≤ x := g2
        omega
      · exact g2
    | rect => intro g; show (_ : List Int).length = 4; rw [hl]; exact g
    | line => intro g; show (_ : List Int).length = 4; rw [hl]; exact g
    | poly => intro g; show (_ : List Int).length % 2 = 0 ∧ 2 ≤ (_ : List Int).length ∧ (_ : List Int).length ≤ 20; rw [hl]; exact g
    | ts => intro g; show (_ : List Int).length = 2; rw [hl]; exact g
    | tm => intro g; show (_ : List Int).length = 2; rw [hl]; exact g
    | te => intro g; show (_ : List Int).length = 2; rw [hl]; exact g
theorem pts_pos {p : Prim} (h : p.ok) : 1 ≤ p.pts.length ∧ p.pts.length ≤ 20 := by
  have h2 := h.pts.2
  revert h2
  cases p.sh with
  | circ => rintro ⟨g, _⟩; omega
  | poly => rintro ⟨_, g1, g2⟩; omega
  | _ => intro g; have g : p.pts.length = _ := g; omega
def sp_l_changed_item (K : PySem.W.Frag) : Sp := fun vs H Q _ => ∃ t l ns a p, vs = [.ref t, .ref a, .int 10] ∧ TapeAt t l ns H ∧ PrimAt H a p ∧ POk p ∧ ∀ v H2, Tp t l ns H H2 → OkPrim p.who v H2 → Q v H2
theorem ok_l_changed_item (T : Txt K mg) : FnOk P w K mg base CX0 4 (He.ga K "_law_changed_item") (fdOf K (He.ga K "_law_changed_item")) p_l_changed_item (sp_l_changed_item K) := by
  refine T.l_changed_item.fn.ok sc_l_changed_item (fun vs H Q E h => ?_) (fun cdv A outer s H vs Q E hr h => ?_)
  · obtain ⟨t, l, ns, a, p, rfl, tk, ha, hp, q⟩ := h
    rfl
  · obtain ⟨t, l, ns, a, p, rfl, tk, ha, hp, q⟩ := h
    refine ⟨_, (pss_cons (ps_set (i := 3) sc_l_changed_item.nd rfl (Or.inl rfl) (pe_call (ok_l_draw T) (hr.mono (by decide)) (by rfl) T.l_draw.mg T.l_draw.fn.kp (bd_l_draw T) .nil pass0 (pa_cons (pv 0) (pa_cons pe_int pa_nil)))) (pss_cons (ps_if (pt_cmpR op_eq (pv 3) pe_int (nomark _)) (pss_one (ps_ret (pe_op (r := rCatA K) op_catA (pe_op (r := rCatA K) op_catA (pe_slice (r := rSlA K) sl_tupA (pv 1) po_none (po_some pe_int)) (pe_call (ok_l_form T) (hr.mono (by decide)) (by rfl) T.l_form.mg T.l_form.fn.kp (bd_l_form T) .nil pass0 (pa_cons (pv 0) (pa_cons (pv 2) pa_nil)))) (pe_slice (r := rSlA K) sl_tupA (pv 1) (po_some pe_int) po_none)))) pss_nil) (pss_cons (ps_if (PW.pt (pw_or (pt_cmpR op_eq (pv 3) pe_int (nomark _)) (pw_or1 (pt_cmpR op_eq (pv 3) pe_int (nomark _))))) (pss_cons (ps_set (i := 4) sc_l_changed_item.nd rfl (Or.inl rfl) (pe_call (ok_l_draw T) (hr.mono (by decide)) (by rfl) T.l_draw.mg T.l_draw.fn.kp (bd_l_draw T) .nil pass0 (pa_cons (pv 0) (pa_cons (pe_callB (r := rLenQ K) cb_lenQ (by rfl) T.b_len PySem.boot_len (pa_cons (pe_ix (r := rIxT K) ix_tup (pv 1) pe_int (fun _ _ => rfl)) pa_nil)) pa_nil)))) (pss_one (ps_ret (pe_op (r := rCatA K) op_catA (pe_op (r := rCatA K) op_catA (pe_slice (r := rSlA K) sl_tupA (pv 1) po_none (po_some pe_int)) (pe_tup (pa_cons (pe_op (r := rCatA K) op_catA (pe_op (r := rCatA K) op_catA (pe_slice (r := rSlA K) sl_tupA (pe_ix (r := rIxT K) ix_tup (pv 1) pe_int (fun _ _ => rfl)) po_none (po_some (pv 4))) (pe_tup (pa_cons (pe_op op_add (pe_ix (r := rIxT K) ix_tup (pe_ix (r := rIxT K) ix_tup (pv 1) pe_int (fun _ _ => rfl)) (pv 4) (fun _ _ => rfl)) pe_int) pa_nil))) (pe_slice (r := rSlA K) sl_tupA (pe_ix (r := rIxT K) ix_tup (pv 1) pe_int (fun _ _ => rfl)) (po_some (pe_op op_add (pv 4) pe_int)) po_none)) pa_nil))) (pe_slice (r := rSlA K) sl_tupA (pv 1) (po_some pe_int) po_none))))) pss_nil) (pss_cons (ps_if (pt_cmpR op_eq (pv 3) pe_int (nomark _)) (pss_one (ps_ret (pe_op (r := rCatA K) op_catA (pe_op (r := rCatA K) op_catA (pe_slice (r := rSlA K) sl_tupA (pv 1) po_none (po_some pe_int)) (pe_tup (pa_cons (pe_call (ok_l_color T) (hr.mono (by decide)) (by rfl) T.l_color.mg T.l_color.fn.kp (bd_l_color T) .nil pass0 (pa_cons (pv 0) pa_nil)) pa_nil))) (pe_slice (r := rSlA K) sl_tupA (pv 1) (po_some pe_int) po_none)))) pss_nil) (pss_cons (ps_if (pt_cmpR op_eq (pv 3) pe_int (nomark _)) (pss_one (ps_ret (pe_op (r := rCatA K) op_catA (pe_op (r := rCatA K) op_catA (pe_slice (r := rSlA K) sl_tupA (pv 1) po_none (po_some pe_int)) (pe_tup (pa_cons (pe_call (ok_l_color T) (hr.mono (by decide)) (by rfl) T.l_color.mg T.l_color.fn.kp (bd_l_color T) .nil pass0 (pa_cons (pv 0) pa_nil)) pa_nil))) (pe_slice (r := rSlA K) sl_tupA (pv 1) (po_some pe_int) po_none)))) pss_nil) (pss_one (ps_ret (pe_op (r := rCatA K) op_catA (pe_slice (r := rSlA K) sl_tupA (pv 1) po_none (po_some pe_int)) (pe_tup (pa_cons (pe_call (ok_l_clip T) (hr.mono (by decide)) (by rfl) T.l_clip.mg T.l_clip.fn.kp (bd_l_clip T) .nil pass0 (pa_cons (pv 0) (pa_cons (pv 2) pa_nil))) pa_nil)))))))))), ?_⟩
    refine EvS.run (R := Tp t l ns) (φ := OkPrim p.who) ?_ fun v H2 e2 p => q v H2 e2 p
    refine es_asgP (ep_draw (K := K) (m := 6) tk (ev_var rfl) ev_c ⟨by decide, by decide⟩) ?_
    rintro v H1 e1 ⟨pt, rfl, hpt⟩
    have tk := tk.keep e1
    have ha := ha.keep e1
    obtain ⟨pa, cv, g1, g2, g3⟩ := id ha
    obtain ⟨hpo, hsm⟩ := hp
    have sl : ∀ {lo hi : Option Int} {tl th : TO} {σ : L2.St} {H2 : Hp}, Tp t l ns H1 H2 → σ[1]? = some (some (.ref a)) → EvO (Tp t l ns) tl σ H2 lo → EvO (Tp t l ns) th σ H2 hi → EvP (Tp t l ns) (tSl (rSlA K) (tVar 1) tl th) σ H2 (AnTup fun ys _ => ys = cutV (p.vs pa cv) lo hi) := fun e h h1 h2 =>
      ep_newT (ep_slT (K := K) (ev_var h) h1 h2 (Rel.tup e g1))
    refine es_when (b := decide (V.int pt = .int 0)) (by walk_at "ev") (fun _ => ?_) fun _ => ?_
    · apply es_retP
      · refine ep_catX (K := K) (C := PrimT p.who) (ep_catX (K := K) (C := fun ys H2 => ∃ sh qa pts z, ys = [oI p.who.plot, .str p.who.role, .str p.who.key, .str (Sh.str sh), .ref qa, .str z] ∧ IntsAt H2 qa pts ∧ PtsSm sh pts ∧ Asc z ∧ z.length ≤ 5) (C2 := fun ys H2 => ∃ sh qa pts z, ys = [.str (Sh.str sh), .ref qa, .str z] ∧ IntsAt H2 qa pts ∧ PtsSm sh pts ∧ Asc z ∧ z.length ≤ 5) (sl (lo := none) (hi := some 3) (Rel.refl _) rfl eo_none (eo_some ev_c)) (fun H2 e2 => EvP.imp (ep_formC (K := K) (tk.keep e2) (ev_var rfl) (ev_var rfl)) fun v H3 _ ⟨b, sh, qa, pts, z, x1, x2, x3⟩ => ⟨b, _, x1, x2, sh, qa, pts, z, rfl, x3⟩) ?_) (fun H2 e2 => sl (lo := some 6) (hi := none) e2 rfl (eo_some ev_c) eo_none) ?_
        · rintro xs ys Ha Hb Hc _ ea eb rfl ⟨sh, qa, pts, z, rfl, x2, x3⟩
          exact ⟨Nat.le_of_ble_eq_true rfl, sh, qa, pts, z, rfl, Rel.tup eb x2, x3⟩
        · rintro xs ys Ha Hb Hc e0 ea eb ⟨sh, qa, pts, z, rfl, x2, x3, x4, x5⟩ rfl
          exact ⟨Nat.le_of_ble_eq_true rfl, { p with sh := sh, pts := pts, text := z }, qa, cv, rfl, Rel.tup (Rel.trans ea eb) x2, g3.keep (Rel.trans e0 (Rel.trans ea eb)), ⟨hpo.who, x3.1, by show z.length ≤ 100; omega, x4, hpo.asc.2.1, hpo.asc.2.2⟩, rfl⟩
      · exact fun v H2 e h => okPrim_of h
    refine es_when (b := decide (V.int pt = .int 1) || decide (V.int pt = .int 2)) (by walk_at "ev") (fun _ => ?_) fun _ => ?_
    · obtain ⟨l1, l2⟩ := pts_pos hpo
      refine es_asgP (ep_draw (K := K) (m := ((p.pts.map V.int).length : Int)) tk (ev_var rfl) (ev_cb (ea_cons (ev_op (ev_var rfl) ev_c (rv_ixT g1 rfl)) ea_nil) (rc_lenT g2)) ⟨by rw [List.length_map]; omega, by rw [List.length_map]; omega⟩) ?_
      rintro v H2 e2 ⟨d, rfl, hd0, hd1⟩
      have g1 := Rel.tup e2 g1
      have g2 := Rel.tup e2 g2
      have g3 := g3.keep e2
      rw [List.length_map] at hd1
      obtain ⟨k, rfl⟩ := Int.eq_ofNat_of_zero_le hd0
      have hk : k < p.pts.length := by omega
      obtain ⟨x, hx⟩ : ∃ x, p.pts[k]? = some x := ⟨_, List.getElem?_eq_getElem hk⟩
      have it : ∀ {σ : L2.St} {H3 : Hp}, Tp t l ns H2 H3 → σ[1]? = some (some (.ref a)) → Ev (Tp t l ns) (tOp (rIxT K) (tVar 1) (tC (.int 4))) σ H3 (.ref pa) := fun e h => ev_op (ev_var h) ev_c (rv_ixT (Rel.tup e g1) rfl)
      have sl2 : ∀ {lo hi : Option Int} {tl th : TO} {σ : L2.St} {H3 : Hp}, Tp t l ns H2 H3 → σ[1]? = some (some (.ref a)) → EvO (Tp t l ns) tl σ H3 lo → EvO (Tp t l ns) th σ H3 hi → EvP (Tp t l ns) (tSl (rSlA K) (tVar 1) tl th) σ H3 (AnTup fun ys _ => ys = cutV (p.vs pa cv) lo hi) := fun e h h1 h2 =>
        ep_newT (ep_slT (K := K) (ev_var h) h1 h2 (Rel.tup e g1))
      have hlen : (p.pts.take k).length + ([x + 1] : List Int).length + (p.pts.drop (k + 1)).length ≤ 1000 := by
        rw [List.length_take, List.length_drop, List.length_singleton]
        omega
      have c1 : cutV (p.pts.map V.int) none (some ((k : Nat) : Int)) = (p.pts.take k).map V.int := by
        unfold cutV
        rw [HT.sIx_nat, List.length_map, Nat.min_eq_left (by omega), List.map_take]
        rfl
      have c2 : cutV (p.pts.map V.int) (some ((k : Nat) + 1 : Int)) none = (p.pts.drop (k + 1)).map V.int := by
        unfold cutV
        rw [show ((k : Nat) + 1 : Int) = ((k + 1 : Nat) : Int) by omega, HT.sIx_nat, List.length_map, Nat.min_eq_left (by omega), List.map_drop]
        show ((p.pts.map V.int).drop (k + 1)).take (p.pts.length - (k + 1)) = _
        rw [List.take_of_length_le]
        rw [List.length_drop, List.length_map]
        omega
      apply es_retP
      · refine ep_catX (K := K) (C := PrimT p.who) (C1 := fun ys H3 => ∃ qa, ys = [oI p.who.plot, .str p.who.role, .str p.who.key, .str p.sh.str, .ref qa] ∧ IntsAt H3 qa (p.pts.take k ++ ((x + 1) :: p.pts.drop (k + 1)))) (ep_catX (K := K) (C2 := fun ys H3 => ∃ v, ys = [v] ∧ ∃ qa, v = .ref qa ∧ IntsAt H3 qa (p.pts.take k ++ ((x + 1) :: p.pts.drop (k + 1)))) (sl2 (lo := none) (hi := some 4) (Rel.refl _) rfl eo_none (eo_some ev_c)) (fun H3 e3 => ep_one (EvP.imp (P := AnTup fun ys _ => ys = (p.pts.take k ++ ((x + 1) :: p.pts.drop (k + 1))).map V.int) (ep_catX (K := K) (C1 := fun ys _ => ys = (p.pts.take k).map V.int ++ [.int (x + 1)]) (ep_catX (K := K) (C1 := fun ys _ => ys = (p.pts.take k).map V.int) (C2 := fun ys _ => ys = [.int (x + 1)]) (c1 ▸ ep_newT (ep_slT (K := K) (lo := none) (hi := some ((k : Nat) : Int)) (it e3 rfl) eo_none (eo_some (ev_var rfl)) (Rel.tup e3 g2))) (fun H4 e4 => ep_newT (ep_tup (ea_cons (ev_op (ev_op (it (Rel.trans e3 e4) rfl) (ev_var rfl) (rv_ixT (v := .int x) (Rel.tup (Rel.trans e3 e4) g2) (atI_nat (by rw [List.getElem?_map, hx]; rfl)))) ev_c rv_I0) ea_nil) (by walk_at "sz"))) ?_) (fun H4 e4 => c2 ▸ ep_newT (ep_slT (K := K) (lo := some ((k : Nat) + 1 : Int)) (hi := none) (it (Rel.trans e3 e4) rfl) (eo_some (ev_op (ev_var rfl) ev_c rv_I0)) eo_none (Rel.tup (Rel.trans e3 e4) g2))) ?_) fun v H4 e4 ⟨b, ys, y1, y2, y3⟩ => ⟨b, y1, y2.trans (congrArg (fun z => some (HO.tup z)) y3)⟩) fun v Ha Hb e ⟨qa, y1, y2⟩ => ⟨qa, y1, Rel.tup e y2⟩) ?_) (fun H3 e3 => sl2 (lo := some 5) (hi := none) e3 rfl (eo_some ev_c) eo_none) ?_
        · rintro xs ys Ha Hb Hc _ ea eb rfl rfl
          refine ⟨?_, rfl⟩
          rw [List.length_map]
          show (p.pts.take k).length + 1 ≤ 1000
          rw [List.length_singleton] at hlen
          omega
        · rintro xs ys Ha Hb Hc _ ea eb rfl rfl
          refine ⟨?_, ?_⟩
          · rw [List.length_append, List.length_map, List.length_map]
            exact hlen
          · rw [List.map_append, List.append_assoc]
            rfl
        · rintro xs ys Ha Hb Hc _ ea eb rfl ⟨v, rfl, qa, rfl, hq⟩
          exact ⟨Nat.le_of_ble_eq_true rfl, qa, rfl, Rel.tup eb hq⟩
        · rintro xs ys Ha Hb Hc e0 ea eb ⟨qa, rfl, hq⟩ rfl
          exact ⟨Nat.le_of_ble_eq_true rfl, { p with pts := p.pts.take k ++ ((x + 1) :: p.pts.drop (k + 1)) }, qa, cv, rfl, Rel.tup (Rel.trans ea eb) hq, g3.keep (Rel.trans e0 (Rel.trans ea eb)), bump_ok hpo hsm hx, rfl⟩
      · exact fun v H3 e h => okPrim_of h
    refine es_when (b := decide (V.int pt = .int 3)) (by walk_at "ev") (fun _ => ?_) fun _ => ?_
    · apply es_retP
      · refine ep_catX (K := K) (C := PrimT p.who) (C1 := fun ys H3 => ∃ o, ys = [oI p.who.plot, .str p.who.role, .str p.who.key, .str p.sh.str, .ref pa, .str p.text, oS o] ∧ ∀ z, o = some z → Asc z) (ep_catX (K := K) (sl (lo := none) (hi := some 6) (Rel.refl _) rfl eo_none (eo_some ev_c)) (fun H3 e3 => ep_one (ep_color (K := K) (tk.keep e3) (ev_var rfl)) fun v Ha Hb e h => h) ?_) (fun H3 e3 => sl (lo := some 7) (hi := none) e3 rfl (eo_some ev_c) eo_none) ?_
        · rintro xs ys Ha Hb Hc _ ea eb rfl ⟨v, rfl, o, rfl, ho⟩
          exact ⟨Nat.le_of_ble_eq_true rfl, o, rfl, ho⟩
        · rintro xs ys Ha Hb Hc e0 ea eb ⟨o, rfl, ho⟩ rfl
          exact ⟨Nat.le_of_ble_eq_true rfl, { p with fill := o }, pa, cv, rfl, Rel.tup (Rel.trans e0 (Rel.trans ea eb)) g2, g3.keep (Rel.trans e0 (Rel.trans ea eb)), ⟨hpo.who, hpo.pts, hpo.text, hpo.asc.1, ho, hpo.asc.2.2⟩, rfl⟩
      · exact fun v H3 e h => okPrim_of h
    refine es_when (b := decide (V.int pt = .int 4)) (by walk_at "ev") (fun _ => ?_) fun _ => ?_
    · apply es_retP
      · refine ep_catX (K := K) (C := PrimT p.who) (C1 := fun ys H3 => ∃ o, ys = [oI p.who.plot, .str p.who.role, .str p.who.key, .str p.sh.str, .ref pa, .str p.text, oS p.fill, oS o] ∧ ∀ z, o = some z → Asc z) (ep_catX (K := K) (sl (lo := none) (hi := some 7) (Rel.refl _) rfl eo_none (eo_some ev_c)) (fun H3 e3 => ep_one (ep_color (K := K) (tk.keep e3) (ev_var rfl)) fun v Ha Hb e h => h) ?_) (fun H3 e3 => sl (lo := some 8) (hi := none) e3 rfl (eo_some ev_c) eo_none) ?_
        · rintro xs ys Ha Hb Hc _ ea eb rfl ⟨v, rfl, o, rfl, ho⟩
          exact ⟨Nat.le_of_ble_eq_true rfl, o, rfl, ho⟩
        · rintro xs ys Ha Hb Hc e0 ea eb ⟨o, rfl, ho⟩ rfl
          exact ⟨Nat.le_of_ble_eq_true rfl, { p with stroke := o }, pa, cv, rfl, Rel.tup (Rel.trans e0 (Rel.trans ea eb)) g2, g3.keep (Rel.trans e0 (Rel.trans ea eb)), ⟨hpo.who, hpo.pts, hpo.text, hpo.asc.1, hpo.asc.2.1, ho⟩, rfl⟩
      · exact fun v H3 e h => okPrim_of h
    apply es_retP
    · refine ep_catX (K := K) (C := PrimT p.who) (sl (lo := none) (hi := some 8) (Rel.refl _) rfl eo_none (eo_some ev_c)) (fun H3 e3 => ep_one (ep_clip (K := K) (tk.keep e3) (ev_var rfl) (ev_var rfl) ⟨by decide, by decide⟩) fun v Ha Hb e ⟨o, h⟩ => ⟨o, h.keep e⟩) ?_
      rintro xs ys Ha Hb Hc e0 ea eb rfl ⟨v, rfl, o, ho⟩
      exact ⟨Nat.le_of_ble_eq_true rfl, { p with clip := o }, pa, v, rfl, Rel.tup (Rel.trans e0 (Rel.trans ea eb)) g2, ho.keep eb, ⟨hpo.who, hpo.pts, hpo.text, hpo.asc⟩, rfl⟩
    · exact fun v H3 e h => okPrim_of h
end
end Cs

namespace Cs
open PySem PySem.Spec PyProof.Rows L2
local macro_rules | `(tactic| walk_at "hp") => `(tactic| first | assumption)
local macro_rules | `(tactic| walk_at "num") => `(tactic| first | assumption | omega | decide)
local macro_rules | `(tactic| walk_at "rv") => `(tactic| first
  | (with_reducible exact rv_I0)
  | ((with_reducible apply rv_ixT); (walk_at "hp"); (rfl))
  | ((with_reducible apply rv_eq); (rfl))
  | ((with_reducible apply rv_ne); (rfl))
  | (with_reducible exact rv_isN)
  | (with_reducible exact rv_notN)
  | (with_reducible exact rv_inS)
  | ((with_reducible apply rv_I); (first | exact Or.inr ⟨by walk_at "num", by walk_at "num"⟩ | exact Or.inl ⟨by walk_at "num", by walk_at "num"⟩ | exact ⟨by walk_at "num", by walk_at "num"⟩ | exact ⟨by walk_at "num", by walk_at "num", by walk_at "num"⟩ | walk_at "num"))
  | ((with_reducible apply rv_ixS) <;> walk_at "num"))
local macro_rules | `(tactic| walk_at "rc") => `(tactic| first
  | (with_reducible exact rc_abs) | (with_reducible exact rc_max2) | (with_reducible exact rc_min2) | (with_reducible exact rc_int1)
  | ((with_reducible apply rc_lenT); walk_at "hp") | ((with_reducible apply rc_lenZ); walk_at "num"))
local macro_rules | `(tactic| walk_at "ev") => `(tactic| first
  | (with_reducible exact ev_c)
  | ((with_reducible apply ev_var); rfl)
  | ((with_reducible apply ev_op); (walk_at "ev"); (walk_at "ev"); (walk_at "rv"))
  | ((with_reducible apply ev_un); (walk_at "ev"); (exact ru_neg))
  | ((with_reducible apply ev_cb); (walk_at "ev"); (walk_at "rc"))
  | ((with_reducible apply ev_andV); (walk_at "ev"); (intro _; walk_at "ev"))
  | ((with_reducible apply ev_chain); (walk_at "ev"); (walk_at "ev"); (walk_at "rv"); (intro _; walk_at "ev"); (intro _; walk_at "rv"))
  | (with_reducible exact ea_nil)
  | ((with_reducible apply ea_cons); (walk_at "ev"); (walk_at "ev"))
  | ((with_reducible apply et_test); (walk_at "ev"))
  | ((with_reducible apply et_B); (walk_at "ev"))
  | ((with_reducible apply et_and); (walk_at "ev"); (intro _; walk_at "ev"))
  | ((with_reducible apply et_or); (walk_at "ev"); (intro _; walk_at "ev"))
  | ((with_reducible apply et_not); (walk_at "ev"))
  | (with_reducible exact eo_none)
  | ((with_reducible apply eo_some); (walk_at "ev")))
local macro_rules | `(tactic| walk_at "sz") => `(tactic| exact Nat.le_of_ble_eq_true rfl)
local macro_rules | `(tactic| walk_at "as") => `(tactic| ((with_reducible apply es_asg); (walk_at "ev")))
local macro_rules | `(tactic| walk_at "tp") => `(tactic| ((with_reducible apply ep_tup); (walk_at "ev"); (walk_at "sz")))
local macro_rules | `(tactic| walk_at "no") => `(tactic| ((with_reducible apply es_whenF); ((with_reducible apply et_is); (walk_at "ev"); (decide +kernel))))
local macro_rules | `(tactic| walk_at "yes") => `(tactic| ((with_reducible apply es_whenT); ((with_reducible apply et_is); (walk_at "ev"); (decide +kernel))))
section
variable {P : Program} {w : World} {K : PySem.W.Frag} {mg : Str → Option Value} {base : Heap}
theorem pts_when {t : TT} {ts us : TS} {σ : L2.St} {H : Hp} {b : Bool} {φ : V → Hp → Prop} {ψ : L2.St → Hp → Prop} (h : EvT Same t σ H b) (h1 : b = true → ∀ H1, Same H H1 → PtS ts σ H1 φ Out) (h2 : b = false → ∀ H1, Same H H1 → PtS us σ H1 φ ψ) : PtS (tSeq (tIfS t ts tNext) us) σ H φ ψ := fun D q n =>
  h H (Same.refl H) _ fun H1 e1 => by
    cases b with
    | true => exact iteT (h1 rfl H1 e1 _ q fun _ _ f => f.elim)
    | false => exact iteF (h2 rfl H1 e1 D q n)
theorem pair_perm {α β : Type} {F : α → β → Prop} {l1 l1' : List α} (h : l1'.Perm l1) : ∀ {l2 : List β}, Paired F l1 l2 → ∃ l2', l2'.Perm l2 ∧ Paired F l1' l2' := by
  induction h with
  | nil => exact fun h => ⟨_, List.Perm.refl _, h⟩
  | cons x p ih =>
    intro l2 h
    cases h with
    | cons h t =>
      obtain ⟨m, h1, h2⟩ := ih t
      exact ⟨_ :: m, h1.cons _, .cons h h2⟩
  | swap x y l =>
    intro l2 h
    cases h with
    | cons h t => cases t with
      | cons h' t' => exact ⟨_, List.Perm.swap _ _ _, .cons h' (.cons h t')⟩
  | trans p1 p2 ih1 ih2 =>
    intro l2 h
    obtain ⟨m, h1, h2⟩ := ih2 h
    obtain ⟨m', h3, h4⟩ := ih1 h2
    exact ⟨m', h3.trans h1, h4⟩
theorem map_erase {α β : Type} {f : α → β} : ∀ (l : List α) (n : Nat), (l.map f).eraseIdx n = (l.eraseIdx n).map f
  | [], _ => rfl
  | _ :: _, 0 => rfl
  | a :: l, n + 1 => by
    show f a :: (l.map f).eraseIdx n = f a :: (l.eraseIdx n).map f
    rw [map_erase l n]
theorem erase_perm {α : Type} : ∀ {l : List α} {n : Nat} {c : α}, l[n]? = some c → (c :: l.eraseIdx n).Perm l
  | [], _, _, h => by simp at h
  | a :: l, 0, c, h => by
    simp at h
    subst h
    exact List.Perm.refl _
  | a :: l, n + 1, c, h => by
    have ih := erase_perm (l := l) (n := n) (c := c) (by simpa using h)
    exact (List.Perm.swap a c (l.eraseIdx n)).trans (ih.cons a)
def rIns : V → List V → Hp → VK → Prop := fun x vs H Q => ∃ (l : Addr) (xs : List V) (i : Int) (y : V), x = .ref l ∧ vs = [.int i, y] ∧ H l = some (.lst xs) ∧ xs.length < sizeLine ∧ 0 ≤ i ∧ i < 2 ^ 63 ∧ Q .non (upd H l (.lst (xs.take i.toNat ++ [y] ++ xs.drop i.toNat)))
theorem seqIx {n i : Nat} (h : i < n) : seqIndex? ((i : Nat) : Int) n = some i := (ixN_seq (by
  unfold ixN
  rw [if_pos (by omega), if_pos (by omega)]
  rfl)).1
/-- pop, insert: the same things in another order -/
theorem pts_pop {t l : Addr} {ns : List Int} {σ : L2.St} {H : Hp} {te : TE} {i j : Nat} {p0 : Addr} {xs : List V} {us : TS} {φ : V → Hp → Prop} {ψ : L2.St → Hp → Prop} (h0 : σ[i]? = some (some (.ref p0))) (hl : H p0 = some (.lst xs)) (hp : p0 ≠ t) (hn : xs.length ≤ 1000) (he : EvP (Tp t l ns) te σ H (Dr (xs.length : Int)))
    (k : ∀ (n : Nat) y H2, n < xs.length → xs[n]? = some y → Tp t l ns H H2 → H2 p0 = some (.lst xs) → PtS us (σ.set j (some y)) (upd H2 p0 (.lst (xs.eraseIdx n))) φ ψ) : PtS (tSeq (tAsg (tBM K "list" rPopAt (tVar i) (tCons te tNil)) (gName j)) us) σ H φ ψ := fun D q nx =>
  ⟨.ref p0, h0, .inl ⟨rfl, xs, SqL.of hl⟩, he H (Rel.refl H) _ fun v H2 e ⟨d, hv, hd0, hd1⟩ => by
    subst hv
    obtain ⟨n, rfl⟩ := Int.eq_ofNat_of_zero_le hd0
    have hn2 : n < xs.length := by omega
    exact ⟨p0, xs, (n : Nat), n, xs[n], rfl, rfl, lst_tp e hp hl, by omega, by omega, seqIx hn2, List.getElem?_eq_getElem hn2, k n _ H2 hn2 (List.getElem?_eq_getElem hn2) e (lst_tp e hp hl) D q nx⟩⟩
theorem pts_insert {t l : Addr} {ns : List Int} {σ : L2.St} {H : Hp} {te : TE} {i j : Nat} {p0 : Addr} {xs : List V} {y : V} {φ : V → Hp → Prop} {ψ : L2.St → Hp → Prop} (h0 : σ[i]? = some (some (.ref p0))) (hl : H p0 = some (.lst xs)) (hp : p0 ≠ t) (hn : xs.length ≤ 1000) (hy : σ[j]? = some (some y)) (he : EvP (Tp t l ns) te σ H (Dr ((xs.length : Int) + 1)))
    (k : ∀ (n : Nat) H2, n ≤ xs.length → Tp t l ns H H2 → H2 p0 = some (.lst xs) → ψ σ (upd H2 p0 (.lst (xs.take n ++ [y] ++ xs.drop n)))) : PtS (tDrop (tBM K "list" rIns (tVar i) (tCons te (tCons (tVar j) tNil)))) σ H φ ψ := fun D q nx =>
  ⟨.ref p0, h0, .inl ⟨rfl, xs, SqL.of hl⟩, he H (Rel.refl H) _ fun v H2 e ⟨d, hv, hd0, hd1⟩ => by
    subst hv
    obtain ⟨n, rfl⟩ := Int.eq_ofNat_of_zero_le hd0
    have hz : (100000 : Nat) ≤ sizeLine := Nat.le_of_ble_eq_true rfl
    exact ⟨y, hy, p0, xs, (n : Nat), y, rfl, rfl, lst_tp e hp hl, by omega, by omega, by omega, nx _ _ (k n H2 (by omega) e (lst_tp e hp hl))⟩⟩
theorem insert_perm {α : Type} (xs : List α) (n : Nat) (y : α) : (xs.take n ++ [y] ++ xs.drop n).Perm (y :: xs) := by
  have h := List.perm_middle (a := y) (l₁ := xs.take n) (l₂ := xs.drop n)
  rw [List.take_append_drop] at h
  rw [List.append_assoc]
  exact h
/-- the list as it comes out: other or the same, its things in some order -/
def Turned (H : Hp) (a : Addr) (ps : List Prim) : V → Hp → Prop := fun v H2 => ∃ b as ps', v = .ref b ∧ H2 b = some (.lst (as.map V.ref)) ∧ PrimsAt H2 as ps' ∧ ps'.Perm ps ∧ (b = a ∨ H b = none)
def sp_l_turned_items (K : PySem.W.Frag) : Sp := fun vs H Q _ => ∃ t l ns a as ps, vs = [.ref t, .ref a] ∧ TapeAt t l ns H ∧ (a ≠ t ∧ a ≠ l) ∧ H a = some (.lst (as.map V.ref)) ∧ PrimsAt H as ps ∧ ps.length ≤ 900 ∧ ∀ v H2, Tq t l ns [a] H H2 → Turned H a ps v H2 → Q v H2
theorem tq_mut {t l a : Addr} {ns : List Int} {H H1 : Hp} {xs ys : List V} (e : Tq t l ns [a] H H1) (ha : a ≠ t ∧ a ≠ l) (h1 : H1 a = some (.lst xs)) : Tq t l ns [a] H (upd H1 a (.lst ys)) :=
  ⟨fun b u hb hm h => by
    have hba : b ≠ a := fun z => hm (by rw [z]; exact List.mem_singleton_self a)
    rw [upd_ne hba]
    exact e.keep b u hb hm h, fun b zs h => by
    have hba : b ≠ a := ne_of (e.tup b zs h) h1 (fun z => nomatch z)
    rw [upd_ne hba]
    exact e.tup b zs h, fun b h => by
    by_cases hb : b = a
    · subst hb
      rw [upd_same] at h
      cases h
    · rw [upd_ne hb] at h
      exact e.back b h, fun h => tape_upd (e.tape h) (Ne.symm ha.1) (Ne.symm ha.2)⟩
theorem prims_kt {H : Hp} {a : Addr} {xs ys : List V} {as : List Addr} {ps : List Prim} (h : PrimsAt H as ps) (ha : H a = some (.lst xs)) : PrimsAt (upd H a (.lst ys)) as ps := h.kt (kt_upd ha)
theorem ok_l_turned_items (T : Txt K mg) : FnOk P w K mg base CX0 2 (He.ga K "_law_turned_items") (fdOf K (He.ga K "_law_turned_items")) p_l_turned_items (sp_l_turned_items K) := by
  refine T.l_turned_items.fn.ok sc_l_turned_items (fun vs H Q E h => ?_) (fun cdv A outer s H vs Q E hr h => ?_)
  · obtain ⟨t, l, ns, a, as, ps, rfl, tk, hat, ha, hp, hn, q⟩ := h
    rfl
  · obtain ⟨t, l, ns, a, as, ps, rfl, tk, hat, ha, hp, hn, q⟩ := h
    refine ⟨_, (pss_cons (ps_set (i := 2) sc_l_turned_items.nd rfl (Or.inl rfl) (pe_call (ok_l_draw T) (hr.mono (by decide)) (by rfl) T.l_draw.mg T.l_draw.fn.kp (bd_l_draw T) .nil pass0 (pa_cons (pv 0) (pa_cons pe_int pa_nil)))) (pss_cons (ps_if (pt_cmpR op_eq (pv 2) pe_int (nomark _)) (pss_one (ps_ret (pe_listRev rfl (by rfl) T.b_list (by rfl) T.b_reversed (pv 1)))) pss_nil) (pss_cons (ps_if (PW.pt (pw_and (pt_cmpR op_lt (pv 2) pe_int (nomark _)) (pw_and1 (pt_truth (pv 1) (by intro _; rfl))))) (pss_cons (ps_set (i := 3) sc_l_turned_items.nd rfl (Or.inl rfl) (pe_bm PySem.F.plainAttrs_list PySem.F.slot_list_pop PySem.F.type_list_pop mt_popAt (pv 1) (pa_cons (pe_call (ok_l_draw T) (hr.mono (by decide)) (by rfl) T.l_draw.mg T.l_draw.fn.kp (bd_l_draw T) .nil pass0 (pa_cons (pv 0) (pa_cons (pe_callB (r := rLenQ K) cb_lenQ (by rfl) T.b_len PySem.boot_len (pa_cons (pv 1) pa_nil)) pa_nil))) pa_nil))) (pss_one (ps_expr (pe_bm PySem.F.plainAttrs_list PySem.F.slot_list_insert PySem.F.type_list_insert mt_insert (pv 1) (pa_cons (pe_call (ok_l_draw T) (hr.mono (by decide)) (by rfl) T.l_draw.mg T.l_draw.fn.kp (bd_l_draw T) .nil pass0 (pa_cons (pv 0) (pa_cons (pe_op op_add (pe_callB (r := rLenQ K) cb_lenQ (by rfl) T.b_len PySem.boot_len (pa_cons (pv 1) pa_nil)) pe_int) pa_nil))) (pa_cons (pv 3) pa_nil)))))) pss_nil) (pss_one (ps_ret (pv 1)))))), ?_⟩
    refine PtS.run (φ := fun v H2 => Tq t l ns [a] H H2 ∧ Turned H a ps v H2) ?_ fun v H2 ⟨p1, p2⟩ => q v H2 p1 p2
    have hl := pair_len hp
    refine pts_asg (peT_of (ep_draw (K := K) (m := 6) tk (ev_var rfl) ev_c ⟨by decide, by decide⟩)) ?_
    rintro v H1 ⟨e1, tn, rfl, hd⟩
    have tk1 := tk.keep e1
    have ha1 := lst_tp e1 hat.1 ha
    have hp1 := hp.keep e1
    refine pts_when (b := decide (V.int tn = .int 0)) (by walk_at "ev") (fun _ H2 e2 => ?_) fun _ H2 e2 => ?_
    · refine pts_ret fun Q q => ?_
      have ha2 := e2 _ _ ha1
      refine ⟨.ref a, rfl, a, _, rfl, SqL.of ha2, fun b hb => q _ _ ⟨?_, b, as.reverse, ps.reverse, rfl, by rw [upd_same, List.map_reverse], ?_, List.reverse_perm ps, .inr ?_⟩⟩
      · exact Rel.trans (tq_more e1) (tq_same (e2.trans (same_new hb)))
      · have h3 := (hp1.keep e2).keep (same_new (o := .lst (as.map V.ref).reverse) hb)
        have rev : ∀ {H : Hp} {x : List Addr} {y : List Prim}, PrimsAt H x y → PrimsAt H x.reverse y.reverse := by
          intro H x y r
          unfold PrimsAt at r
          induction r with
          | nil => exact .nil
          | cons h t ih =>
            rw [List.reverse_cons, List.reverse_cons]
            exact pair_snoc ih h
        exact rev h3
      · exact e1.back b (Same.free e2 hb)
    have tk2 := tk1.keep (tq_same (M := []) e2)
    have ha2 := e2 _ _ ha1
    have hp2 := hp1.keep e2
    have e02 : Tp t l ns H H2 := Rel.trans e1 (tq_same e2)
    refine pts_seq (ψ1 := fun σ' H' => (∃ v3, σ' = [some (.ref t), some (.ref a), some (.int tn), v3]) ∧ Tq t l ns [a] H H' ∧ Turned H a ps (.ref a) H') (pts_if1 (pt_of (b := decide (tn < 3) && !(as.map V.ref).isEmpty) (et_and (by walk_at "ev") fun _ => et_truL (K := K) (a := a) (by walk_at "ev") (SqL.of ha2))) ?_ ?_) ?_
    · rintro H3 ⟨hb, e3⟩
      have hne : as ≠ [] := by
        rintro rfl
        rw [Bool.and_comm] at hb
        cases hb
      have ha3 := e3 _ _ ha2
      have tk3 := tk2.keep (tq_same (M := []) e3)
      have hp3 := hp2.keep e3
      have e03 := Rel.trans e02 (tq_same (M := []) e3)
      have hal : 0 < as.length := List.length_pos_iff.mpr hne
      refine pts_pop (K := K) (xs := as.map V.ref) rfl ha3 hat.1 (by rw [List.length_map]; omega) (ep_draw (K := K) tk3 (ev_var rfl) (ev_cb (ea_cons (ev_var rfl) ea_nil) (rc_lenL (K := K) fun H4 e4 => SqL.of (lst_tp e4 hat.1 ha3))) ⟨by rw [List.length_map]; omega, by rw [List.length_map]; omega⟩) ?_
      intro n y H4 hnl hy e4 ha4
      obtain ⟨c, rfl, hc⟩ := map_get hy
      have e04 := Rel.trans e03 e4
      have hp4 := hp3.keep e4
      have tk4 := tk3.keep e4
      have q5 := tq_mut (tq_more (M := [a]) e04) hat ha4 (ys := (as.map V.ref).eraseIdx n)
      have hnl2 : n < as.length := by rw [List.length_map] at hnl; exact hnl
      have hmap : (as.map V.ref).eraseIdx n = (as.eraseIdx n).map V.ref := map_erase _ _
      have tk5 : TapeAt t l ns (upd H4 a (.lst ((as.map V.ref).eraseIdx n))) := tk.keep q5
      have hel : (as.eraseIdx n).length + 1 = as.length := by rw [List.length_eraseIdx_of_lt hnl2]; omega
      refine pts_insert (K := K) (xs := (as.map V.ref).eraseIdx n) (y := .ref c) rfl upd_same hat.1 (by rw [hmap, List.length_map]; omega) rfl (ep_draw (K := K) tk5 (ev_var rfl) (ev_op (ev_cb (ea_cons (ev_var rfl) ea_nil) (rc_lenL (K := K) (xs := (as.map V.ref).eraseIdx n) fun H6 e6 => SqL.of (lst_tp e6 hat.1 upd_same))) ev_c rv_I0) ⟨by omega, by rw [hmap, List.length_map]; omega⟩) ?_
      intro m H6 hm e6 ha6
      refine ⟨⟨_, rfl⟩, tq_mut (Rel.trans q5 (tq_more e6)) hat ha6, a, (as.eraseIdx n).take m ++ [c] ++ (as.eraseIdx n).drop m, ?_⟩
      have hperm : ((as.eraseIdx n).take m ++ [c] ++ (as.eraseIdx n).drop m).Perm as := by
        refine (insert_perm _ _ _).trans ?_
        exact erase_perm hc
      have hp6 : PrimsAt (upd H6 a (.lst (((as.map V.ref).eraseIdx n).take m ++ [.ref c] ++ ((as.map V.ref).eraseIdx n).drop m))) as ps := prims_kt ((prims_kt hp4 ha4).keep e6) ha6
      obtain ⟨ps', x1, x2⟩ := pair_perm hperm hp6
      refine ⟨ps', rfl, ?_, x2, x1, .inl rfl⟩
      rw [upd_same, hmap, List.map_append, List.map_append, List.map_take, List.map_drop]
      rfl
    · rintro H3 ⟨_, e3⟩
      exact pts_next ⟨⟨_, rfl⟩, Rel.trans (tq_more e02) (tq_same e3), a, as, ps, rfl, e3 _ _ ha2, hp2.keep e3, List.Perm.refl _, .inl rfl⟩
    · rintro σ' H3 ⟨⟨v3, rfl⟩, e3, h3⟩
      exact pts_ret fun Q q => ⟨.ref a, rfl, q _ _ ⟨e3, h3⟩⟩
end
end Cs

namespace Cs
open PySem PySem.Spec PyProof.Rows L2
local macro_rules | `(tactic| walk_at "hp") => `(tactic| first | assumption)
local macro_rules | `(tactic| walk_at "num") => `(tactic| first | assumption | omega | decide)
local macro_rules | `(tactic| walk_at "rv") => `(tactic| first
  | (with_reducible exact rv_I0)
  | ((with_reducible apply rv_ixT); (walk_at "hp"); (rfl))
  | ((with_reducible apply rv_eq); (rfl))
  | ((with_reducible apply rv_ne); (rfl))
  | (with_reducible exact rv_isN)
  | (with_reducible exact rv_notN)
  | (with_reducible exact rv_inS)
  | ((with_reducible apply rv_I); (first | exact Or.inr ⟨by walk_at "num", by walk_at "num"⟩ | exact Or.inl ⟨by walk_at "num", by walk_at "num"⟩ | exact ⟨by walk_at "num", by walk_at "num"⟩ | exact ⟨by walk_at "num", by walk_at "num", by walk_at "num"⟩ | walk_at "num"))
  | ((with_reducible apply rv_ixS) <;> walk_at "num"))
local macro_rules | `(tactic| walk_at "rc") => `(tactic| first
  | (with_reducible exact rc_abs) | (with_reducible exact rc_max2) | (with_reducible exact rc_min2) | (with_reducible exact rc_int1)
  | ((with_reducible apply rc_lenT); walk_at "hp") | ((with_reducible apply rc_lenZ); walk_at "num"))
local macro_rules | `(tactic| walk_at "ev") => `(tactic| first
  | (with_reducible exact ev_c)
  | ((with_reducible apply ev_var); rfl)
  | ((with_reducible apply ev_op); (walk_at "ev"); (walk_at "ev"); (walk_at "rv"))
  | ((with_reducible apply ev_un); (walk_at "ev"); (exact ru_neg))
  | ((with_reducible apply ev_cb); (walk_at "ev"); (walk_at "rc"))
  | ((with_reducible apply ev_andV); (walk_at "ev"); (intro _; walk_at "ev"))
  | ((with_reducible apply ev_chain); (walk_at "ev"); (walk_at "ev"); (walk_at "rv"); (intro _; walk_at "ev"); (intro _; walk_at "rv"))
  | (with_reducible exact ea_nil)
  | ((with_reducible apply ea_cons); (walk_at "ev"); (walk_at "ev"))
  | ((with_reducible apply et_test); (walk_at "ev"))
  | ((with_reducible apply et_B); (walk_at "ev"))
  | ((with_reducible apply et_and); (walk_at "ev"); (intro _; walk_at "ev"))
  | ((with_reducible apply et_or); (walk_at "ev"); (intro _; walk_at "ev"))
  | ((with_reducible apply et_not); (walk_at "ev"))
  | (with_reducible exact eo_none)
  | ((with_reducible apply eo_some); (walk_at "ev")))
local macro_rules | `(tactic| walk_at "sz") => `(tactic| exact Nat.le_of_ble_eq_true rfl)
local macro_rules | `(tactic| walk_at "as") => `(tactic| ((with_reducible apply es_asg); (walk_at "ev")))
local macro_rules | `(tactic| walk_at "tp") => `(tactic| ((with_reducible apply ep_tup); (walk_at "ev"); (walk_at "sz")))
local macro_rules | `(tactic| walk_at "no") => `(tactic| ((with_reducible apply es_whenF); ((with_reducible apply et_is); (walk_at "ev"); (decide +kernel))))
local macro_rules | `(tactic| walk_at "yes") => `(tactic| ((with_reducible apply es_whenT); ((with_reducible apply et_is); (walk_at "ev"); (decide +kernel))))
section
variable {P : Program} {w : World} {K : PySem.W.Frag} {mg : Str → Option Value} {base : Heap}
/-- [..][draw], what stands in the list told -/
theorem ep_pickP {t l : Addr} {ns : List Int} {σ : L2.St} {H : Hp} {ta : TA} {td : TE} {m : Int} {PA : List V → Hp → Prop} {P : V → Hp → Prop} (tk : TapeAt t l ns H) (hv : EvAP (Tp t l ns) ta σ H PA) (hl : ∀ vs H1, PA vs H1 → vs.length = m.toNat ∧ vs.length ≤ 100) (hd : ∀ H1, Tp t l ns H H1 → EvP (Tp t l ns) td σ H1 (Dr m)) (hP : ∀ vs H1 H2, PA vs H1 → Tp t l ns H1 H2 → ∀ x ∈ vs, P x H2) :
    EvP (Tp t l ns) (tOp (rIxL K) (tLst ta) td) σ H P := fun H1 e Q q =>
  hv H1 e _ fun vs H2 e2 pa => ⟨Nat.le_trans (hl vs H2 pa).2 (Nat.le_of_ble_eq_true rfl), fun p hp => by
    have en : Tp t l ns H2 (upd H2 p (.lst vs)) := Rel.new hp
    have e02 := Rel.trans (Rel.trans e e2) en
    have hpt : p ≠ t := fun z => ((tk.keep (Rel.trans e e2)).1.t_some.1) (by rw [← z]; exact hp)
    refine hd _ e02 _ (Rel.refl _) _ fun v H3 e3 ⟨d, hv, h0, h1⟩ => ?_
    subst hv
    obtain ⟨k, rfl⟩ := Int.eq_ofNat_of_zero_le h0
    have hll := (hl vs H2 pa).1
    have hk : k < vs.length := by omega
    exact ⟨p, vs, (k : Nat), vs[k], rfl, rfl, SqL.of (lst_tp e3 hpt upd_same), atI_nat (List.getElem?_eq_getElem hk), q _ H3 (Rel.trans e2 (Rel.trans en e3)) (hP vs H2 H3 pa (Rel.trans en e3) _ (List.getElem_mem hk))⟩⟩
theorem pts_forRP {σ : L2.St} {H : Hp} {te : TE} {g : TG} {tb : TS} {P : V → Hp → Prop} {φ : V → Hp → Prop} {ψ : L2.St → Hp → Prop} (h : PtE te σ H P) (k : ∀ v H1, P v H1 → PtS (tFor (iRng1 (tCons (tC v) tNil)) g tb) σ H1 φ ψ) : PtS (tFor (iRng1 (tCons te tNil)) g tb) σ H φ ψ := fun D q n => h _ fun v H1 p => k v H1 p D q n
def Pair : V → Hp → Prop := fun v H => ∃ s x y, v = .ref s ∧ H s = some (.tup [.int x, .int y])
/-- the next scene: its third part -/
def Next : V → Hp → Prop := fun v H => ∃ b w' h' ta as qs, v = .ref b ∧ H b = some (.tup [w', h', .ref ta]) ∧ H ta = some (.tup (as.map V.ref)) ∧ PrimsAt H as qs ∧ Keyed qs ∧ (∀ q ∈ qs, q.ok) ∧ qs.length ≤ 100
def sp_l_next_scene (K : PySem.W.Frag) : Sp := fun vs H Q _ => ∃ t l ns a wd hg ps, vs = [.ref t, .ref a, .int 10] ∧ TapeAt t l ns H ∧ SceneAt H a wd hg ps ∧ Keyed ps ∧ (∀ p ∈ ps, POk p ∧ p.who.key.length ≤ 22) ∧ ps.length ≤ 6 ∧ ∀ v H2, Tp t l ns H H2 → Next v H2 → Q v H2
theorem spv_turned {t l a : Addr} {ns : List Int} {as : List Addr} {ps : List Prim} {H : Hp} (tk : TapeAt t l ns H) (hat : a ≠ t ∧ a ≠ l) (ha : H a = some (.lst (as.map V.ref))) (hp : PrimsAt H as ps) (hn : ps.length ≤ 900) {Q : VK} {E : XK} (q : ∀ v H2, Tq t l ns [a] H H2 → Turned H a ps v H2 → Q v H2) : sp_l_turned_items K [.ref t, .ref a] H Q E := ⟨t, l, ns, a, as, ps, rfl, tk, hat, ha, hp, hn, q⟩
theorem plst_perm {H : Hp} {a : Addr} {ps ps' : List Prim} {B n : Nat} {as : List Addr} (hk : Keyed ps) (hok : ∀ p ∈ ps, p.ok ∧ p.who.key.length ≤ B) (hl : ps.length ≤ n) (h : ps'.Perm ps) (ha : H a = some (.lst (as.map V.ref))) (hp : PrimsAt H as ps') : PLst H a ps' B n :=
  ⟨⟨as, ha, hp⟩, ((h.map Prim.who).nodup_iff).mpr hk, fun p hp => hok p (h.mem_iff.mp hp), by rw [h.length_eq]; exact hl⟩
theorem ok_l_next_scene (T : Txt K mg) : FnOk P w K mg base CX0 5 (He.ga K "_law_next_scene") (fdOf K (He.ga K "_law_next_scene")) p_l_next_scene (sp_l_next_scene K) := by
  refine T.l_next_scene.fn.ok sc_l_next_scene (fun vs H Q E h => ?_) (fun cdv A outer s H vs Q E hr h => ?_)
  · obtain ⟨t, l, ns, a, wd, hg, ps, rfl, tk, hsc, hkey, hpok, hps, q⟩ := h
    rfl
  · obtain ⟨t, l, ns, a, wd, hg, ps, rfl, tk, hsc, hkey, hpok, hps, q⟩ := h
    refine ⟨_, (pss_cons (ps_set (i := 3) sc_l_next_scene.nd rfl (Or.inl rfl) (pe_lst pa_nil)) (pss_cons (ps_for PassesOwn.never rfl (pi_tup (pe_ix (r := rIxT K) ix_tup (pv 1) pe_int (fun _ _ => rfl))) (pg_name (i := 4) sc_l_next_scene.nd rfl (Or.inl rfl)) (pss_cons (ps_set (i := 5) sc_l_next_scene.nd rfl (Or.inl rfl) (pe_call (ok_l_draw T) (hr.mono (by decide)) (by rfl) T.l_draw.mg T.l_draw.fn.kp (bd_l_draw T) .nil pass0 (pa_cons (pv 0) (pa_cons pe_int pa_nil)))) (pss_cons (ps_if (PW.pt (pw_or (pt_cmpR op_eq (pv 5) pe_int (nomark _)) (pw_or1 (pt_cmpR op_eq (pv 5) pe_int (nomark _))))) (pss_one (ps_set (i := 4) sc_l_next_scene.nd rfl (Or.inl rfl) (pe_call (ok_l_changed_item T) (hr.mono (by decide)) (by rfl) T.l_changed_item.mg T.l_changed_item.fn.kp (bd_l_changed_item T) .nil pass0 (pa_cons (pv 0) (pa_cons (pv 4) (pa_cons (pv 2) pa_nil)))))) pss_nil) (pss_one (ps_if (pt_cmpR op_gt (pv 5) pe_int (nomark _)) (pss_one (ps_expr (pe_bm PySem.F.plainAttrs_list PySem.F.slot_list_append PySem.F.type_list_append mt_append (pv 3) (pa_cons (pv 4) pa_nil)))) pss_nil))))) (pss_cons (ps_set (i := 3) sc_l_next_scene.nd rfl (Or.inl rfl) (pe_call (ok_l_turned_items T) (hr.mono (by decide)) (by rfl) T.l_turned_items.mg T.l_turned_items.fn.kp (bd_l_turned_items T) .nil pass0 (pa_cons (pv 0) (pa_cons (pv 3) pa_nil)))) (pss_cons (ps_for PassesOwn.never rfl (pi_range1 (by rfl) T.b_range (pa_cons (pe_ix (r := rIxL K) ix_list (pe_lst (pa_cons pe_int (pa_cons pe_int (pa_cons pe_int (pa_cons pe_int pa_nil))))) (pe_call (ok_l_draw T) (hr.mono (by decide)) (by rfl) T.l_draw.mg T.l_draw.fn.kp (bd_l_draw T) .nil pass0 (pa_cons (pv 0) (pa_cons pe_int pa_nil))) (fun _ _ => rfl)) pa_nil)) (pg_name (i := 6) sc_l_next_scene.nd rfl (Or.inl rfl)) (pss_cons (ps_set (i := 7) sc_l_next_scene.nd rfl (Or.inl rfl) (pe_call (ok_l_primitive T) (hr.mono (by decide)) (by rfl) T.l_primitive.mg T.l_primitive.fn.kp (bd_l_primitive T) .nil pass0 (pa_cons (pv 0) (pa_cons (pe_call (ok_l_new_identity T) (hr.mono (by decide)) (by rfl) T.l_new_identity.mg T.l_new_identity.fn.kp (bd_l_new_identity T) .nil pass0 (pa_cons (pv 0) (pa_cons (pe_call (ok_l_identities T) (hr.mono (by decide)) (by rfl) T.l_identities.mg T.l_identities.fn.kp (bd_l_identities T) .nil pass0 (pa_cons (pv 3) pa_nil)) pa_nil))) (pa_cons (pv 2) pa_nil))))) (pss_one (ps_expr (pe_bm PySem.F.plainAttrs_list PySem.F.slot_list_insert PySem.F.type_list_insert mt_insert (pv 3) (pa_cons (pe_ix (r := rIxL K) ix_list (pe_lst (pa_cons (pe_callB (r := rLenQ K) cb_lenQ (by rfl) T.b_len PySem.boot_len (pa_cons (pv 3) pa_nil)) (pa_cons (pe_call (ok_l_draw T) (hr.mono (by decide)) (by rfl) T.l_draw.mg T.l_draw.fn.kp (bd_l_draw T) .nil pass0 (pa_cons (pv 0) (pa_cons (pe_op op_add (pe_callB (r := rLenQ K) cb_lenQ (by rfl) T.b_len PySem.boot_len (pa_cons (pv 3) pa_nil)) pe_int) pa_nil))) pa_nil))) (pe_call (ok_l_draw T) (hr.mono (by decide)) (by rfl) T.l_draw.mg T.l_draw.fn.kp (bd_l_draw T) .nil pass0 (pa_cons (pv 0) (pa_cons pe_int pa_nil))) (fun _ _ => rfl)) (pa_cons (pv 7) pa_nil))))))) (pss_cons (ps_set (i := 8) sc_l_next_scene.nd rfl (Or.inl rfl) (pe_tup (pa_cons (pe_ix (r := rIxT K) ix_tup (pv 1) pe_int (fun _ _ => rfl)) (pa_cons (pe_ix (r := rIxT K) ix_tup (pv 1) pe_int (fun _ _ => rfl)) pa_nil)))) (pss_cons (ps_if (pt_cmpR op_eq (pe_call (ok_l_draw T) (hr.mono (by decide)) (by rfl) T.l_draw.mg T.l_draw.fn.kp (bd_l_draw T) .nil pass0 (pa_cons (pv 0) (pa_cons pe_int pa_nil))) pe_int (nomark _)) (pss_one (ps_set (i := 8) sc_l_next_scene.nd rfl (Or.inl rfl) (pe_ix (r := rIxL K) ix_list (pe_lst (pa_cons (pe_tup (pa_cons (pe_ix (r := rIxT K) ix_tup (pv 1) pe_int (fun _ _ => rfl)) (pa_cons (pe_ix (r := rIxT K) ix_tup (pv 1) pe_int (fun _ _ => rfl)) pa_nil))) (pa_cons (pe_tup (pa_cons (pe_op op_add (pe_ix (r := rIxT K) ix_tup (pv 1) pe_int (fun _ _ => rfl)) pe_int) (pa_cons (pe_ix (r := rIxT K) ix_tup (pv 1) pe_int (fun _ _ => rfl)) pa_nil))) (pa_cons (pe_tup (pa_cons (pe_ix (r := rIxT K) ix_tup (pv 1) pe_int (fun _ _ => rfl)) (pa_cons pe_int pa_nil))) pa_nil)))) (pe_call (ok_l_draw T) (hr.mono (by decide)) (by rfl) T.l_draw.mg T.l_draw.fn.kp (bd_l_draw T) .nil pass0 (pa_cons (pv 0) (pa_cons pe_int pa_nil))) (fun _ _ => rfl)))) pss_nil) (pss_one (ps_ret (pe_tup (pa_cons (pe_ix (r := rIxT K) ix_tup (pv 8) pe_int (fun _ _ => rfl)) (pa_cons (pe_ix (r := rIxT K) ix_tup (pv 8) pe_int (fun _ _ => rfl)) (pa_cons (pe_callTy cb_tupOf (by rfl) T.b_tuple PyProof.Rows.boot_tuple (pa_cons (pv 3) pa_nil)) pa_nil)))))))))))), ?_⟩
    refine PtS.run (φ := fun v H2 => Tp t l ns H H2 ∧ Next v H2) ?_ fun v H2 ⟨p1, p2⟩ => q v H2 p1 p2
    obtain ⟨ta, as, s1, s2, s3⟩ := id hsc
    have hl := pair_len s3
    refine pts_asg (P := fun v H1 => ∃ p, v = .ref p ∧ H p = none ∧ H1 = upd H p (.lst [])) (fun Q q => ⟨Nat.zero_le _, fun p hp => q _ _ ⟨p, rfl, hp, rfl⟩⟩) ?_
    rintro v H1 ⟨p0, rfl, f0, rfl⟩
    have pt : p0 ≠ t := fun z => tk.1.t_some.1 (by rw [← z]; exact f0)
    have pl : p0 ≠ l := fun z => tk.1.t_some.2 (by rw [← z]; exact f0)
    have e1 : Tp t l ns H (upd H p0 (.lst [])) := Rel.new f0
    refine pts_seq (ψ1 := fun σ' H' => (∃ v4 v5, σ' = [some (.ref t), some (.ref a), some (.int 10), some (.ref p0), v4, v5, none, none, none]) ∧ Tp t l ns H H' ∧ ∃ qs, PLst H' p0 qs 22 6) (pts_forT (K := K) (a := ta) (xs := as.map V.ref) (ev_op (ev_var rfl) ev_c (rv_ixT (R := Same) (Rel.tup e1 s1) rfl)) (Rel.tup e1 s2)
      (fun i σ' H' => (∃ v4 v5, σ' = [some (.ref t), some (.ref a), some (.int 10), some (.ref p0), v4, v5, none, none, none]) ∧ Tp t l ns H H' ∧ ∃ qs, PLst H' p0 qs 22 i ∧ ∀ q ∈ qs, q.who ∈ (ps.map Prim.who).take i) ?_ (fun i σ' H' _ p => Rel.tup p.2.1 s2) ?_ ?_) ?_
    · intro H2 e2
      exact ⟨⟨none, none, rfl⟩, Rel.trans e1 (tq_same e2), [], ⟨⟨[], e2 _ _ upd_same, .nil⟩, List.nodup_nil, fun p hp => absurd hp List.not_mem_nil, Nat.le_refl 0⟩, fun p hp => absurd hp List.not_mem_nil⟩
    · rintro i x σ' H2 hi ⟨⟨v4, v5, rfl⟩, e2, qs, hq, hqw⟩ hx
      obtain ⟨c, rfl, hc⟩ := map_get hx
      obtain ⟨p, hp, hpa⟩ := pair_get s3 hc
      have hpm := List.mem_of_getElem? hp
      have tk2 := tk.keep e2
      have hpa2 := hpa.keep e2
      have hwi : (ps.map Prim.who)[i]? = some p.who := by rw [List.getElem?_map, hp]; rfl
      refine pts_asg (peT_of (ep_draw (K := K) (m := 8) tk2 (ev_var rfl) ev_c ⟨by decide, by decide⟩)) ?_
      rintro v H3 ⟨e3, f, rfl, hf⟩
      have e03 := Rel.trans e2 e3
      refine pts_seq (ψ1 := fun σ' H' => ∃ b q, σ' = [some (.ref t), some (.ref a), some (.int 10), some (.ref p0), some (.ref b), some (.int f), none, none, none] ∧ Tp t l ns H3 H' ∧ PrimAt H' b q ∧ q.ok ∧ q.who = p.who) (pts_if1 (pt_of (b := decide (V.int f = .int 1) || decide (V.int f = .int 2)) (by walk_at "ev")) ?_ ?_) ?_
      · rintro H4 ⟨_, e4⟩
        have e34 : Tp t l ns H3 H4 := tq_same e4
        have tk4 := tk.keep (Rel.trans e03 e34)
        refine pts_asg1 (peT_of (P := OkPrim p.who) (ep_call (ea_cons (ev_var rfl) (ea_cons (ev_var (v := .ref c) rfl) (ea_cons (ev_var rfl) ea_nil))) fun H5 e5 Q q E => ⟨t, l, ns, c, p, rfl, tk4.keep e5, (hpa2.keep e3).keep (Rel.trans e34 e5), (hpok p hpm).1, fun v H6 e6 hv => q v H6 e6 hv⟩)) ?_
        rintro v H5 ⟨e5, b, q, rfl, x1, x2, x3⟩
        exact ⟨b, q, rfl, Rel.trans e34 e5, x1, x2, x3⟩
      · rintro H4 ⟨_, e4⟩
        exact pts_next ⟨c, p, rfl, tq_same e4, (hpa2.keep e3).keep e4, (hpok p hpm).1.1, rfl⟩
      · rintro σ' H4 ⟨b, q, rfl, e4, x1, x2, x3⟩
        have e04 := Rel.trans e03 e4
        have hq4 := hq.keep (Rel.trans e3 e4) pt
        refine pts_if1 (pt_of (b := decide (0 < f)) (by walk_at "ev")) ?_ ?_
        · rintro H5 ⟨_, e5⟩
          have e45 : Tp t l ns H4 H5 := tq_same e5
          have hq5 := hq4.keep e45 pt
          obtain ⟨cs, g1, g2⟩ := id hq5.at_
          have hcl := pair_len g2
          have hql := hq5.len
          rw [List.length_map] at hi
          refine pts_append (K := K) (t := t) (l := l) (ns := ns) (xs := cs.map V.ref) rfl g1 pt (by rw [List.length_map]; omega) (P := fun v H6 => v = .ref b) (Ev.p (ev_var rfl)) ?_
          rintro v H6 e6 hl6 rfl
          have e06 := Rel.trans (Rel.trans e04 e45) e6
          refine ⟨⟨_, _, rfl⟩, tp_mut e06 f0, qs ++ [q], ⟨⟨cs ++ [b], by rw [upd_same, List.map_append]; rfl, pair_snoc ((g2.keep e6).kt (kt_upd hl6)) ((x1.keep (Rel.trans e45 e6)).kt (kt_upd hl6))⟩, keyed_snoc hq.key (fun z => ?_), fun x hx => ?_, by rw [List.length_append, List.length_singleton]; omega⟩, fun x hx => ?_⟩
          · obtain ⟨r, hr, er⟩ := List.mem_map.mp z
            have := hqw r hr
            rw [er, x3] at this
            exact nd_take hkey hwi this
          · rcases List.mem_append.mp hx with h | h
            · exact hq.ok x h
            · rw [List.mem_singleton.mp h]
              exact ⟨x2, by rw [x3]; exact (hpok p hpm).2⟩
          · rw [List.take_add_one, hwi]
            rcases List.mem_append.mp hx with h | h
            · exact List.mem_append_left _ (hqw x h)
            · rw [List.mem_singleton.mp h, x3]
              exact List.mem_append_right _ List.mem_cons_self
        · rintro H5 ⟨_, e5⟩
          have e45 : Tp t l ns H4 H5 := tq_same e5
          obtain ⟨y1, y2, y3, y4⟩ := hq4.keep e45 pt
          refine pts_next ⟨⟨_, _, rfl⟩, Rel.trans e04 e45, qs, ⟨y1, y2, y3, by omega⟩, fun x hx => ?_⟩
          rw [List.take_add_one]
          exact List.mem_append_left _ (hqw x hx)
    · rintro σ' H2 ⟨h1, h2, qs, ⟨y1, y2, y3, y4⟩, _⟩
      exact ⟨h1, h2, qs, y1, y2, y3, by rw [List.length_map] at y4; omega⟩
    rintro σ' H2 ⟨⟨v4, v5, rfl⟩, e2, qs, hq⟩
    obtain ⟨cs, g1, g2⟩ := id hq.at_
    have hql := hq.len
    refine pts_asg (P := fun v H3 => Tq t l ns [p0] H2 H3 ∧ Turned H2 p0 qs v H3) (fun Q q => ?_) ?_
    · exact ⟨.ref t, rfl, .ref p0, rfl, spv_turned (K := K) (E := E0) (tk.keep e2) ⟨pt, pl⟩ g1 g2 (by omega) fun v H3 x1 x2 => q v H3 ⟨x1, x2⟩⟩
    rintro v H3 ⟨q3, b, cs', qs', rfl, hb, hb2, hperm, hbf⟩
    have e3 : Tp t l ns H H3 := tq_less e2 q3 fun z hz => by rw [List.mem_singleton.mp hz]; exact f0
    have fb : H b = none := by
      rcases hbf with rfl | h
      · exact f0
      · exact e2.back b h
    have bt : b ≠ t := tape_no_refs (tk.keep e3) hb
    have hq3 : PLst H3 b qs' 22 6 := plst_perm hq.key hq.ok hql hperm hb hb2
    refine pts_seq (ψ1 := fun σ' H' => (∃ v6 v7, σ' = [some (.ref t), some (.ref a), some (.int 10), some (.ref b), v4, v5, v6, v7, none]) ∧ Tp t l ns H H' ∧ ∃ qs, PLst H' b qs 26 8) (pts_forRP (peT_of (ep_pick (K := K) (m := 4) (vs := [.int 0, .int 0, .int 1, .int 2]) (fun v => ∃ n : Nat, v = .int (n : Nat) ∧ n ≤ 2) (tk.keep e3) (by walk_at "ev") ⟨rfl, by decide⟩ (fun H4 e4 => ep_draw (K := K) ((tk.keep e3).keep e4) (ev_var rfl) ev_c ⟨by decide, by decide⟩) ?_)) ?_) ?_
    · intro x hx
      simp only [List.mem_cons, List.not_mem_nil, or_false] at hx
      rcases hx with rfl | rfl | rfl | rfl
      · exact ⟨0, rfl, by decide⟩
      · exact ⟨0, rfl, by decide⟩
      · exact ⟨1, rfl, by decide⟩
      · exact ⟨2, rfl, by decide⟩
    · rintro v H4 ⟨e4, n, rfl, hn⟩
      have e04 := Rel.trans e3 e4
      have hq4 := hq3.keep e4 bt
      refine pts_forR (n := (n : Nat)) (ea_cons ev_c ea_nil) ⟨by omega, by omega⟩ (fun i σ' H' => (∃ v6 v7, σ' = [some (.ref t), some (.ref a), some (.int 10), some (.ref b), v4, v5, v6, v7, none]) ∧ Tp t l ns H H' ∧ ∃ qs, PLst H' b qs (22 + 2 * i) (6 + i)) (fun H5 e5 => ⟨⟨none, none, rfl⟩, Rel.trans e04 (tq_same e5), qs', PLst.keep (l := l) (ns := ns) hq4 (tq_same e5) bt⟩) ?_ ?_
      · rintro i σ' H5 hi ⟨⟨v6, v7, rfl⟩, e5, rs, hr⟩
        have tk5 := tk.keep e5
        refine pts_asg (peT_of (ep_fresh (K := K) tk5 hr ⟨by omega, by omega⟩ (by omega) bt (fun _ => ev_var rfl) (fun _ => ev_var rfl) (fun _ => ev_var rfl))) ?_
        rintro v H6 ⟨e6, nb, np, rfl, p1, p2, p3, p4⟩
        have e06 := Rel.trans e5 e6
        have tk6 := tk.keep e06
        have hr6 := hr.keep e6 bt
        obtain ⟨ds, d1, d2⟩ := id hr6.at_
        have hdl := pair_len d2
        have hrl := hr6.len
        refine pts_insert (K := K) (xs := ds.map V.ref) (y := .ref nb) rfl d1 bt (by rw [List.length_map]; omega) rfl (ep_pickP (K := K) (m := 2) (PA := fun vs _ => ∃ d : Int, vs = [.int ((ds.map V.ref).length : Int), .int d] ∧ 0 ≤ d ∧ d < ((ds.map V.ref).length : Int) + 1) tk6 (eap_consE (ev_cb (ea_cons (ev_var rfl) ea_nil) (rc_lenL (K := K) fun H7 e7 => SqL.of (lst_tp e7 bt d1))) fun H7 e7 => eap_one' (ep_draw (K := K) (m := ((ds.map V.ref).length : Int) + 1) (tk6.keep e7) (ev_var rfl) (ev_op (ev_cb (ea_cons (ev_var rfl) ea_nil) (rc_lenL (K := K) (xs := ds.map V.ref) fun H8 e8 => SqL.of (lst_tp (Rel.trans e7 e8) bt d1))) ev_c rv_I0) ⟨by omega, by rw [List.length_map]; omega⟩) fun v H8 e8 ⟨d, hd, hd0, hd1⟩ => ⟨d, by rw [hd], hd0, hd1⟩) ?_ (fun H7 e7 => ep_draw (K := K) (tk6.keep e7) (ev_var rfl) ev_c ⟨by decide, by decide⟩) ?_) ?_
        · rintro vs H7 ⟨d, rfl, _⟩
          exact ⟨rfl, Nat.le_of_ble_eq_true rfl⟩
        · rintro vs H7 H8 ⟨d, rfl, hd0, hd1⟩ e78 x hx
          simp only [List.mem_cons, List.not_mem_nil, or_false] at hx
          rcases hx with rfl | rfl
          · exact ⟨_, rfl, by omega, by omega⟩
          · exact ⟨d, rfl, hd0, hd1⟩
        · intro m H7 hm e7 hb7
          have e07 := Rel.trans e06 e7
          refine ⟨⟨_, _, rfl⟩, tp_mut e07 fb, ?_⟩
          have hpa : PrimsAt (upd H7 b (.lst ((ds.map V.ref).take m ++ [.ref nb] ++ (ds.map V.ref).drop m))) (nb :: ds) (np :: rs) := prims_kt (.cons (p1.keep e7) (d2.keep e7)) hb7
          obtain ⟨rs', x1, x2⟩ := pair_perm (insert_perm ds m nb) hpa
          have hkk : Keyed (np :: rs) := by
            show ((np :: rs).map Prim.who).Nodup
            rw [List.map_cons, List.nodup_cons]
            exact ⟨p4, hr.key⟩
          refine ⟨rs', plst_perm hkk (fun x hx => ?_) (by rw [List.length_cons]; omega) x1 ?_ x2⟩
          · rcases List.mem_cons.mp hx with h | h
            · rw [h]
              exact ⟨p2.1, by omega⟩
            · exact ⟨(hr.ok x h).1, by have := (hr.ok x h).2; omega⟩
          · rw [upd_same, List.map_append, List.map_append, List.map_take, List.map_drop]
            rfl
      · rintro σ' H5 ⟨h1, h2, rs, y1, y2, y3, y4⟩
        exact ⟨h1, h2, rs, y1, y2, fun x hx => ⟨(y3 x hx).1, by have := (y3 x hx).2; omega⟩, by omega⟩
    rintro σ' H4 ⟨⟨v6, v7, rfl⟩, e4, rs, hr⟩
    have tk4 := tk.keep e4
    have s14 := Rel.tup e4 s1
    refine pts_asg (peT_of (t := t) (l := l) (ns := ns) (P := Pair) (EvP.imp (ep_tup (vs := [.int wd, .int hg]) (ea_cons (ev_op (ev_var rfl) ev_c (rv_ixT s14 rfl)) (ea_cons (ev_op (ev_var rfl) ev_c (rv_ixT s14 rfl)) ea_nil)) (by walk_at "sz")) fun v H5 e5 ⟨p, h1, h2⟩ => ⟨p, wd, hg, h1, h2⟩)) ?_
    rintro v H5 ⟨e5, sz, sx, sy, rfl, hsz⟩
    refine pts_seq (ψ1 := fun σ' H' => ∃ sz sx sy, σ' = [some (.ref t), some (.ref a), some (.int 10), some (.ref b), v4, v5, v6, v7, some (.ref sz)] ∧ Tp t l ns H4 H' ∧ H' sz = some (.tup [.int sx, .int sy])) ?_ ?_
    · refine pts_if1 (P := fun _ H6 => Tp t l ns H5 H6) (fun Q q => ep_deq (ep_draw (K := K) (m := 5) (tk4.keep e5) (ev_var rfl) ev_c ⟨by decide, by decide⟩) H5 (Rel.refl H5) _ fun v H6 e6 ⟨b, hb⟩ => ⟨b, hb, q b H6 e6⟩) ?_ ?_
      · intro H6 e6
        have e46 := Rel.trans e5 e6
        have pk : ∀ {x : V} {Ha Hb : Hp}, Tp t l ns Ha Hb → Pair x Ha → Pair x Hb := fun e ⟨s, x, y, h1, h2⟩ => ⟨s, x, y, h1, Rel.tup e h2⟩
        have i0 : ∀ {σ : L2.St} {Ha : Hp}, Tp t l ns H6 Ha → σ[1]? = some (some (.ref a)) → Ev (Tp t l ns) (tOp (rIxT K) (tVar 1) (tC (.int 0))) σ Ha (.int wd) := fun e h => ev_op (ev_var h) ev_c (rv_ixT (Rel.tup (Rel.trans e46 e) s14) rfl)
        have i1 : ∀ {σ : L2.St} {Ha : Hp}, Tp t l ns H6 Ha → σ[1]? = some (some (.ref a)) → Ev (Tp t l ns) (tOp (rIxT K) (tVar 1) (tC (.int 1))) σ Ha (.int hg) := fun e h => ev_op (ev_var h) ev_c (rv_ixT (Rel.tup (Rel.trans e46 e) s14) rfl)
        refine pts_asg1 (peT_of (P := Pair) (ep_pickP (K := K) (m := 3) (PA := fun vs Ha => ∃ x y z, vs = [x, y, z] ∧ Pair x Ha ∧ Pair y Ha ∧ Pair z Ha) (tk4.keep e46) (eap_cons (P := Pair) (EvP.imp (ep_tup (vs := [.int hg, .int wd]) (ea_cons (i1 (Rel.refl _) rfl) (ea_cons (i0 (Rel.refl _) rfl) ea_nil)) (by walk_at "sz")) fun v Ha ea ⟨p, h1, h2⟩ => ⟨p, hg, wd, h1, h2⟩) fun x Ha ea hx => eap_cons (P := Pair) (EvP.imp (ep_tup (vs := [.int (wd + 1), .int hg]) (ea_cons (ev_op (i0 ea rfl) ev_c rv_I0) (ea_cons (i1 ea rfl) ea_nil)) (by walk_at "sz")) fun v Hb eb ⟨p, h1, h2⟩ => ⟨p, wd + 1, hg, h1, h2⟩) fun y Hb eb hy => eap_one' (P := Pair) (EvP.imp (ep_tup (vs := [.int wd, .int 0]) (ea_cons (i0 (Rel.trans ea eb) rfl) (ea_cons ev_c ea_nil)) (by walk_at "sz")) fun v Hc ec ⟨p, h1, h2⟩ => ⟨p, wd, 0, h1, h2⟩) fun z Hc ec hz => ⟨x, y, z, rfl, pk (Rel.trans eb ec) hx, pk ec hy, hz⟩) ?_ (fun Ha ea => ep_draw (K := K) ((tk4.keep e46).keep ea) (ev_var rfl) ev_c ⟨by decide, by decide⟩) ?_)) ?_
        · rintro vs Ha ⟨x, y, z, rfl, _⟩
          exact ⟨rfl, Nat.le_of_ble_eq_true rfl⟩
        · rintro vs Ha Hb ⟨x, y, z, rfl, h1, h2, h3⟩ eab u hu
          simp only [List.mem_cons, List.not_mem_nil, or_false] at hu
          rcases hu with rfl | rfl | rfl
          · exact pk eab h1
          · exact pk eab h2
          · exact pk eab h3
        · rintro v H7 ⟨e7, s', x', y', rfl, h2⟩
          exact ⟨s', x', y', rfl, Rel.trans e46 e7, h2⟩
      · intro H6 e6
        exact pts_next ⟨sz, sx, sy, rfl, Rel.trans e5 e6, Rel.tup e6 hsz⟩
    · rintro σ' H6 ⟨sz, sx, sy, rfl, e6, hsz⟩
      obtain ⟨⟨ds, d1, d2⟩, dk, dok, dl⟩ := hr.keep e6 bt
      have e06 := Rel.trans e4 e6
      refine pts_ret fun Q q => pe_of (P := Next) (ep_tupP (R := Same) (PA := fun vs H3 => ∃ ta, vs = [.int sx, .int sy, .ref ta] ∧ H3 ta = some (.tup (ds.map V.ref)) ∧ PrimsAt H3 ds rs) (eap_consE (ev_op (ev_var rfl) ev_c (rv_ixT hsz rfl)) fun Ha ea => eap_consE (ev_op (ev_var rfl) ev_c (rv_ixT (ea _ _ hsz) rfl)) fun Hb eb => eap_one' (P := fun v H3 => ∃ ta, v = .ref ta ∧ H3 ta = some (.tup (ds.map V.ref)) ∧ PrimsAt H3 ds rs) ?_ fun v H3 e3 ⟨ta, h1, h2, h3⟩ => ⟨ta, by rw [h1], h2, h3⟩) ?_ ?_) Q fun v H3 ⟨e3, h⟩ => q v H3 ⟨Rel.trans e06 (tq_same e3), h⟩
      · intro H3 e3 Q q
        have ee := ea.trans (eb.trans e3)
        refine ⟨.ref b, rfl, b, _, rfl, .inl ⟨SqL.of (ee _ _ d1), fun l hl => q _ _ (same_new hl) ⟨l, rfl, upd_same, (d2.keep ee).keep (same_new hl)⟩⟩⟩
      · rintro vs H3 ⟨ta, rfl, _⟩
        exact Nat.le_of_ble_eq_true rfl
      · rintro vs H3 p e3 ⟨ta, rfl, h2, h3⟩ hn
        have en := same_new (o := .tup [V.int sx, .int sy, .ref ta]) hn
        exact ⟨p, .int sx, .int sy, ta, ds, rs, rfl, upd_same, en _ _ h2, h3.keep en, dk, fun x hx => (dok x hx).1, by omega⟩
end
end Cs

namespace Cs
open PySem PySem.Spec PyProof.Rows L2
/-! ### a law's def that calls repr: the call stands where no repr is under way -/
structure FnG (P : Program) (w : World) (K : PySem.W.Frag) (mg : Str → Option Value) (base : Heap) (CX : CXT) (k : Nat) (f : Addr) (fd : FuncData) (ps : List Str) (sp : Sp) : Prop where
  run : ∀ (A : Around) (outer : List Env) (s : Shared) (H : Hp) (args : Args) (us : List Value) (vs : List V) (Q : VK) (E : XK), Room k A → A.guards = some [] → Env0 P w K mg base A outer s H → BindsTo s fd args (ps.zip us) → Vals vs us → sp vs H Q E →
    codeAny (model P w) A (.call (.ref f) args) (CR CX outer P w H s Q E) s
theorem fnG_of {CX : CXT} {P : Program} {w : World} {K : PySem.W.Frag} {mg : Str → Option Value} {base : Heap} {k : Nat} {f : Addr} {name qual : Str} {params : Arguments} {body : List Stmt} {scope : Scope} {dV kV doc pm cdv ct oc : Value} {an od : Option Addr}
    {osl : Array (Option Value)} {N ps : List Str} {sp : Sp} (lk : K.lookup f = some ⟨oc, od, .func (PySem.W.fnOf name qual params body scope dV kV doc pm an cdv ct), osl⟩) (hcd : PySem.W.codeIn K cdv qual = true) (S : FnScope N ps scope)
    (len : ∀ vs H Q E, sp vs H Q E → vs.length = ps.length)
    (hbody : ∀ (A : Around) (outer : List Env) (s : Shared) (H : Hp) (vs : List V) (Q : VK) (E : XK), Room k (A.deeper (envOfC qual scope s.heap.objs.size f cdv)) → (A.deeper (envOfC qual scope s.heap.objs.size f cdv)).guards = some [] → sp vs H Q E →
      ∃ t, PSs (cxOf CX P w K mg base N qual scope f cdv A outer s H E) body t ∧ t { nx := fun _ H' => Q .non H', rt := Q } (start N vs) H) :
    FnG P w K mg base CX (k + 1) f (PySem.W.fnOf name qual params body scope dV kV doc pm an cdv ct) ps sp := by
  refine ⟨fun A outer s H args us vs Q E hr hgu e0 hb r hsp => ?_⟩
  have hl := len _ _ _ _ hsp
  have KX : K.In s.heap := e0.mod.kin.keeps fun b o e => (e0.bs b o e).1
  have lim : s.heap.NoLimit := e0.mod.nolimit.keeps fun b o e => (e0.bs b o e).1
  have hkind : ∀ y ∈ ps.zip us, scope.names.lookup y.1 = some .local ∨ (scope.names.lookup y.1 = some .cell ∧ ((cellsFrom (s.heap.objs.size + 1) scope.names []).lookup y.1).isSome = true) := fun ⟨n, v⟩ hy => by
    rcases S.par n (List.of_mem_zip hy).1 with q | q
    · exact .inl q
    · exact .inr ⟨q, PySem.W.cellsFrom_some _ _ _ (.inl q)⟩
  refine codeAny_call_function hr.depth (KX _ _ lk) rfl S.co S.gen rfl (PySem.W.codeRec_of KX hcd) (hb _ _ _ _ ?_)
  refine wpAny_newFunctionEnv_cells S.kind hkind fun env he s1 x => ?_
  subst he
  refine ⟨lim.keeps x.toInCall.keep, codeAny_func ?_⟩
  obtain ⟨t, ht, hq⟩ := hbody A outer s H vs Q E (hr.deeper _) hgu hsp
  have I : Inv (cxOf CX P w K mg base N qual scope f cdv A outer s H E) [] (start N vs) H s1 := inv_start S hr.hd e0 hl r x
  refine wpAny_mono (ht.run [] s1 (start N vs) H _ I hq) (fun fl s' hs => ?_) fun e s' hs => hs
  have fin : ∀ {σ' : L2.St} {H' : Hp} {v : V} {u : Value}, Inv (cxOf CX P w K mg base N qual scope f cdv A outer s H E) [] σ' H' s' → RelV v u → Q v H' → CE outer P w H s Q u s' :=
    fun {σ' H' v u} J rv q => ⟨v, H', J.os, J.bare, J.base, J.hok, rv, q⟩
  cases fl with
  | ret u =>
    obtain ⟨v, σ', H', J, rv, q⟩ := hs
    exact fin J rv q
  | next =>
    obtain ⟨σ', H', J, q⟩ := hs
    exact fin (v := V.non) (u := Value.none) J rfl q
  | brk =>
    obtain ⟨_, _, _, q⟩ := hs
    exact False.elim q
  | cont =>
    obtain ⟨_, _, _, q⟩ := hs
    exact False.elim q

section
variable {P : Program} {w : World} {K : PySem.W.Frag} {mg : Str → Option Value} {base : Heap}
theorem Fun.okG {x qual : Str} {st : Stmt} {f : Addr} {fd : FuncData} {N ps : List Str} {k : Nat} {sp : Sp} (F : Fun K x qual st f fd) (S : FnScope N ps (defScope st)) (len : ∀ vs H Q E, sp vs H Q E → vs.length = ps.length)
    (hbody : ∀ (cdv : Value) (A : Around) (outer : List Env) (s : Shared) (H : Hp) (vs : List V) (Q : VK) (E : XK), Room k (A.deeper (envOfC qual (defScope st) s.heap.objs.size f cdv)) → (A.deeper (envOfC qual (defScope st) s.heap.objs.size f cdv)).guards = some [] → sp vs H Q E →
      ∃ t, PSs (cxOf CX0 P w K mg base N qual (defScope st) f cdv A outer s H E).nox (defBody st) t ∧ t { nx := fun _ H' => Q .non H', rt := Q } (start N vs) H) : FnG P w K mg base CX0 (k + 1) f fd ps sp := by
  obtain ⟨oc, od, kV, doc, pm, an, cdv, ct, osl, rfl, lk, hcd⟩ := F.ex
  refine fnG_of lk hcd S len fun A outer s H vs Q E hr hgu hsp => ?_
  obtain ⟨t, h, q⟩ := hbody cdv A outer s H vs Q E hr hgu hsp
  exact ⟨t, h.nox, q⟩
end
theorem law_callG {P : Program} {w : World} {K : PySem.W.Frag} {mg mb : Str → Option Value} {CX : CXT} {k : Nat} {fa a : Addr} {fd : FuncData} {x : Str} {sp : Sp} {s₁ : Shared} {vs : List Value} {ns : List Int}
    (KX : K.In s₁.heap) (hns : s₁.heap.Ns mainGlobals mg) (hb : s₁.heap.Ns builtinsNs mb) (hbb : ∀ x : Str, x ≠ "__name__" → mb x = bootBuiltins x) (hlim : s₁.heap.NoLimit) (hg : s₁.gens = #[])
    (ha : s₁.heap.get? a = some { cls := .type "list", data := .seq vs.toArray }) (hi : IntsAre vs ns) (hl : ns.length ≤ sizeLine) (hr : Room k callerA)
    (F : ∀ base : Heap, K.In base → base.Ns mainGlobals mg → FnG P w K mg base CX k fa fd [x] sp) (hbind : ∀ (s : Shared) (u : Value), BindsTo s fd ⟨[u], []⟩ [(x, u)])
    (hsp : ∀ H : Hp, Only H → SqL K H a (ns.map V.int) → sp [.ref a] H (fun v _ => v = .bl true) fun _ _ _ => False)
    (hCX : ∀ H e s', CX [] H s₁ (fun _ _ _ => False) e s' → False) :
    codeAny (model P w) callerA (.call (.ref fa) ⟨[.ref a], []⟩) (fun r s' => r = .ok (.ret (.bool true)) ∧ OldK s₁.heap s'.heap ∧ s'.os = s₁.os ∧ AllBare s'.gens) s₁ := by
  have rv := vals_ints hi
  have lenV := hi.length
  -- from an abstract heap in which nothing but the script may be tracked
  have core : ∀ H : Hp, Only H → SqL K H a (ns.map V.int) → HOk P w H s₁.heap → (∀ b, H b ≠ none → b = a) → (H a ≠ none → K.lookup a = none) →
      codeAny (model P w) callerA (.call (.ref fa) ⟨[.ref a], []⟩) (fun r s' => r = .ok (.ret (.bool true)) ∧ OldK s₁.heap s'.heap ∧ s'.os = s₁.os ∧ AllBare s'.gens) s₁ := by
    intro H hO hS hok hA hK
    have base_of : ∀ {b : Addr} {o : Obj}, s₁.heap.get? b = some o → H b = none → (hidT s₁.heap H).get? b = some o := fun e n => hidT_get e n
    have noA : ∀ {b : Addr} {o : Obj} {es : Array DictEntry} {ep : Nat}, s₁.heap.get? b = some o → o.data = .dict es ep → H b = none := fun {b o es ep} e d => by
      cases q : H b with
      | none => rfl
      | some u =>
        have e' : b = a := hA b (by rw [q]; simp)
        subst e'
        rw [ha] at e; cases e
        have d' : Data.seq vs.toArray _ = Data.dict es ep := d
        cases d'
    have nsK : ∀ {b : Addr} {m : Str → Option Value}, s₁.heap.Ns b m → (hidT s₁.heap H).Ns b m := fun {b m} ⟨o, es, ep, e, d, r⟩ => ⟨o, es, ep, base_of e (noA e d), d, r⟩
    have hKb : K.In (hidT s₁.heap H) := fun b o e => base_of (KX b o e) (by
      cases q : H b with
      | none => rfl
      | some u =>
        have e' : b = a := hA b (by rw [q]; simp)
        subst e'
        rw [hK (by rw [q]; simp)] at e; cases e)
    have hM : Mod K mg (hidT s₁.heap H) := ⟨hKb, nsK hns, ⟨mb, nsK hb, hbb⟩, let ⟨mc, h1, h2⟩ := hlim; ⟨mc, nsK h1, h2⟩⟩
    have e0 : Env0 P w K mg (hidT s₁.heap H) callerA [] s₁ H := ⟨rfl, hM, fun b o e => of_hidT e, Nat.le_of_eq (hidT_size _ _), trivial, fun b hb => absurd (show b ∈ ([] : List Addr) from hb) (by simp), hok, .of_eq hg⟩
    refine codeAny_mono ((F _ hKb (nsK hns)).run callerA [] s₁ H ⟨[.ref a], []⟩ [.ref a] [.ref a] _ _ hr rfl e0 (hbind s₁ (.ref a)) (.cons rfl .nil) (hsp H hO hS)) fun r s' h => ?_
    cases r with
    | error e => exact (hCX H e s' h).elim
    | ok fl =>
      cases fl with
      | next => exact False.elim h
      | brk => exact False.elim h
      | cont => exact False.elim h
      | ret u =>
        obtain ⟨v, H', os, bare, un, hok', r', q⟩ := h
        have q' : v = .bl true := q
        subst q'
        obtain rfl : u = Value.bool true := r'
        refine ⟨rfl, OldK.of_keep fun b o e => ?_, os, bare⟩
        cases q : H b with
        | none => exact un.keep b o e q (by intro z; exact absurd (show b ∈ ([] : List Addr) from z) (by simp)) (by simp)
        | some u =>
          rcases hO b with z | ⟨ob, xs, z⟩
          · rw [q] at z; cases z
          · have z2 := un.frzs b ob _ z
            obtain ⟨e1, _⟩ := hok b _ z
            obtain ⟨e2, _⟩ := hok' b _ z2
            rw [e] at e1; cases e1
            exact e2
  cases hk : K.lookup a with
  | some o =>
    -- the script is one of the module's own objects
    have e := KX a o hk
    rw [ha] at e
    cases e
    refine core (fun _ => none) (fun _ => .inl rfl) (.inr ⟨_, vs.toArray, _, hk, rfl, rfl, rfl, by rw [List.size_toArray, lenV]; exact hl, by simpa using rv⟩) (fun b u z => by have z' : (none : Option HO) = some u := z; cases z') (fun b z => absurd rfl z) fun z => absurd rfl z
  | none =>
    refine core (fun b => if b = a then some (.frz { cls := .type "list", data := .seq vs.toArray } (.lst (ns.map V.int))) else none) (fun b => ?_) (.inl (.inr ⟨{ cls := .type "list", data := .seq vs.toArray }, if_pos rfl⟩)) (fun b u z => ?_) (fun b z => ?_) fun _ => hk
    · by_cases hb : b = a
      · exact .inr ⟨_, _, if_pos hb⟩
      · exact .inl (if_neg hb)
    · by_cases hb : b = a
      · have z' := (if_pos hb).symm.trans z
        cases z'
        subst hb
        exact ⟨ha, by rw [List.length_map]; exact hl, vs, _, rv, ha⟩
      · have z' := (if_neg hb).symm.trans z
        cases z'
    · by_cases hb : b = a
      · exact hb
      · exact absurd (if_neg hb) z

theorem walk_ofG {l : PySem.W.OpenLaw} {n k : Nat} {q : Program} {loose : List Str} {XP : (Str → Option Value) → Heap → Prop} {YP : World → Heap → Prop} {d : DefRec} {CX : CXT} {x : Str}
    (hn : l.most = some n) (hn2 : n ≤ sizeLine) (hdf : d.params.defaults = []) (hr : Room k callerA)
    (F : ∀ (w : World) (mg : Str → Option Value) (fa : Addr) (h : Heap), YP w h → h.Ns mainGlobals mg → mg d.name = some (.ref fa) →
      ∃ (K : PySem.W.Frag) (fd : FuncData) (sp : Sp), K.In h ∧ (∀ (s : Shared) (u : Value), BindsTo s fd ⟨[u], []⟩ [(x, u)]) ∧
        (∀ (H : Hp) (a : Addr) (ns : List Int), ns.length ≤ n → Only H → SqL K H a (ns.map V.int) → sp [.ref a] H (fun v _ => v = .bl true) fun _ _ _ => False) ∧
        ∀ base : Heap, K.In base → base.Ns mainGlobals mg → FnG l.prog w K mg base CX k fa fd [x] sp)
    (hCX : ∀ (H : Hp) (s : Shared) (e : Value) (s' : Shared), CX [] H s (fun _ _ _ => False) e s' → False) :
    PySem.W.WalkO q loose XP YP l.row.toRowW d [] (fun f vs => PySem.call f vs) := by
  refine Att.attach_call hn hdf fun w s₀ s₁ mg mb fa o pm cd doc a vs ns G Y ho hd hcd hmg hobj hints hlen hg => ?_
  obtain ⟨K, fd, sp, KX, hb, hsp, hF⟩ := F w mg fa _ Y G.T.g hmg
  exact law_callG KX G.T.g G.T.b G.T.builtins G.T.nolimit hg hobj hints (Nat.le_trans hlen hn2) hr hF hb (fun H hO hS => hsp H a ns hlen hO hS) fun H e s' => hCX H s₁ e s'
end Cs

namespace Cs
open PySem PySem.Spec PyProof.Rows L2
local macro_rules | `(tactic| walk_at "hp") => `(tactic| first | assumption)
local macro_rules | `(tactic| walk_at "num") => `(tactic| first | assumption | omega | decide)
local macro_rules | `(tactic| walk_at "rv") => `(tactic| first
  | (with_reducible exact rv_I0)
  | ((with_reducible apply rv_ixT); (walk_at "hp"); (rfl))
  | ((with_reducible apply rv_eq); (rfl))
  | ((with_reducible apply rv_ne); (rfl))
  | (with_reducible exact rv_isN)
  | (with_reducible exact rv_notN)
  | (with_reducible exact rv_inS)
  | ((with_reducible apply rv_I); (first | exact Or.inr ⟨by walk_at "num", by walk_at "num"⟩ | exact Or.inl ⟨by walk_at "num", by walk_at "num"⟩ | exact ⟨by walk_at "num", by walk_at "num"⟩ | exact ⟨by walk_at "num", by walk_at "num", by walk_at "num"⟩ | walk_at "num"))
  | ((with_reducible apply rv_ixS) <;> walk_at "num"))
local macro_rules | `(tactic| walk_at "rc") => `(tactic| first
  | (with_reducible exact rc_abs) | (with_reducible exact rc_max2) | (with_reducible exact rc_min2) | (with_reducible exact rc_int1)
  | ((with_reducible apply rc_lenT); walk_at "hp") | ((with_reducible apply rc_lenZ); walk_at "num"))
local macro_rules | `(tactic| walk_at "ev") => `(tactic| first
  | (with_reducible exact ev_c)
  | ((with_reducible apply ev_var); rfl)
  | ((with_reducible apply ev_op); (walk_at "ev"); (walk_at "ev"); (walk_at "rv"))
  | ((with_reducible apply ev_un); (walk_at "ev"); (exact ru_neg))
  | ((with_reducible apply ev_cb); (walk_at "ev"); (walk_at "rc"))
  | ((with_reducible apply ev_andV); (walk_at "ev"); (intro _; walk_at "ev"))
  | ((with_reducible apply ev_chain); (walk_at "ev"); (walk_at "ev"); (walk_at "rv"); (intro _; walk_at "ev"); (intro _; walk_at "rv"))
  | (with_reducible exact ea_nil)
  | ((with_reducible apply ea_cons); (walk_at "ev"); (walk_at "ev"))
  | ((with_reducible apply et_test); (walk_at "ev"))
  | ((with_reducible apply et_B); (walk_at "ev"))
  | ((with_reducible apply et_and); (walk_at "ev"); (intro _; walk_at "ev"))
  | ((with_reducible apply et_or); (walk_at "ev"); (intro _; walk_at "ev"))
  | ((with_reducible apply et_not); (walk_at "ev"))
  | (with_reducible exact eo_none)
  | ((with_reducible apply eo_some); (walk_at "ev")))
local macro_rules | `(tactic| walk_at "sz") => `(tactic| exact Nat.le_of_ble_eq_true rfl)
local macro_rules | `(tactic| walk_at "as") => `(tactic| ((with_reducible apply es_asg); (walk_at "ev")))
local macro_rules | `(tactic| walk_at "tp") => `(tactic| ((with_reducible apply ep_tup); (walk_at "ev"); (walk_at "sz")))
local macro_rules | `(tactic| walk_at "no") => `(tactic| ((with_reducible apply es_whenF); ((with_reducible apply et_is); (walk_at "ev"); (decide +kernel))))
local macro_rules | `(tactic| walk_at "yes") => `(tactic| ((with_reducible apply es_whenT); ((with_reducible apply et_is); (walk_at "ev"); (decide +kernel))))
section
variable {P : Program} {w : World} {K : PySem.W.Frag} {mg : Str → Option Value} {base : Heap}
theorem pts_ofS {ts : TS} {σ : L2.St} {H : Hp} {φ : V → Hp → Prop} {ψ : L2.St → Hp → Prop} (h : EvS Same ts σ H φ ψ) : PtS ts σ H φ ψ := fun D q n => h H (Same.refl H) D (fun v H2 _ f => q v H2 f) fun σ2 H2 _ f => n σ2 H2 f
/-- a loop whose body may go on with continue -/
def EvC (ts : TS) (σ : L2.St) (H : Hp) (φ : V → Hp → Prop) (ψ : L2.St → Hp → Prop) : Prop := ∀ H1, Same H H1 → ∀ D : Ends, (∀ v H2, Same H1 H2 → φ v H2 → D.rt v H2) → (∀ σ' H2, Same H1 H2 → ψ σ' H2 → D.nx σ' H2 ∧ D.ct σ' H2) → ts D σ H1
theorem ec_when {t : TT} {us : TS} {σ : L2.St} {H : Hp} {b : Bool} {φ : V → Hp → Prop} {ψ : L2.St → Hp → Prop} (h : EvT Same t σ H b) (h1 : b = true → ∀ H2, Same H H2 → ψ σ H2) (h2 : b = false → EvS Same us σ H φ ψ) : EvC (tSeq (tIfS t tCont tNext) us) σ H φ ψ := fun H1 e D q n =>
  h H1 e _ fun H2 e2 => by
    cases b with
    | true => exact iteT (n σ H2 e2 (h1 rfl H2 (e.trans e2))).2
    | false => exact iteF (h2 rfl H2 (e.trans e2) D (fun v H3 e3 f => q v H3 (e2.trans e3) f) fun σ2 H3 e3 f => (n σ2 H3 (e2.trans e3) f).1)
theorem es_forC {ta : TA} {tb : TS} {j : Nat} {σ : L2.St} {H : Hp} {n : Int} {φ : V → Hp → Prop} {ψ : L2.St → Hp → Prop} (h : EvA Same ta σ H [.int n]) (hn : -(2 ^ 62) ≤ n ∧ n < 2 ^ 62) (Iv : Nat → L2.St → Hp → Prop) (h0 : ∀ H1, Same H H1 → Iv 0 σ H1)
    (hs : ∀ (i : Nat) σ' H1, (i : Int) < n → Same H H1 → Iv i σ' H1 → EvC tb (σ'.set j (some (.int (i : Int)))) H1 φ (Iv (i + 1))) (hd : ∀ σ' H1, Same H H1 → Iv n.toNat σ' H1 → ψ σ' H1) : EvS Same (tFor (iRng1 ta) (gName j) tb) σ H φ ψ := fun H1 e D q nx =>
  ei_rng1 (R := Same) h hn H1 e _ fun H2 e2 => for_it (walk_range (lo := 0) (n := n.toNat)) (fun i σ' H' => Same H2 H' ∧ Iv i σ' H') ⟨Same.refl H2, h0 H2 (e.trans e2)⟩ (fun _ _ _ _ _ => trivial)
    (fun i x σ' H' H'' hi p ⟨eH, hx⟩ => by
      have hx : x = .int (0 + (i : Int)) := hx
      rw [Int.zero_add] at hx
      subst eH hx
      have e0 := e.trans (e2.trans p.1)
      exact hs i σ' _ (by omega) e0 p.2 _ (Same.refl _) _ (fun v H3 e3 f => q v H3 (e2.trans (p.1.trans e3)) f) fun σ2 H3 e3 f => ⟨⟨p.1.trans e3, f⟩, p.1.trans e3, f⟩)
    (fun σ' H' p => nx σ' H' (e2.trans p.1) (hd σ' H' (e.trans (e2.trans p.1)) p.2))
/-- repr of a tuple of identities -/
theorem ev_repr {σ : L2.St} {H : Hp} {te : TE} {ds : List Id3} (h : EvP Same te σ H (AnT fun x => x = ds)) (ok : ∀ d ∈ ds, d.ok) (hl : ds.length ≤ 1000) : Ev Same (tCB (rReprD K) (tCons te tNil)) σ H (.str (PyData.shown (.tuple (ds.map Id3.dat)))) := fun H1 e Q q =>
  h H1 e _ fun v H2 e2 ⟨a, x, hv, hx, hxd⟩ => by
    subst hv hxd
    obtain ⟨r1, r2, r3, r4⟩ := ids_repr ok hl
    exact ⟨a, _, rfl, idT_dp hx, r1, r2, r3, r4, q H2 e2⟩
theorem spv_hits {a : Addr} {wd hg x y : Int} {ps : List Prim} {H : Hp} (k : Ask H a wd hg ps x y) : SpV Same (sp_hits K) [.ref a, .int x, .int y] H (AnT fun d => d = hitsM ps x y) := fun H1 e Q q E => ⟨a, wd, hg, ps, x, y, rfl, k.keep e, fun b as H2 e2 h1 h2 => q _ H2 e2 ⟨b, _, rfl, ⟨as, h1, h2⟩, rfl⟩⟩
theorem spv_lhits {a : Addr} {wd hg x y : Int} {ps : List Prim} {H : Hp} (k : Ask H a wd hg ps x y) : SpV Same (sp_l_hits K) [.ref a, .int x, .int y] H (AnL fun d => d = hitsM ps x y) := fun H1 e Q q E => ⟨a, wd, hg, ps, x, y, rfl, k.keep e, fun b as H2 e2 h1 h2 => q _ H2 e2 ⟨b, _, rfl, ⟨as, h1, h2⟩, rfl⟩⟩
theorem spv_color {a : Addr} {wd hg x y : Int} {ps : List Prim} {H : Hp} (k : Ask H a wd hg ps x y) : SpV Same (sp_color_at K) [.ref a, .int x, .int y] H (fun v _ => v = .str (colM ps x y)) := fun H1 e Q q E => ⟨a, wd, hg, ps, x, y, rfl, k.keep e, fun H2 e2 => q _ H2 e2 rfl⟩
def DamLv (rs : List R4) (x y : Int) (i : Nat) (acc : List V) (_ : Hp) : Prop := acc.length = ((rs.take i).filter fun r => contains r x y).length
theorem damLv_kt {rs : List R4} {x y : Int} (i : Nat) (l : List V) (H1 H2 : Hp) (_ : KT H1 H2) (h : DamLv rs x y i l H1) : DamLv rs x y i l H2 := h
def sp_law (K : PySem.W.Frag) : Sp := fun vs H Q _ => ∃ (a : Addr) (ns : List Int), vs = [.ref a] ∧ SqL K H a (ns.map V.int) ∧ ns.length ≤ 63 ∧ ∀ H', Q (.bl true) H'
theorem ok_law (T : Txt K mg) : FnG P w K mg base CX0 8 (He.ga K "law") (fdOf K (He.ga K "law")) p_l_law (sp_law K) := by
  refine Cs.Fun.okG T.l_law.fn sc_l_law (fun vs H Q E h => ?_) (fun cdv A outer s H vs Q E hr hgu h => ?_)
  · obtain ⟨a, ns, rfl, ha, hn, q⟩ := h
    rfl
  · obtain ⟨a, ns, rfl, ha, hn, q⟩ := h
    refine ⟨_, (pss_cons (ps_set (i := 1) sc_l_law.nd rfl (Or.inl rfl) (pe_call (ok_l_tape T) (hr.mono (by decide)) (by rfl) T.l_tape.mg T.l_tape.fn.kp (bd_l_tape T) .nil pass0 (pa_cons (pv 0) pa_nil))) (pss_cons (ps_set (i := 2) sc_l_law.nd rfl (Or.inl rfl) (pe_op op_add pe_int (pe_call (ok_l_draw T) (hr.mono (by decide)) (by rfl) T.l_draw.mg T.l_draw.fn.kp (bd_l_draw T) .nil pass0 (pa_cons (pv 1) (pa_cons pe_int pa_nil))))) (pss_cons (ps_set (i := 3) sc_l_law.nd rfl (Or.inl rfl) (pe_op op_add pe_int (pe_call (ok_l_draw T) (hr.mono (by decide)) (by rfl) T.l_draw.mg T.l_draw.fn.kp (bd_l_draw T) .nil pass0 (pa_cons (pv 1) (pa_cons pe_int pa_nil))))) (pss_cons (ps_set (i := 4) sc_l_law.nd rfl (Or.inl rfl) (pe_call (ok_l_scene T) (hr.mono (by decide)) (by rfl) T.l_scene.mg T.l_scene.fn.kp (bd_l_scene T) .nil pass0 (pa_cons (pv 1) (pa_cons (pv 2) (pa_cons (pv 3) (pa_cons pe_int (pa_cons (pe_call (ok_l_draw T) (hr.mono (by decide)) (by rfl) T.l_draw.mg T.l_draw.fn.kp (bd_l_draw T) .nil pass0 (pa_cons (pv 1) (pa_cons pe_int pa_nil))) pa_nil))))))) (pss_cons (ps_set (i := 5) sc_l_law.nd rfl (Or.inl rfl) (pe_tup (pa_cons (pv 2) (pa_cons (pv 3) (pa_cons (pe_ix (r := rIxT K) ix_tup (pe_call (ok_l_next_scene T) (hr.mono (by decide)) (by rfl) T.l_next_scene.mg T.l_next_scene.fn.kp (bd_l_next_scene T) .nil pass0 (pa_cons (pv 1) (pa_cons (pv 4) (pa_cons pe_int pa_nil)))) pe_int (fun _ _ => rfl)) pa_nil))))) (pss_cons (ps_set (i := 6) sc_l_law.nd rfl (Or.inl rfl) (pe_call (ok_diff T) (hr.mono (by decide)) (by rfl) T.diff.mg T.diff.fn.kp (bd_diff T) .nil pass0 (pa_cons (pv 4) (pa_cons (pv 5) pa_nil)))) (pss_cons (ps_set (i := 7) sc_l_law.nd rfl (Or.inr rfl) (pe_call (ok_touched T) (hr.mono (by decide)) (by rfl) T.touched.mg T.touched.fn.kp (bd_touched T) .nil pass0 (pa_cons (pv 6) pa_nil))) (pss_cons (ps_for PassesOwn.never rfl (pi_range1 (by rfl) T.b_range (pa_cons (pv 3) pa_nil)) (pg_name (i := 8) sc_l_law.nd rfl (Or.inr rfl)) (pss_one (ps_for PassesOwn.never rfl (pi_range1 (by rfl) T.b_range (pa_cons (pv 2) pa_nil)) (pg_name (i := 9) sc_l_law.nd rfl (Or.inr rfl)) (pss_cons (ps_if (pt_cmpR op_gt (pe_callB (r := rLenQ K) cb_lenQ (by rfl) T.b_len PySem.boot_len (pa_cons (pe_lc (own := [("_law_one", 11)]) (g := gName 11) rfl sc_l_law.nd (pi_tup (pe_ix (r := rIxT K) ix_tup (pv 6) pe_int (fun _ _ => rfl))) (blkOk_by (own := [("_law_one", 11)]) (N := n_l_law) (sc := defScope s_l_law) (by decide +kernel)) (fun _ _ _ _ _ => pg_name (i := 11) sc_l_law.nd rfl (Or.inl rfl)) (fun _ _ _ _ _ => (pts_one (pt_val (pe_call (ok_l_holds T) (hr.mono (by decide)) (by rfl) T.l_holds.mg T.l_holds.fn.kp (bd_l_holds T) .nil pass0 (pa_cons (pv 11) (pa_cons (pv 9) (pa_cons (pv 8) pa_nil))))))) (fun _ _ _ _ _ => (pv 11))) pa_nil)) pe_int (nomark _)) (pss_one ps_continue) pss_nil) (pss_cons (ps_set (i := 10) sc_l_law.nd rfl (Or.inl rfl) (pe_call (ok_hits T) (hr.mono (by decide)) (by rfl) T.hits.mg T.hits.fn.kp (bd_hits T) .nil pass0 (pa_cons (pv 4) (pa_cons (pv 9) (pa_cons (pv 8) pa_nil))))) (pss_cons (ps_if (PW.pt (pw_or (pt_cmpR op_ne (pe_callB (call_reprD (hu65 hr) hgu) (by rfl) T.b_repr PyProof.Rows.boot_repr (pa_cons (pv 10) pa_nil)) (pe_callB (call_reprD (hu65 hr) hgu) (by rfl) T.b_repr PyProof.Rows.boot_repr (pa_cons (pe_callTy cb_tupOf (by rfl) T.b_tuple PyProof.Rows.boot_tuple (pa_cons (pe_call (ok_l_hits T) (hr.mono (by decide)) (by rfl) T.l_hits.mg T.l_hits.fn.kp (bd_l_hits T) .nil pass0 (pa_cons (pv 5) (pa_cons (pv 9) (pa_cons (pv 8) pa_nil)))) pa_nil)) pa_nil)) (nomark _)) (pw_or1 (pt_cmpR op_ne (pe_callB (call_reprD (hu65 hr) hgu) (by rfl) T.b_repr PyProof.Rows.boot_repr (pa_cons (pe_call (ok_hits T) (hr.mono (by decide)) (by rfl) T.hits.mg T.hits.fn.kp (bd_hits T) .nil pass0 (pa_cons (pv 5) (pa_cons (pv 9) (pa_cons (pv 8) pa_nil)))) pa_nil)) (pe_callB (call_reprD (hu65 hr) hgu) (by rfl) T.b_repr PyProof.Rows.boot_repr (pa_cons (pv 10) pa_nil)) (nomark _))))) (pss_one (ps_ret pe_bl)) pss_nil) (pss_cons (ps_if (pt_cmpR op_ne (pe_call (ok_color_at T) (hr.mono (by decide)) (by rfl) T.color_at.mg T.color_at.fn.kp (bd_color_at T) .nil pass0 (pa_cons (pv 4) (pa_cons (pv 9) (pa_cons (pv 8) pa_nil)))) (pe_call (ok_color_at T) (hr.mono (by decide)) (by rfl) T.color_at.mg T.color_at.fn.kp (bd_color_at T) .nil pass0 (pa_cons (pv 5) (pa_cons (pv 9) (pa_cons (pv 8) pa_nil)))) (nomark _)) (pss_one (ps_ret pe_bl)) pss_nil) (pss_one (ps_if (pt_cmpR op_gt (pe_callB (r := rLenQ K) cb_lenQ (by rfl) T.b_len PySem.boot_len (pa_cons (pe_lc (own := [("_law_one", 11)]) (g := gName 11) rfl sc_l_law.nd (pi_tup (pv 10)) (blkOk_by (own := [("_law_one", 11)]) (N := n_l_law) (sc := defScope s_l_law) (by decide +kernel)) (fun _ _ _ _ _ => pg_name (i := 11) sc_l_law.nd rfl (Or.inl rfl)) (fun _ _ _ _ _ => (pts_one (pt_cmpR (r := rInTD K) (op_inTD (hu65 hr)) (pv 11) (pv 7) (by rfl)))) (fun _ _ _ _ _ => (pv 11))) pa_nil)) pe_int (nomark _)) (pss_one (ps_ret pe_bl)) pss_nil))))))))) (pss_one (ps_ret pe_bl)))))))))), ?_⟩
    refine PtS.run (φ := fun v _ => v = .bl true) ?_ fun v H2 p => by rw [p]; exact q H2
    refine pts_asg (pe_of (P := fun v H1 => ∃ t l, v = .ref t ∧ TapeAt t l ns H1) (ep_call (ea_cons (ev_var rfl) ea_nil) fun H1 e Q q E => ⟨a, ns, rfl, e.seq ha, by omega, fun t l H2 e2 h => q _ H2 e2 ⟨t, l, rfl, h⟩⟩)) ?_
    rintro v H1 ⟨_, t, l, rfl, tk⟩
    have dr1 : ∀ {σ : L2.St} {H2 : Hp} {E : XK} {m : Int}, TapeAt t l ns H2 → σ[1]? = some (some (.ref t)) → 1 ≤ m ∧ m < 1000 → EvP (Tp t l ns) (tOp (rI0 fun i j => .int (i + j)) (tC (.int 1)) (tCall (sp_l_draw K) [] E (tCons (tVar 1) (tCons (tC (.int m)) tNil)))) σ H2 (fun v _ => ∃ d : Int, v = .int d ∧ 1 ≤ d ∧ d ≤ m) := fun tk h hm =>
      ep_opR ev_c (ep_draw (K := K) tk (ev_var h) ev_c ⟨hm.1, by omega⟩) fun y H3 e3 ⟨d, hv, h0, h1⟩ => by
        subst hv
        exact EvP.imp (Ev.p (ev_op ev_c ev_c rv_I0)) fun v H4 _ hv => ⟨_, hv, by omega, by omega⟩
    refine pts_asg (peT_of (dr1 (m := 13) tk rfl ⟨by decide, by decide⟩)) ?_
    rintro v H2 ⟨e2, wd, rfl, hw1, hw2⟩
    have tk := tk.keep e2
    refine pts_asg (peT_of (dr1 (m := 9) tk rfl ⟨by decide, by decide⟩)) ?_
    rintro v H3 ⟨e3, hg, rfl, hg1, hg2⟩
    have tk := tk.keep e3
    refine pts_asg (peT_of (P := AScene wd hg 22 6) (ep_callP (PA := fun vs H4 => ∃ m : Int, vs = [.ref t, .int wd, .int hg, .int 10, .int m] ∧ TapeAt t l ns H4 ∧ 0 ≤ m ∧ m < 7) (eap_consE (ev_var rfl) fun Ha ea => eap_consE (ev_var rfl) fun Hb eb => eap_consE (ev_var rfl) fun Hc ec => eap_consE ev_c fun Hd ed => eap_one' (ep_draw (K := K) (m := 7) (tk.keep (Rel.trans ea (Rel.trans eb (Rel.trans ec ed)))) (ev_var rfl) ev_c ⟨by decide, by decide⟩) fun v He ee ⟨m, hv, h0, h1⟩ => ⟨m, by rw [hv], tk.keep (Rel.trans ea (Rel.trans eb (Rel.trans ec (Rel.trans ed ee)))), h0, h1⟩) ?_)) ?_
    · rintro vs H4 e4 ⟨m, rfl, tk4, h0, h1⟩ Q q
      exact ⟨t, l, ns, wd, hg, m, rfl, tk4, ⟨h0, by omega⟩, fun v H5 e5 h => q v H5 e5 h⟩
    rintro v H4 ⟨e4, fa, ps, rfl, hsc, hkey, hpok, hps⟩
    have tk := tk.keep e4
    refine pts_asg (peT_of (P := fun v H5 => ∃ b qs, v = .ref b ∧ SceneAt H5 b wd hg qs ∧ Keyed qs ∧ (∀ q ∈ qs, q.ok) ∧ qs.length ≤ 100) (ep_tupP (PA := fun vs H5 => ∃ ta as qs, vs = [.int wd, .int hg, .ref ta] ∧ H5 ta = some (.tup (as.map V.ref)) ∧ PrimsAt H5 as qs ∧ Keyed qs ∧ (∀ q ∈ qs, q.ok) ∧ qs.length ≤ 100) (eap_consE (ev_var rfl) fun Ha ea => eap_consE (ev_var rfl) fun Hb eb => eap_one' (P := fun v H5 => ∃ ta as qs, v = .ref ta ∧ H5 ta = some (.tup (as.map V.ref)) ∧ PrimsAt H5 as qs ∧ Keyed qs ∧ (∀ q ∈ qs, q.ok) ∧ qs.length ≤ 100) (ep_opL (P := Next) (ep_call (ea_cons (ev_var rfl) (ea_cons (ev_var rfl) (ea_cons ev_c ea_nil))) fun Hc ec Q q E => ⟨t, l, ns, fa, wd, hg, ps, rfl, tk.keep (Rel.trans ea (Rel.trans eb ec)), hsc.keep (Rel.trans ea (Rel.trans eb ec)), hkey, hpok, hps, fun v H6 e6 h => q v H6 e6 h⟩) ?_) fun v Hc ec ⟨ta, as, qs, h1, h2⟩ => ⟨ta, as, qs, by rw [h1], h2⟩) ?_ ?_)) ?_
    · rintro x Hc ec ⟨b, w', h', ta, as, qs, rfl, n1, n2, n3, n4, n5, n6⟩
      exact EvP.imp (Ev.p (ev_op ev_c ev_c (rv_ixT (v := .ref ta) n1 rfl))) fun v Hd ed hv => ⟨ta, as, qs, hv, Rel.tup ed n2, n3.keep ed, n4, n5, n6⟩
    · rintro vs H5 ⟨ta, as, qs, rfl, _⟩
      exact Nat.le_of_ble_eq_true rfl
    · rintro vs H5 p e5 ⟨ta, as, qs, rfl, n2, n3, n4, n5, n6⟩ hp
      have en := same_new (o := .tup [V.int wd, .int hg, .ref ta]) hp
      exact ⟨p, qs, rfl, ⟨ta, as, upd_same, en _ _ n2, n3.keep en⟩, n4, n5, n6⟩
    rintro v H5 ⟨e5, sa, qs, rfl, hsq, hkq, hqok, hqs⟩
    have k1 : Scn H5 fa wd hg ps := ⟨hsc.keep e5, fun p hp => (hpok p hp).1.1, by omega, hkey⟩
    have k2 : Scn H5 sa wd hg qs := ⟨hsq, hqok, by omega, hkq⟩
    refine pts_ofS ?_
    refine es_asgP (P := fun v H6 => ∃ pa rem put da, v = .ref pa ∧ DiffAt H6 pa ps qs wd hg rem put da) (ep_call (ea_cons (ev_var rfl) (ea_cons (ev_var rfl) ea_nil)) fun H6 e6 Q q E => ⟨fa, sa, wd, hg, ps, qs, rfl, k1.keep e6, k2.keep e6, fun pa rem put da H7 e7 h => q _ H7 e7 ⟨pa, rem, put, da, rfl, h⟩⟩) ?_
    rintro v H6 e6 ⟨pa, rem, put, da, rfl, hdf⟩
    have k1 := k1.keep e6
    have k2 := k2.keep e6
    obtain ⟨⟨pr, pp, ov, as, dt, dr, dp, dps⟩, dl1, dl2, ddam, drem, dput⟩ := hdf
    have hpatch : Patch H6 pa rem put := ⟨⟨.non, pr, pp, ov, .ref da, as, dt, dr, dp, dps⟩, dl1, dl2⟩
    refine es_asgP (P := AnT fun d => d = rem ++ put.map Prim.who) (ep_call (ea_cons (ev_var rfl) ea_nil) fun H7 e7 Q q E => ⟨pa, rem, put, rfl, hpatch.keep e7, fun b H8 e8 h => q _ H8 e8 ⟨b, _, rfl, h, rfl⟩⟩) ?_
    rintro v H7 e7 ⟨na, _, rfl, hna, rfl⟩
    have k1 := k1.keep e7
    have k2 := k2.keep e7
    have dt := e7 _ _ dt
    obtain ⟨cs, rs, M, hd1, hd2, hd3, hsp, hcov⟩ := ddam
    have hd1 := e7 _ _ hd1
    have hd2 := hd2.keep e7
    have hrl := pair_len hd2
    have namok : ∀ d ∈ rem ++ put.map Prim.who, d.ok := by
      intro d hd
      rcases List.mem_append.mp hd with h | h
      · obtain ⟨p, hp, e⟩ := List.mem_map.mp (drem d h).2
        rw [← e]
        exact (k1.ok p hp).who
      · obtain ⟨p, hp, e⟩ := List.mem_map.mp h
        rw [← e]
        exact (k2.ok p (dput p hp).1).who
    apply es_seq
    · refine es_forR (n := hg) (by walk_at "ev") ⟨by omega, by omega⟩ (fun i σ' _ => ∃ v8 v9 v10 v11, σ' = [some (.ref a), some (.ref t), some (.int wd), some (.int hg), some (.ref fa), some (.ref sa), some (.ref pa), some (.ref na), v8, v9, v10, v11]) (fun _ _ => ⟨_, _, _, _, rfl⟩) ?_ (ψ := fun _ _ => True) (fun _ _ _ _ => trivial)
      rintro yy σ' H8 hyy e8 ⟨v8, v9, v10, v11, rfl⟩
      refine es_forC (n := wd) (by walk_at "ev") ⟨by omega, by omega⟩ (fun i σ' _ => ∃ v9 v10 v11, σ' = [some (.ref a), some (.ref t), some (.int wd), some (.int hg), some (.ref fa), some (.ref sa), some (.ref pa), some (.ref na), some (.int (yy : Nat)), v9, v10, v11]) (fun _ _ => ⟨_, _, _, rfl⟩) ?_ fun σ2 H9 _ ⟨v9, v10, v11, h⟩ => ⟨_, v9, v10, v11, h⟩
      rintro xx σ' H9 hxx e9 ⟨v9, v10, v11, rfl⟩
      have e79 := e8.trans e9
      have pg : contains ⟨0, 0, wd, hg⟩ (xx : Nat) (yy : Nat) = true := contains_iff.mpr ⟨⟨by show (0 : Int) ≤ _; omega, by show _ < 0 + wd; omega⟩, by show (0 : Int) ≤ _; omega, by show _ < 0 + hg; omega⟩
      have bx : Bd ((xx : Nat) : Int) := ⟨by omega, by omega⟩
      have bY : Bd ((yy : Nat) : Int) := ⟨by omega, by omega⟩
      have a1 : Ask H9 fa wd hg ps (xx : Nat) (yy : Nat) := ⟨(k1.keep e79).at_, k1.ok, k1.len, pg, bx, bY⟩
      have a2 : Ask H9 sa wd hg qs (xx : Nat) (yy : Nat) := ⟨(k2.keep e79).at_, k2.ok, k2.len, pg, bx, bY⟩
      refine ec_when (b := decide ((0 : Int) < ((rs.filter fun r => contains r (xx : Nat) (yy : Nat)).length : Nat))) ?_ (fun _ _ _ => ⟨_, _, _, rfl⟩) fun hout => ?_
      · refine et_test (ev_opL (P := fun v _ => v = .int ((rs.filter fun r => contains r (xx : Nat) (yy : Nat)).length : Nat)) (ep_cbL (Lv := fun acc _ => acc.length = (rs.filter fun r => contains r (xx : Nat) (yy : Nat)).length) (EvP.imp (lc_ofT (K := K) (a := da) (xs := cs.map V.ref) (ev_op (ev_var rfl) ev_c (rv_ixT (e79 _ _ dt) rfl)) (e79 _ _ hd1) (by rw [List.length_map]; omega) (DamLv rs (xx : Nat) (yy : Nat)) damLv_kt rfl ?_ (fun _ => rfl)) ?_) ?_) ?_)
        · intro i x acc H10 e10 hx hacc
          obtain ⟨c, rfl, hc⟩ := map_get hx
          obtain ⟨r, hr, hrc⟩ := pair_get hd2 hc
          have hacc : acc.length = _ := hacc
          refine ⟨contains r (xx : Nat) (yy : Nat), et_B (ev_call (by walk_at "ev") (spv_holds (K := K) ((e79.trans e10) _ _ hrc))), fun hh => EvP.imp (Ev.p (ev_var (v := .ref c) rfl)) fun v H11 e11 hv => ?_, fun hh => ?_⟩
          · show (acc ++ [v]).length = ((rs.take (i + 1)).filter _).length
            rw [take_filter hr, if_pos hh, List.length_append, List.length_append, hacc]
            rfl
          · show acc.length = ((rs.take (i + 1)).filter _).length
            rw [take_filter hr, if_neg (by rw [hh]; decide), hacc]
        · rintro v H10 e10 ⟨p, acc, hv, hp, hacc⟩
          refine ⟨p, acc, hv, hp, ?_⟩
          have hacc : acc.length = _ := hacc
          show acc.length = _
          rw [hacc, List.length_map, hrl, List.take_length]
        · rintro p acc H10 e10 hp hacc Q q
          exact ⟨p, acc, rfl, .inl (SqL.of hp), q _ H10 (Same.refl _) (by rw [hacc])⟩
        · rintro x H10 e10 rfl
          exact ev_op ev_c ev_c rv_I0
      have out : ∀ r ∈ rs, contains r (xx : Nat) (yy : Nat) = false := by
        intro r hr
        cases h : contains r (xx : Nat) (yy : Nat) with
        | false => rfl
        | true =>
          have hm : r ∈ rs.filter fun r => contains r (xx : Nat) (yy : Nat) := List.mem_filter.mpr ⟨hr, h⟩
          have := List.length_pos_of_mem hm
          exact absurd (show (0 : Int) < ((rs.filter fun r => contains r (xx : Nat) (yy : Nat)).length : Nat) by omega) (of_decide_eq_false hout)
      have still : ∀ p, (p ∈ ps ∨ p ∈ qs) → Prim.hit (xx : Nat) (yy : Nat) p = true → Still ps qs M p.who := by
        intro p hp hh
        cases hst : stB ps qs M p.who with
        | true => exact stB_iff.mp hst
        | false =>
          obtain ⟨r, hr, hc⟩ := hcov p hp hst _ _ pg (hit_geo hh)
          rw [out r hr] at hc
          cases hc
      have hsame := hit_same k1.key k2.key hsp (fun p hp hh => still p (.inl hp) hh) (fun p hp hh => still p (.inr hp) hh)
      have hh : hitsM ps (xx : Nat) (yy : Nat) = hitsM qs (xx : Nat) (yy : Nat) := hitsM_of hsame
      have hc : colM ps (xx : Nat) (yy : Nat) = colM qs (xx : Nat) (yy : Nat) := colM_of hsame
      have hok : ∀ d ∈ hitsM ps (xx : Nat) (yy : Nat), d.ok := by
        intro d hd
        obtain ⟨p, hp, _, e⟩ := hitsM_mem hd
        rw [← e]
        exact (k1.ok p hp).who
      have hlen : (hitsM ps (xx : Nat) (yy : Nat)).length ≤ 1000 := by
        unfold hitsM
        rw [List.length_map]
        have h1 := List.length_filter_le (Prim.hit (xx : Nat) (yy : Nat)) ps.reverse
        rw [List.length_reverse] at h1
        have := k1.len
        omega
      refine es_asgP (ep_call (by walk_at "ev") (spv_hits (K := K) a1)) ?_
      rintro v H10 e10 ⟨fd, _, rfl, hfd, rfl⟩
      have a1 := a1.keep e10
      have a2 := a2.keep e10
      apply es_whenF
      · refine et_is (a := (!decide (V.str (PyData.shown (.tuple ((hitsM ps (xx : Nat) (yy : Nat)).map Id3.dat))) = V.str (PyData.shown (.tuple ((hitsM ps (xx : Nat) (yy : Nat)).map Id3.dat))))) || (!decide (V.str (PyData.shown (.tuple ((hitsM ps (xx : Nat) (yy : Nat)).map Id3.dat))) = V.str (PyData.shown (.tuple ((hitsM ps (xx : Nat) (yy : Nat)).map Id3.dat)))))) (et_or (et_test (ev_op (ev_repr (K := K) (ds := hitsM ps (xx : Nat) (yy : Nat)) ?_ hok hlen) (ev_repr (K := K) (ds := hitsM ps (xx : Nat) (yy : Nat)) ?_ hok hlen) (rv_ne rfl))) fun _ => et_test (ev_op (ev_repr (K := K) (ds := hitsM ps (xx : Nat) (yy : Nat)) ?_ hok hlen) (ev_repr (K := K) (ds := hitsM ps (xx : Nat) (yy : Nat)) ?_ hok hlen) (rv_ne rfl))) (by simp)
        · exact EvP.imp (Ev.p (ev_var (v := .ref fd) rfl)) fun v H11 e11 hv => ⟨fd, _, hv, hfd.keep e11, rfl⟩
        · rw [hh]
          exact ep_tupIds (ep_call (by walk_at "ev") (spv_lhits (K := K) a2))
        · rw [hh]
          exact ep_call (by walk_at "ev") (spv_hits (K := K) a2)
        · exact EvP.imp (Ev.p (ev_var (v := .ref fd) rfl)) fun v H11 e11 hv => ⟨fd, _, hv, hfd.keep e11, rfl⟩
      apply es_whenF
      · refine et_is (a := !decide (V.str (colM ps (xx : Nat) (yy : Nat)) = V.str (colM qs (xx : Nat) (yy : Nat)))) (et_test (ev_op (ev_call (by walk_at "ev") (spv_color (K := K) a1)) (ev_call (by walk_at "ev") (spv_color (K := K) a2)) (rv_ne rfl))) ?_
        rw [hc]
        simp
      obtain ⟨bs, f1, f2⟩ := id hfd
      have hbl := pair_len f2
      refine es_if1F ?_ (es_next fun _ _ => ⟨_, _, _, rfl⟩)
      refine et_is (a := decide ((0 : Int) < (0 : Nat))) (et_test (ev_opL (P := fun v _ => v = .int (0 : Nat)) (ep_cbL (Lv := fun acc _ => acc = []) (EvP.imp (lc_ofT (K := K) (a := fd) (xs := bs.map V.ref) (by walk_at "ev") f1 (by rw [List.length_map]; omega) (fun _ acc _ => acc = []) (fun _ _ _ _ _ h => h) rfl ?_ (fun _ => rfl)) fun v H11 e11 h => h) ?_) ?_)) (by decide)
      · intro i x acc H11 e11 hx hacc
        obtain ⟨c, rfl, hcc⟩ := map_get hx
        obtain ⟨k, hk, hkc⟩ := pair_get f2 hcc
        have hkm := List.mem_of_getElem? hk
        have hnot : k ∉ rem ++ put.map Prim.who := by
          obtain ⟨p, hp, hph, hpe⟩ := hitsM_mem hkm
          obtain ⟨st1, st2⟩ := still p (.inl hp) hph
          have hpq := still_mem k2.key k1.key hp st1
          intro hm
          rcases List.mem_append.mp hm with h | h
          · exact (drem k h).1 (by rw [← hpe]; exact List.mem_map_of_mem hpq)
          · obtain ⟨r, hr, hre⟩ := List.mem_map.mp h
            have : r = p := keyed_inj k2.key (dput r hr).1 hpq (by rw [hre, hpe])
            subst this
            exact (dput r hr).2 hp
        refine ⟨false, ?_, fun z => absurd z Bool.false_ne_true, fun _ => hacc⟩
        have e711 := (e79.trans e10).trans e11
        refine et_is (a := decide (k ∈ rem ++ put.map Prim.who)) ?_ (decide_eq_false hnot)
        rw [← any_ids]
        exact et_test (ev_op (ev_var (v := .ref c) rfl) (ev_var rfl) fun H12 e12 Q q => ⟨k.dat, (rem ++ put.map Prim.who).map Id3.dat, id_dp ((e11.trans e12) _ _ hkc), idT_dp (hna.keep (e711.trans e12)), shaped_id (hok k hkm), shaped_ids namok, q H12 (Same.refl H12)⟩)
      · rintro p acc H11 e11 hp rfl Q q
        exact ⟨p, [], rfl, .inl (SqL.of hp), q _ H11 (Same.refl _) rfl⟩
      · rintro x H11 e11 rfl
        exact ev_op ev_c ev_c rv_I0
    · rintro σ' H8 e8 _
      exact es_ret ev_c fun _ _ => rfl
end
end Cs

namespace Cs
open PySem PySem.Spec PyProof.Rows L2
theorem bind_law {K : PySem.W.Frag} {mg : Str → Option Value} (T : Txt K mg) (s : Shared) (v : Value) : BindsTo s (fdOf K (He.ga K "law")) ⟨[v], []⟩ [("_law_script", v)] := by
  obtain ⟨oc, od, kV, doc, pm, an, cdv, ct, osl, e, _, _⟩ := T.l_law.fn.ex
  rw [e]
  exact .of_eq rfl
end Cs
namespace Cs
open PySem PySem.Spec PyProof.Rows L2
def hdef (x : Str) (st : Stmt) : He.FnD := ⟨(x, none), x, x, defArgs st, defBody st, defScope st⟩
def fn : List He.FnD := [hdef "contains" s_contains, hdef "common" s_common, hdef "hull" s_hull, hdef "glyph_width" s_glyph_width, hdef "text_width" s_text_width, hdef "inked" s_inked, hdef "around" s_around, hdef "line_covers" s_line_covers, hdef "polyline_covers" s_polyline_covers, hdef "covers" s_covers, hdef "identity" s_identity, hdef "page_of" s_page_of, hdef "reach" s_reach, hdef "visible_part" s_visible_part, hdef "paint_of" s_paint_of, hdef "hits" s_hits, hdef "color_at" s_color_at, hdef "merged_order" s_merged_order, hdef "touched" s_touched, hdef "by_identity" s_by_identity, hdef "kept_names" s_kept_names, hdef "moved" s_moved, hdef "damage" s_damage, hdef "diff" s_diff, hdef "_law_tape" s_l_tape, hdef "_law_draw" s_l_draw, hdef "_law_holds" s_l_holds, hdef "_law_sign_width" s_l_sign_width, hdef "_law_width" s_l_width, hdef "_law_inked" s_l_inked, hdef "_law_around" s_l_around, hdef "_law_on_line" s_l_on_line, hdef "_law_covers" s_l_covers, hdef "_law_paint" s_l_paint, hdef "_law_word" s_l_word, hdef "_law_color" s_l_color, hdef "_law_form" s_l_form, hdef "_law_clip" s_l_clip, hdef "_law_identity" s_l_identity, hdef "_law_new_identity" s_l_new_identity, hdef "_law_primitive" s_l_primitive, hdef "_law_identities" s_l_identities, hdef "_law_scene" s_l_scene, hdef "_law_changed_item" s_l_changed_item, hdef "_law_turned_items" s_l_turned_items, hdef "_law_next_scene" s_l_next_scene, hdef "_law_hits" s_l_hits, hdef "law" s_l_law]
def fa0 : List He.Fa := [.glo "contains", .glo "common", .glo "hull", .glo "glyph_width", .glo "text_width", .glo "inked", .glo "around", .glo "line_covers", .glo "polyline_covers", .glo "covers", .glo "identity", .glo "page_of", .glo "reach", .glo "visible_part", .glo "paint_of", .glo "hits", .glo "color_at", .glo "merged_order", .glo "touched", .glo "by_identity", .glo "kept_names", .glo "moved", .glo "damage", .glo "diff", .glo "_law_tape", .glo "_law_draw", .glo "_law_holds", .glo "_law_sign_width", .glo "_law_width", .glo "_law_inked"]
def fa1 : List He.Fa := [.glo "_law_around", .glo "_law_on_line", .glo "_law_covers", .glo "_law_paint", .glo "_law_word", .glo "_law_color", .glo "_law_form", .glo "_law_clip", .glo "_law_identity", .glo "_law_new_identity", .glo "_law_primitive", .glo "_law_identities", .glo "_law_scene", .glo "_law_changed_item", .glo "_law_turned_items", .glo "_law_next_scene", .glo "_law_hits", .glo "law", .keep "contains", .keep "common", .keep "hull", .keep "glyph_width", .keep "text_width", .keep "inked", .keep "around", .keep "line_covers", .keep "polyline_covers", .keep "covers", .keep "identity", .keep "page_of"]
def fa2 : List He.Fa := [.keep "reach", .keep "visible_part", .keep "paint_of", .keep "hits", .keep "color_at", .keep "merged_order", .keep "touched", .keep "by_identity", .keep "kept_names", .keep "moved", .keep "damage", .keep "diff", .keep "_law_tape", .keep "_law_draw", .keep "_law_holds", .keep "_law_sign_width", .keep "_law_width", .keep "_law_inked", .keep "_law_around", .keep "_law_on_line", .keep "_law_covers", .keep "_law_paint", .keep "_law_word", .keep "_law_color", .keep "_law_form", .keep "_law_clip", .keep "_law_identity", .keep "_law_new_identity", .keep "_law_primitive", .keep "_law_identities"]
def fa3 : List He.Fa := [.keep "_law_scene", .keep "_law_changed_item", .keep "_law_turned_items", .keep "_law_next_scene", .keep "_law_hits", .keep "law", .int "HEIGHT" 7, .str "ONE" "!'.:i|", .str "TWO" "(),;[]`jl", .str "THREE" " \"*-/1<>I\\^frt{}", .str "FOUR" "$023456789=?J_abcdeghknopqsuvxyz", .str "WHITE" "#ffffff", .free "max", .free "min", .free "abs", .free "len", .free "sum", .free "int", .free "str", .free "list", .free "tuple", .free "range", .free "reversed", .free "repr"]
def fa : List He.Fa := fa0 ++ fa1 ++ fa2 ++ fa3
abbrev R : PySem.W.OpenRow := PySem.W.OpenLaw.row PySem.Challenge.rw_chartspec_k63_whole_hits_outside_the_dam
abbrev hk : PySem.W.Hook := He.hookE 4 fa fn
def ob (s : PySem.W.SharedT) : He.Al := He.obsG 4 fa fn (HandSHeadRun.getT s)
theorem ob_eq (s : PySem.W.SharedT) : ob s = hk.obs s.abs := He.obsG_eq (HandSHeadRun.getT_eq s)
def loose1 : List Str := [(Str.ofString "contains"), (Str.ofString "common"), (Str.ofString "hull"), (Str.ofString "glyph_width"), (Str.ofString "text_width"), (Str.ofString "inked"), (Str.ofString "around"), (Str.ofString "line_covers"), (Str.ofString "polyline_covers"), (Str.ofString "covers"), (Str.ofString "identity"), (Str.ofString "page_of"), (Str.ofString "reach"), (Str.ofString "visible_part"), (Str.ofString "paint_of"), (Str.ofString "hits"), (Str.ofString "color_at"), (Str.ofString "merged_order"), (Str.ofString "touched"), (Str.ofString "by_identity"), (Str.ofString "kept_names"), (Str.ofString "moved"), (Str.ofString "damage"), (Str.ofString "diff"), (Str.ofString "_law_tape"), (Str.ofString "_law_draw"), (Str.ofString "_law_holds"), (Str.ofString "_law_sign_width")]
def loose2 : List Str := [(Str.ofString "_law_width"), (Str.ofString "_law_inked"), (Str.ofString "_law_around"), (Str.ofString "_law_on_line"), (Str.ofString "_law_covers"), (Str.ofString "_law_paint"), (Str.ofString "_law_word"), (Str.ofString "_law_color"), (Str.ofString "_law_form"), (Str.ofString "_law_clip"), (Str.ofString "_law_identity"), (Str.ofString "_law_new_identity"), (Str.ofString "_law_primitive"), (Str.ofString "_law_identities"), (Str.ofString "_law_scene"), (Str.ofString "_law_changed_item"), (Str.ofString "_law_turned_items"), (Str.ofString "_law_next_scene"), (Str.ofString "_law_hits"), (Str.ofString "HEIGHT"), (Str.ofString "ONE"), (Str.ofString "TWO"), (Str.ofString "THREE"), (Str.ofString "FOUR"), (Str.ofString "WHITE")]
theorem run (w : World) : HandSHeadRun.RunEq R (PySem.W.view R.prog [61]) hk ob 2000 (loose1 ++ loose2) w := by
  intro os
  kernel_rfl
theorem fdOf_eq {K : PySem.W.Frag} {a : Addr} {oc : Value} {od : Option Addr} {fd : FuncData} {osl : Array (Option Value)} (h : K.lookup a = some ⟨oc, od, .func fd, osl⟩) : fdOf K a = fd := by
  unfold fdOf
  rw [h]
theorem def_of {K : PySem.W.Frag} {h : Heap} {mg : Str → Option Value} (X : K.In h) (G : h.Ns mainGlobals mg) (c : He.SaysE fa fn K) {x : Str} {st : Stmt} (i j k : Nat) (hi : fn[i]? = some (hdef x st)) (hj : fa[j]? = some (.glo x)) (hk : fa[k]? = some (.keep x)) : DefOk K mg x st := by
  obtain ⟨oc, od, osl, kV, doc, pm, an, cdv, ct, l, cd⟩ := c.def_ i hi
  refine ⟨?_, He.glo_ok X G (c.fact j hj)⟩
  have l2 : K.lookup (He.ga K x) = some ⟨oc, od, .func (PySem.W.fnOf x x (defArgs st) (defBody st) (defScope st) .none kV doc pm an cdv ct), osl⟩ := l
  rw [fdOf_eq l2]
  exact fun_mk l2 cd (He.keep_ok (c.fact k hk))
theorem txt_of {K : PySem.W.Frag} {h : Heap} {mg : Str → Option Value} (X : K.In h) (G : h.Ns mainGlobals mg) (c : He.SaysE fa fn K) : Txt K mg := ⟨
  def_of X G c 0 0 48 rfl rfl rfl,
  def_of X G c 1 1 49 rfl rfl rfl,
  def_of X G c 2 2 50 rfl rfl rfl,
  def_of X G c 3 3 51 rfl rfl rfl,
  def_of X G c 4 4 52 rfl rfl rfl,
  def_of X G c 5 5 53 rfl rfl rfl,
  def_of X G c 6 6 54 rfl rfl rfl,
  def_of X G c 7 7 55 rfl rfl rfl,
  def_of X G c 8 8 56 rfl rfl rfl,
  def_of X G c 9 9 57 rfl rfl rfl,
  def_of X G c 10 10 58 rfl rfl rfl,
  def_of X G c 11 11 59 rfl rfl rfl,
  def_of X G c 12 12 60 rfl rfl rfl,
  def_of X G c 13 13 61 rfl rfl rfl,
  def_of X G c 14 14 62 rfl rfl rfl,
  def_of X G c 15 15 63 rfl rfl rfl,
  def_of X G c 16 16 64 rfl rfl rfl,
  def_of X G c 17 17 65 rfl rfl rfl,
  def_of X G c 18 18 66 rfl rfl rfl,
  def_of X G c 19 19 67 rfl rfl rfl,
  def_of X G c 20 20 68 rfl rfl rfl,
  def_of X G c 21 21 69 rfl rfl rfl,
  def_of X G c 22 22 70 rfl rfl rfl,
  def_of X G c 23 23 71 rfl rfl rfl,
  def_of X G c 24 24 72 rfl rfl rfl,
  def_of X G c 25 25 73 rfl rfl rfl,
  def_of X G c 26 26 74 rfl rfl rfl,
  def_of X G c 27 27 75 rfl rfl rfl,
  def_of X G c 28 28 76 rfl rfl rfl,
  def_of X G c 29 29 77 rfl rfl rfl,
  def_of X G c 30 30 78 rfl rfl rfl,
  def_of X G c 31 31 79 rfl rfl rfl,
  def_of X G c 32 32 80 rfl rfl rfl,
  def_of X G c 33 33 81 rfl rfl rfl,
  def_of X G c 34 34 82 rfl rfl rfl,
  def_of X G c 35 35 83 rfl rfl rfl,
  def_of X G c 36 36 84 rfl rfl rfl,
  def_of X G c 37 37 85 rfl rfl rfl,
  def_of X G c 38 38 86 rfl rfl rfl,
  def_of X G c 39 39 87 rfl rfl rfl,
  def_of X G c 40 40 88 rfl rfl rfl,
  def_of X G c 41 41 89 rfl rfl rfl,
  def_of X G c 42 42 90 rfl rfl rfl,
  def_of X G c 43 43 91 rfl rfl rfl,
  def_of X G c 44 44 92 rfl rfl rfl,
  def_of X G c 45 45 93 rfl rfl rfl,
  def_of X G c 46 46 94 rfl rfl rfl,
  def_of X G c 47 47 95 rfl rfl rfl,
  He.int_ok X G (c.fact 96 rfl),
  He.str_ok X G (c.fact 97 rfl),
  He.str_ok X G (c.fact 98 rfl),
  He.str_ok X G (c.fact 99 rfl),
  He.str_ok X G (c.fact 100 rfl),
  He.str_ok X G (c.fact 101 rfl),
  He.free_ok X G (c.fact 102 rfl),
  He.free_ok X G (c.fact 103 rfl),
  He.free_ok X G (c.fact 104 rfl),
  He.free_ok X G (c.fact 105 rfl),
  He.free_ok X G (c.fact 106 rfl),
  He.free_ok X G (c.fact 107 rfl),
  He.free_ok X G (c.fact 108 rfl),
  He.free_ok X G (c.fact 109 rfl),
  He.free_ok X G (c.fact 110 rfl),
  He.free_ok X G (c.fact 111 rfl),
  He.free_ok X G (c.fact 112 rfl),
  He.free_ok X G (c.fact 113 rfl)⟩
end Cs
open PySem PySem.W PySem.Calls PyProof.Rows
theorem PySem.Challenge.cw_chartspec_k63_whole_hits_outside_the_dam_holds : PySem.Challenge.rw_chartspec_k63_whole_hits_outside_the_dam.Holds := by
  w_on; o_law
  refine HandSHeadRun.head_any (r := OpenLaw.row PySem.Challenge.rw_chartspec_k63_whole_hits_outside_the_dam) (q := view (OpenLaw.row PySem.Challenge.rw_chartspec_k63_whole_hits_outside_the_dam).prog [61]) (H := Cs.hk) (ob := Cs.ob) (M := 2000) (loose := Cs.loose1 ++ Cs.loose2) (d := HandSHeadRun.topDef (OpenLaw.row PySem.Challenge.rw_chartspec_k63_whole_hits_outside_the_dam).prog 61) (kwd := []) Cs.ob_eq
    (by kernel_rfl) (fun s => by kernel_rfl) Cs.run (by kernel_rfl) (by kernel_rfl) (by kernel_rfl) (by rfl) (by first | assumption | decide +kernel) (by decide +kernel) ⟨rfl, rfl, rfl, rfl, rfl, by decide +kernel⟩ ?hw ?hc
  case hw => w_witness2
  case hc =>
    refine Cs.walk_ofG (l := PySem.Challenge.rw_chartspec_k63_whole_hits_outside_the_dam) (n := 63) (k := 8) (x := "_law_script") (CX := L2.CX0) rfl (by decide) (by kernel_rfl) ⟨rfl, by decide, by decide⟩ ?F (fun _ _ _ _ z => z)
    intro w mg fa h Y G hmg0
    obtain ⟨K, KX, c⟩ := Y
    have hmg : mg ("law" : PySem.Str) = some (.ref fa) := by
      have e : (HandSHeadRun.topDef (OpenLaw.row PySem.Challenge.rw_chartspec_k63_whole_hits_outside_the_dam).prog 61).name = ("law" : PySem.Str) := by kernel_rfl
      rw [← e]
      exact hmg0
    have T := Cs.txt_of KX G c
    have e := hmg.symm.trans T.l_law.mg
    cases e
    exact ⟨K, _, Cs.sp_law K, KX, fun s v => Cs.bind_law T s v, fun H a ns hl _ hS => ⟨a, ns, rfl, hS, hl, fun _ => rfl⟩, fun base _ _ => Cs.ok_law T⟩
