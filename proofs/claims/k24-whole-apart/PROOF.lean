import PyProof.Rows.All
import Wide.All
import OpenK.AllK
import Wide.FinOn
import KE.KStateDown
import HandS.ForMost
import HandS.ForExc
import HandS.Flow
import HandS.Walk
import HandS.Deep
import HandS.IsInst
import HandS.Defaults
import HandS.Codes
import HandS.Head0
import HandS.Head1
import HandS.Head2
import HandS.HeadEnd
import HandS.HeadHook1
import HandS.HeadHook2
import KE.KExcIs
import HandS.ExcField
import HandS.ExcInit
import HandS.CallSlots
import HandS.Dict
import HandS.Iter
import HandS.WordsDict
import HandS.Finally
import HandS.More
import KE.DataMinMax
import HandS.Style
import HandS.StrMore
import HandS.TupAny
import KE.KDictList
import HandS.Sort
import HandS.ListItems
import HandS.SetFor
import HandS.TupLe
import KE.DataFind
import PyProof.NeKinds
import KE.SortData
import KE.KDictPairs
import HandS.SortInts
import PySem.Challenge.RW_treemounts_k24_whole_apart
set_option Elab.async false
set_option linter.all false
set_option maxRecDepth 100000
set_option maxHeartbeats 4000000
/-! what the head looks at -/
namespace Tm
open PySem PySem.Spec PyProof.Rows L2
def exCB (K : PySem.W.Frag) (C : Addr) : Bool := (PySem.W.clsIn K C).isSome && (decide (PySem.W.findIn K (.ref C) "__getattribute__" = some (some (.builtin "BaseException.__getattribute__"))) && (decide (PySem.W.findIn K (.ref C) "__getattr__" = some none) && (decide (PySem.W.subIn K (.ref C) (.type "BaseException") = some true) &&
  (decide (PySem.W.findIn K (.ref C) "__class__" = some (some (.builtin "object.__class__"))) && (decide (PySem.W.specialIn K (.builtin "object.__class__") "__get__" = some (some (.builtin "getset_descriptor.__get__"))) && (decide (PySem.W.takesIn K (.builtin "object.__class__") = some true) && decide (PySem.W.mroIn K C (.type "object") = some true)))))))
def errNames : List Str := ["BadPath", "BadText", "BadRights", "NoUser", "NoRight", "NoName", "NotRoom", "NotLeaf", "NotHint", "Taken", "TooDeep", "Busy", "BadMove"]
def errC (K : PySem.W.Frag) (i : Nat) : Addr := He.ga K (errNames.getD i "")
def errB1 (K : PySem.W.Frag) (i : Nat) : Bool := exCB K (errC K i) && ((List.range 13).all (fun j => decide (PySem.W.kitOne K (.ref (errC K i)) (.ref (errC K j)) = some (decide (i = j)))) && (decide (PySem.W.kitOne K (.ref (errC K i)) (.ref (He.ga K "WorldError")) = some true) &&
  (decide (PySem.W.kitOne K (.ref (errC K i)) (.type "ValueError") = some true) && decide (PySem.W.exmOne K (.ref (errC K i)) (.ref (He.ga K "WorldError")) = some true))))
def errB (K : PySem.W.Frag) : Bool := (List.range 13).all (errB1 K)
def xfK5B (K : PySem.W.Frag) : Bool := xfB K (errC K 4) && (xfB K (errC K 5) && (decide (PySem.W.findIn K (.ref (errC K 4)) "number" = some none) && decide (PySem.W.findIn K (.ref (errC K 5)) "name" = some none)))
abbrev AlE : Type := He.AlD × Bool
def obsE (fa : List He.Fa) (fn : List He.DefD) (ex : PySem.W.Frag → Bool) (K : PySem.W.Frag) : AlE := (He.obsD fa fn K, ex K)
def obsEG (n : Nat) (fa : List He.Fa) (fn : List He.DefD) (ex : PySem.W.Frag → Bool) (g : Addr → Option Obj) : AlE := obsE fa fn ex (He.frG g (He.asD g n))
def hookE (n : Nat) (fa : List He.Fa) (fn : List He.DefD) (ex : PySem.W.Frag → Bool) : PySem.W.Hook where
  α := AlE
  obs := fun s => obsEG n fa fn ex s.heap.get?
  val := fun _ => (He.valD fn, true)
  says := fun _ h => ∃ K : PySem.W.Frag, K.In h ∧ He.SaysD fa fn K ∧ ex K = true
  of := fun _ _ e => ⟨_, He.frG_in, congrArg (fun z : AlE => z.1) e, congrArg (fun z : AlE => z.2) e⟩
  keeps := fun _ _ _ ⟨K, hK, c⟩ k => ⟨K, PySem.W.Frag.In.keeps hK k, c⟩
theorem obsEG_eq {n : Nat} {fa : List He.Fa} {fn : List He.DefD} {ex : PySem.W.Frag → Bool} {g : Addr → Option Obj} {s : Shared} (h : ∀ a, g a = s.heap.get? a) : obsEG n fa fn ex g = (hookE n fa fn ex).obs s := by
  have e : g = s.heap.get? := funext h
  rw [e] <;> rfl
def houseFs : List Str := ["groups", "nodes", "made", "over"]
def nodeFs : List Str := ["kind", "owner", "group", "rights", "names", "text", "count"]
def standFs : List Str := ["number", "name", "under"]
def clsB (K : PySem.W.Frag) : Bool := (He.Fa.cls "House").ok K && ((He.Fa.cls "Node").ok K && ((He.Fa.cls "Stand").ok K && ((houseFs.all fun f => (He.Fa.noat "House" f).ok K) && ((nodeFs.all fun f => (He.Fa.noat "Node" f).ok K) && (standFs.all fun f => (He.Fa.noat "Stand" f).ok K)))))
def oexB0 (K : PySem.W.Frag) (C : Addr) : Bool := match K.lookup C with
  | some ⟨.type "type", _, .cls cd, sl⟩ => (match cd.mro, sl.toList with
    | .ref C' :: bm, [_, _, _, _, some (.builtin n), _] => C' == C && (n == "ValueError.__new__" && (!cd.hasDel && (cd.hasDict && PySem.HandSPX.refsVE bm)))
    | _, _ => false)
  | _ => false
def oexB (K : PySem.W.Frag) (C : Addr) : Bool := oexB0 K C && (decide (PySem.W.findIn K (.ref C) "__setattr__" = some (some (.builtin "object.__setattr__"))) && (decide (PySem.W.subIn K (.ref C) (.type "BaseException") = some true) && (decide (PySem.W.typeIn K (.ref C) = some (.type "type")) && PySem.W.keepIn K (.ref C))))
def iniB (K : PySem.W.Frag) (x : Str) (fs : List Str) : Bool := oexB K (He.ga K x) && (decide (PySem.W.findIn K (.ref (He.ga K x)) "__init__" = some (some (.ref (He.ma K (He.ga K x) "__init__")))) && (decide (PySem.W.typeIn K (.ref (He.ma K (He.ga K x) "__init__")) = some (.type "function")) && fs.all fun f => decide (PySem.W.findIn K (.ref (He.ga K x)) f = some none)))
def moreB (K : PySem.W.Frag) : Bool := errB K && (xfK5B K && (clsB K && (iniB K "NoRight" ["user", "number"] && iniB K "NoName" ["name"])))
end Tm

namespace Tm
open PySem L2
def top (i : Nat) : Stmt := PySem.Challenge.pw_treemounts_k24_whole_apart.main.body.getD i (.Pass ⟨0, 0, 0, 0⟩)
abbrev s_NoRight___init__ : Stmt := inClass (top 7) 0
abbrev s_World_may : Stmt := inClass (top 37) 2
abbrev s_World_look_right : Stmt := inClass (top 37) 3
abbrev s_NoName___init__ : Stmt := inClass (top 8) 0
abbrev s_Stand___init__ : Stmt := inClass (top 34) 0
abbrev s_World_stand_at : Stmt := inClass (top 37) 5
abbrev s_is_name : Stmt := top 21
abbrev s_is_part : Stmt := top 22
abbrev s_parts_of : Stmt := top 23
abbrev s_World_way : Stmt := inClass (top 37) 6
abbrev s_World_room_of : Stmt := inClass (top 37) 8
abbrev s_path_of : Stmt := top 24
abbrev s_split_last : Stmt := top 25
abbrev s_House_place_for : Stmt := inClass (top 46) 0
abbrev s_House_free_place : Stmt := inClass (top 46) 1
abbrev s_World_end_of : Stmt := inClass (top 37) 7
abbrev s_is_small : Stmt := top 35
abbrev s_World_look_user : Stmt := inClass (top 37) 1
abbrev s_House_link : Stmt := inClass (top 46) 6
abbrev s_Node___init__ : Stmt := inClass (top 33) 0
abbrev s_World_new_node : Stmt := inClass (top 37) 4
abbrev s_House_made_at : Stmt := inClass (top 46) 2
abbrev s_House_make_hint : Stmt := inClass (top 46) 5
abbrev s_look_rights : Stmt := top 36
abbrev s_look_text : Stmt := top 45
abbrev s_House_make_leaf : Stmt := inClass (top 46) 4
abbrev s_House_make_room : Stmt := inClass (top 46) 3
abbrev s_House_read : Stmt := inClass (top 46) 13
abbrev s_House_write : Stmt := inClass (top 46) 11
abbrev s_World___init__ : Stmt := inClass (top 37) 0
abbrev s_law_draw : Stmt := top 59
abbrev s_law_pick : Stmt := top 60
abbrev s_law_town : Stmt := top 58
abbrev s_about : Stmt := top 49
abbrev s_beneath : Stmt := top 54
abbrev s_copied : Stmt := top 41
abbrev s_House_is_bound : Stmt := inClass (top 46) 8
abbrev s_World_rooms_beneath : Stmt := inClass (top 37) 9
abbrev s_look_free : Stmt := top 39
abbrev s_copy_room : Stmt := top 40
abbrev s_count_of : Stmt := top 55
abbrev s_found_names : Stmt := top 56
abbrev s_is_same : Stmt := top 50
abbrev s_names_in : Stmt := top 48
abbrev s_House_named : Stmt := inClass (top 46) 7
abbrev s_remove_all : Stmt := top 42
abbrev s_law : Stmt := top 61
def d_NoRight___init__ : He.DefD := ⟨("NoRight", some "__init__"), "__init__", "NoRight.__init__", defArgs s_NoRight___init__, defBody s_NoRight___init__, defScope s_NoRight___init__, [], []⟩
def d_World_may : He.DefD := ⟨("House", some "may"), "may", "World.may", defArgs s_World_may, defBody s_World_may, defScope s_World_may, [], []⟩
def d_World_look_right : He.DefD := ⟨("House", some "look_right"), "look_right", "World.look_right", defArgs s_World_look_right, defBody s_World_look_right, defScope s_World_look_right, [], []⟩
def d_NoName___init__ : He.DefD := ⟨("NoName", some "__init__"), "__init__", "NoName.__init__", defArgs s_NoName___init__, defBody s_NoName___init__, defScope s_NoName___init__, [], []⟩
def d_Stand___init__ : He.DefD := ⟨("Stand", some "__init__"), "__init__", "Stand.__init__", defArgs s_Stand___init__, defBody s_Stand___init__, defScope s_Stand___init__, [], []⟩
def d_World_stand_at : He.DefD := ⟨("House", some "stand_at"), "stand_at", "World.stand_at", defArgs s_World_stand_at, defBody s_World_stand_at, defScope s_World_stand_at, [], []⟩
def d_is_name : He.DefD := ⟨("is_name", none), "is_name", "is_name", defArgs s_is_name, defBody s_is_name, defScope s_is_name, [], []⟩
def d_is_part : He.DefD := ⟨("is_part", none), "is_part", "is_part", defArgs s_is_part, defBody s_is_part, defScope s_is_part, [], []⟩
def d_parts_of : He.DefD := ⟨("parts_of", none), "parts_of", "parts_of", defArgs s_parts_of, defBody s_parts_of, defScope s_parts_of, [.bl true], []⟩
def d_World_way : He.DefD := ⟨("House", some "way"), "way", "World.way", defArgs s_World_way, defBody s_World_way, defScope s_World_way, [.bl true], []⟩
def d_World_room_of : He.DefD := ⟨("House", some "room_of"), "room_of", "World.room_of", defArgs s_World_room_of, defBody s_World_room_of, defScope s_World_room_of, [], []⟩
def d_path_of : He.DefD := ⟨("path_of", none), "path_of", "path_of", defArgs s_path_of, defBody s_path_of, defScope s_path_of, [], []⟩
def d_split_last : He.DefD := ⟨("split_last", none), "split_last", "split_last", defArgs s_split_last, defBody s_split_last, defScope s_split_last, [], []⟩
def d_House_place_for : He.DefD := ⟨("House", some "place_for"), "place_for", "House.place_for", defArgs s_House_place_for, defBody s_House_place_for, defScope s_House_place_for, [], []⟩
def d_House_free_place : He.DefD := ⟨("House", some "free_place"), "free_place", "House.free_place", defArgs s_House_free_place, defBody s_House_free_place, defScope s_House_free_place, [], []⟩
def d_World_end_of : He.DefD := ⟨("House", some "end_of"), "end_of", "World.end_of", defArgs s_World_end_of, defBody s_World_end_of, defScope s_World_end_of, [.bl true], []⟩
def d_is_small : He.DefD := ⟨("is_small", none), "is_small", "is_small", defArgs s_is_small, defBody s_is_small, defScope s_is_small, [], []⟩
def d_World_look_user : He.DefD := ⟨("House", some "look_user"), "look_user", "World.look_user", defArgs s_World_look_user, defBody s_World_look_user, defScope s_World_look_user, [], []⟩
def d_House_link : He.DefD := ⟨("House", some "link"), "link", "House.link", defArgs s_House_link, defBody s_House_link, defScope s_House_link, [], []⟩
def d_Node___init__ : He.DefD := ⟨("Node", some "__init__"), "__init__", "Node.__init__", defArgs s_Node___init__, defBody s_Node___init__, defScope s_Node___init__, [], []⟩
def d_World_new_node : He.DefD := ⟨("House", some "new_node"), "new_node", "World.new_node", defArgs s_World_new_node, defBody s_World_new_node, defScope s_World_new_node, [], []⟩
def d_House_made_at : He.DefD := ⟨("House", some "made_at"), "made_at", "House.made_at", defArgs s_House_made_at, defBody s_House_made_at, defScope s_House_made_at, [], []⟩
def d_House_make_hint : He.DefD := ⟨("House", some "make_hint"), "make_hint", "House.make_hint", defArgs s_House_make_hint, defBody s_House_make_hint, defScope s_House_make_hint, [], []⟩
def d_look_rights : He.DefD := ⟨("look_rights", none), "look_rights", "look_rights", defArgs s_look_rights, defBody s_look_rights, defScope s_look_rights, [], []⟩
def d_look_text : He.DefD := ⟨("look_text", none), "look_text", "look_text", defArgs s_look_text, defBody s_look_text, defScope s_look_text, [], []⟩
def d_House_make_leaf : He.DefD := ⟨("House", some "make_leaf"), "make_leaf", "House.make_leaf", defArgs s_House_make_leaf, defBody s_House_make_leaf, defScope s_House_make_leaf, [], []⟩
def d_House_make_room : He.DefD := ⟨("House", some "make_room"), "make_room", "House.make_room", defArgs s_House_make_room, defBody s_House_make_room, defScope s_House_make_room, [], []⟩
def d_House_read : He.DefD := ⟨("House", some "read"), "read", "House.read", defArgs s_House_read, defBody s_House_read, defScope s_House_read, [], []⟩
def d_House_write : He.DefD := ⟨("House", some "write"), "write", "House.write", defArgs s_House_write, defBody s_House_write, defScope s_House_write, [], []⟩
def d_World___init__ : He.DefD := ⟨("House", some "__init__"), "__init__", "World.__init__", defArgs s_World___init__, defBody s_World___init__, defScope s_World___init__, [], []⟩
def d_law_draw : He.DefD := ⟨("_law_draw", none), "_law_draw", "_law_draw", defArgs s_law_draw, defBody s_law_draw, defScope s_law_draw, [], []⟩
def d_law_pick : He.DefD := ⟨("_law_pick", none), "_law_pick", "_law_pick", defArgs s_law_pick, defBody s_law_pick, defScope s_law_pick, [], []⟩
def d_law_town : He.DefD := ⟨("_law_town", none), "_law_town", "_law_town", defArgs s_law_town, defBody s_law_town, defScope s_law_town, [], []⟩
def d_about : He.DefD := ⟨("about", none), "about", "about", defArgs s_about, defBody s_about, defScope s_about, [], []⟩
def d_beneath : He.DefD := ⟨("beneath", none), "beneath", "beneath", defArgs s_beneath, defBody s_beneath, defScope s_beneath, [], []⟩
def d_copied : He.DefD := ⟨("copied", none), "copied", "copied", defArgs s_copied, defBody s_copied, defScope s_copied, [], []⟩
def d_House_is_bound : He.DefD := ⟨("House", some "is_bound"), "is_bound", "House.is_bound", defArgs s_House_is_bound, defBody s_House_is_bound, defScope s_House_is_bound, [], []⟩
def d_World_rooms_beneath : He.DefD := ⟨("House", some "rooms_beneath"), "rooms_beneath", "World.rooms_beneath", defArgs s_World_rooms_beneath, defBody s_World_rooms_beneath, defScope s_World_rooms_beneath, [], []⟩
def d_look_free : He.DefD := ⟨("look_free", none), "look_free", "look_free", defArgs s_look_free, defBody s_look_free, defScope s_look_free, [], []⟩
def d_copy_room : He.DefD := ⟨("copy_room", none), "copy_room", "copy_room", defArgs s_copy_room, defBody s_copy_room, defScope s_copy_room, [], []⟩
def d_count_of : He.DefD := ⟨("count_of", none), "count_of", "count_of", defArgs s_count_of, defBody s_count_of, defScope s_count_of, [], []⟩
def d_found_names : He.DefD := ⟨("found_names", none), "found_names", "found_names", defArgs s_found_names, defBody s_found_names, defScope s_found_names, [], []⟩
def d_is_same : He.DefD := ⟨("is_same", none), "is_same", "is_same", defArgs s_is_same, defBody s_is_same, defScope s_is_same, [], []⟩
def d_names_in : He.DefD := ⟨("names_in", none), "names_in", "names_in", defArgs s_names_in, defBody s_names_in, defScope s_names_in, [], []⟩
def d_House_named : He.DefD := ⟨("House", some "named"), "named", "House.named", defArgs s_House_named, defBody s_House_named, defScope s_House_named, [], []⟩
def d_remove_all : He.DefD := ⟨("remove_all", none), "remove_all", "remove_all", defArgs s_remove_all, defBody s_remove_all, defScope s_remove_all, [], []⟩
def d_law : He.DefD := ⟨("law", none), "law", "law", defArgs s_law, defBody s_law, defScope s_law, [], []⟩
def fn0 : List He.DefD := [d_NoRight___init__, d_World_may, d_World_look_right, d_NoName___init__, d_Stand___init__, d_World_stand_at, d_is_name, d_is_part, d_parts_of, d_World_way, d_World_room_of, d_path_of, d_split_last, d_House_place_for, d_House_free_place, d_World_end_of, d_is_small, d_World_look_user, d_House_link, d_Node___init__]
def fn1 : List He.DefD := [d_World_new_node, d_House_made_at, d_House_make_hint, d_look_rights, d_look_text, d_House_make_leaf, d_House_make_room, d_House_read, d_House_write, d_World___init__, d_law_draw, d_law_pick, d_law_town, d_about, d_beneath, d_copied, d_House_is_bound, d_World_rooms_beneath, d_look_free, d_copy_room]
def fn2 : List He.DefD := [d_count_of, d_found_names, d_is_same, d_names_in, d_House_named, d_remove_all, d_law]
def fn : List He.DefD := fn0 ++ fn1 ++ fn2
def fa0 : List He.Fa := [.glo "NoRight", .int "KEEPER" 0, .meth "House" "may", .meth "House" "look_right", .glo "NoName", .glo "Stand", .mkr "Stand", .meth "House" "stand_at", .free "isinstance", .free "str", .free "len", .int "MOST_NAME" 8, .free "all", .str "SIGNS" "abcdefghijklmnopqrstuvwxyz0123456789", .glo "is_name", .str "ABOVE" "..", .str "HERE" ".", .glo "is_part", .glo "BadPath", .exc "BadPath"]
def fa1 : List He.Fa := [.int "MOST_PARTS" 12, .glo "parts_of", .int "PASS" 1, .free "max", .int "MOST_HINTS" 8, .glo "TooDeep", .exc "TooDeep", .glo "NotRoom", .exc "NotRoom", .meth "House" "way", .meth "House" "room_of", .free "list", .glo "path_of", .glo "split_last", .int "CHANGE" 2, .meth "House" "place_for", .glo "Taken", .exc "Taken", .meth "House" "free_place", .meth "House" "end_of"]
def fa2 : List He.Fa := [.free "int", .free "bool", .glo "is_small", .glo "NoUser", .exc "NoUser", .meth "House" "look_user", .glo "NotLeaf", .exc "NotLeaf", .meth "House" "link", .glo "Node", .mkr "Node", .meth "House" "new_node", .meth "House" "made_at", .meth "House" "make_hint", .free "tuple", .glo "BadRights", .exc "BadRights", .glo "look_rights", .int "MOST_TEXT" 40, .free "ord"]
def fa3 : List He.Fa := [.glo "BadText", .exc "BadText", .glo "look_text", .meth "House" "make_leaf", .meth "House" "make_room", .int "SEE" 4, .meth "House" "read", .meth "House" "write", .int "MOST_USERS" 8, .glo "House", .mkr "House", .glo "_law_draw", .glo "_law_pick", .glo "_law_town", .glo "about", .int "MOST_STANDS" 12, .free "sorted", .int "MOST_ROWS" 200, .glo "beneath", .glo "copied"]
def fa4 : List He.Fa := [.meth "House" "is_bound", .meth "House" "rooms_beneath", .free "any", .glo "Busy", .exc "Busy", .glo "look_free", .glo "BadMove", .exc "BadMove", .glo "copy_room", .glo "count_of", .glo "found_names", .glo "is_same", .glo "names_in", .meth "House" "named", .glo "remove_all", .glo "law"]
def fa : List He.Fa := fa0 ++ fa1 ++ fa2 ++ fa3 ++ fa4
def names0 : List PySem.Str := ["_wall", "WorldError", "BadPath", "BadText", "BadRights", "NoUser", "NoRight", "NoName", "NotRoom", "NotLeaf", "Taken", "TooDeep", "Busy", "BadMove", "MOST_PARTS", "MOST_NAME", "SIGNS", "HERE", "ABOVE", "is_name"]
def names1 : List PySem.Str := ["is_part", "parts_of", "path_of", "split_last", "MOST_USERS", "MOST_HINTS", "KEEPER", "SEE", "CHANGE", "PASS", "Node", "Stand", "is_small", "look_rights", "World", "look_free", "copy_room", "copied", "remove_all", "MOST_TEXT"]
def names2 : List PySem.Str := ["look_text", "House", "names_in", "about", "is_same", "MOST_ROWS", "MOST_STANDS", "beneath", "count_of", "found_names", "_law_town", "_law_draw", "_law_pick"]
def names : List PySem.Str := names0 ++ names1 ++ names2
def more (K : PySem.W.Frag) : Bool := (clsB K && (iniB K "NoRight" ["user", "number"] && iniB K "NoName" ["name"]))
abbrev R : PySem.W.OpenRow := PySem.W.OpenLaw.row PySem.Challenge.rw_treemounts_k24_whole_apart
abbrev hk : PySem.W.Hook := hookE 4 fa fn more
def ob (s : PySem.W.SharedT) : AlE := obsEG 4 fa fn more (HandSHeadRun.getT s)
theorem ob_eq (s : PySem.W.SharedT) : ob s = hk.obs s.abs := obsEG_eq (HandSHeadRun.getT_eq s)
theorem run (w : World) : HandSHeadRun.RunEq R (PySem.W.view R.prog [61]) hk ob 20000 names w := by
  intro os
  kernel_rfl
end Tm
/-! own layer: one rule a reading, each takes the value in hand; calls of defs by one fact -/
namespace Tm
open PySem L2
/-- a field of an instance -/
def FldK (K : PySem.W.Frag) (x : V) (f : Str) (H : Hp) (Q : VK) : Prop := ∃ a C dx fs v, x = .ref a ∧ H a = some (.ins C dx fs) ∧ Cls K C ∧ NoAttr K C f ∧ fs.lookup f = some v ∧ Q v H
/-- a new list, a new tuple -/
abbrev NewL (xs : List V) (H : Hp) (Q : VK) : Prop := xs.length ≤ sizeLine ∧ ∀ p, H p = none → Q (.ref p) (upd H p (.lst xs))
abbrev NewT (xs : List V) (H : Hp) (Q : VK) : Prop := xs.length ≤ sizeLine ∧ ∀ p, H p = none → Q (.ref p) (upd H p (.tup xs))
section
variable {σ : L2.St} {H : Hp} {Q : VK} {i : Nat} {v x y z : V} {ta tb tc te : TE} {t u : TT} {K : PySem.W.Frag} {r r' : R2} {D : Ends} {ts tu : TS} {g : TG}
theorem x_var (h : σ[i]? = some (some v)) (q : Q v H) : tVar i σ H Q := ⟨v, h, q⟩
theorem x_c (q : Q v H) : tC v σ H Q := q
theorem x_op (q : ta σ H fun x H1 => tb σ H1 fun y H2 => r x y H2 Q) : tOp r ta tb σ H Q := q
theorem x_un {r : V → Hp → VK → Prop} (q : ta σ H fun x H1 => r x H1 Q) : tUn r ta σ H Q := q
theorem x_I0 {f : Int → Int → V} {a b : Int} (q : Q (f a b) H) : rI0 f (.int a) (.int b) H Q := ⟨a, b, rfl, rfl, q⟩
theorem x_I {C : Int → Int → Prop} {f : Int → Int → V} {a b : Int} (c : C a b) (q : Q (f a b) H) : rI C f (.int a) (.int b) H Q := ⟨a, b, rfl, rfl, c, q⟩
theorem x_neg {n : Int} (q : Q (.int (-n)) H) : rU (fun i => .int (-i)) (.int n) H Q := ⟨n, rfl, q⟩
theorem x_eq (s : scal x y = true) (q : Q (.bl (decide (x = y))) H) : rEq x y H Q := ⟨s, q⟩
theorem x_ne (s : scal x y = true) (q : Q (.bl (!decide (x = y))) H) : rNe x y H Q := ⟨s, q⟩
theorem x_test {Q : Bool → Hp → Prop} (q : te σ H fun x H' => ∃ k, x = .bl k ∧ Q k H') : tTest te σ H Q := q
theorem x_tB {Q : Bool → Hp → Prop} (q : te σ H fun x H' => ∃ k, x = .bl k ∧ Q k H') : tB te σ H Q := q
theorem x_bl {Q : Bool → Hp → Prop} {b : Bool} (q : Q b H) : ∃ k, V.bl b = .bl k ∧ Q k H := ⟨b, rfl, q⟩
theorem x_not {Q : Bool → Hp → Prop} (q : t σ H fun c H1 => Q (!c) H1) : tNot t σ H Q := q
theorem x_and {Q : Bool → Hp → Prop} (q : t σ H fun c H1 => if c = true then u σ H1 Q else Q false H1) : tAnd t u σ H Q := q
theorem x_or {Q : Bool → Hp → Prop} (q : t σ H fun c H1 => if c = true then Q true H1 else u σ H1 Q) : tOr t u σ H Q := q
theorem x_andV (q : ta σ H fun x H1 => ∃ c, x = .bl c ∧ if c = true then tb σ H1 Q else Q (.bl false) H1) : tAndV ta tb σ H Q := q
theorem x_orV (q : ta σ H fun x H1 => ∃ c, x = .bl c ∧ if c = true then Q (.bl true) H1 else tb σ H1 Q) : tOrV ta tb σ H Q := q
theorem x_notV (q : ta σ H fun x H1 => ∃ c, x = .bl c ∧ Q (.bl (!c)) H1) : tNotV ta σ H Q := q
theorem x_blV {P : Bool → Prop} {b : Bool} (q : P b) : ∃ k, V.bl b = .bl k ∧ P k := ⟨b, rfl, q⟩
theorem x_ifx (q : t σ H fun c H1 => if c = true then ta σ H1 Q else tb σ H1 Q) : tIf t ta tb σ H Q := q
theorem x_chain (q : ta σ H fun x H1 => tb σ H1 fun y H2 => r x y H2 fun z H3 => ∃ k, z = .bl k ∧ (if k = true then tc σ H3 fun w' H4 => r' y w' H4 Q else Q (.bl false) H3)) : tChain r r' ta tb tc σ H Q := q
theorem x_nil {Q : List V → Hp → Prop} (q : Q [] H) : tNil σ H Q := q
theorem x_cons {tr : TA} {Q : List V → Hp → Prop} (q : ta σ H fun x H1 => tr σ H1 fun xs H2 => Q (x :: xs) H2) : tCons ta tr σ H Q := q
theorem x_lst {t : TA} (q : t σ H fun xs H1 => NewL xs H1 Q) : tLst t σ H Q := q
theorem x_tup {t : TA} (q : t σ H fun xs H1 => NewT xs H1 Q) : tTup t σ H Q := q
theorem x_cb {rc : List V → Hp → VK → Prop} {t : TA} (q : t σ H fun vs H1 => rc vs H1 Q) : tCB rc t σ H Q := q
theorem x_fld {f : Str} (q : ta σ H fun x H1 => FldK K x f H1 Q) : tFld K ta f σ H Q := q
theorem x_fldV {f : Str} {a C dx : Addr} {fs : List (Str × V)} (h : H a = some (.ins C dx fs)) (c : Cls K C) (n : NoAttr K C f) (l : fs.lookup f = some v) (q : Q v H) : FldK K (.ref a) f H Q := ⟨a, C, dx, fs, v, rfl, h, c, n, l, q⟩
theorem x_sl {rs : V → Option Int → Option Int → Hp → VK → Prop} {tl th : TO} (q : te σ H fun x H1 => tl σ H1 fun l H2 => th σ H2 fun u H3 => rs x l u H3 Q) : tSl rs te tl th σ H Q := q
theorem x_noPart {Q : Option Int → Hp → Prop} (q : Q none H) : tNoPart σ H Q := q
theorem x_part {Q : Option Int → Hp → Prop} (q : te σ H fun x H1 => ∃ i, x = .int i ∧ Q (some i) H1) : tPart te σ H Q := q
theorem x_partI {P : Int → Prop} {n : Int} (q : P n) : ∃ i, V.int n = .int i ∧ P i := ⟨n, rfl, q⟩
theorem x_slS {a : Str} {lo hi : Option Int} (z : a.length ≤ sizeLine) (q : Q (.str (Txt.slice a lo hi)) H) : C8.rSlX (.str a) lo hi H Q := ⟨a, rfl, z, q⟩
theorem x_slL {a : Addr} {xs : List V} {lo hi : Option Int} (h : SqL K H a xs) (q : ∀ p, H p = none → Q (.ref p) (upd H p (.lst (cutV xs lo hi)))) : rSlL K (.ref a) lo hi H Q := ⟨a, xs, rfl, h, q⟩
theorem x_ixL {p : Addr} {xs : List V} {n : Int} (h : SqL K H p xs) (a : atI xs n = some v) (q : Q v H) : rIxL K (.ref p) (.int n) H Q := ⟨p, xs, n, v, rfl, rfl, h, a, q⟩
theorem x_ixT {p : Addr} {xs : List V} {n : Int} (h : SqT K H p xs) (a : atI xs n = some v) (q : Q v H) : rIxT K (.ref p) (.int n) H Q := ⟨p, xs, n, v, rfl, rfl, h, a, q⟩
theorem x_inT {p : Addr} {xs : List V} (h : SqT K H p xs) (f : flatV x = true) (a : xs.all flatV = true) (q : Q (.bl (inV x xs)) H) : rIn K false x (.ref p) H Q := ⟨p, xs, rfl, .inr h, f, a, q⟩
theorem x_inL {p : Addr} {xs : List V} (h : SqL K H p xs) (f : flatV x = true) (a : xs.all flatV = true) (q : Q (.bl (inV x xs)) H) : rIn K false x (.ref p) H Q := ⟨p, xs, rfl, .inl h, f, a, q⟩
theorem x_niT {p : Addr} {xs : List V} (h : SqT K H p xs) (f : flatV x = true) (a : xs.all flatV = true) (q : Q (.bl (!inV x xs)) H) : rIn K true x (.ref p) H Q := ⟨p, xs, rfl, .inr h, f, a, q⟩
theorem x_niL {p : Addr} {xs : List V} (h : SqL K H p xs) (f : flatV x = true) (a : xs.all flatV = true) (q : Q (.bl (!inV x xs)) H) : rIn K true x (.ref p) H Q := ⟨p, xs, rfl, .inl h, f, a, q⟩
/-! ### texts, with names of their own -/
def rCatS : R2 := fun x y H Q => ∃ i j, x = .str i ∧ y = .str j ∧ i.length + j.length ≤ sizeLine ∧ Q (.str (i ++ j)) H
theorem op_catS {X : Cx} : OpR X (binaryOp .Add) rCatS := op_add_str
theorem x_catS {a b : Str} (z : a.length + b.length ≤ sizeLine) (q : Q (.str (a ++ b)) H) : rCatS (.str a) (.str b) H Q := ⟨a, b, rfl, rfl, z, q⟩
def rSgn : R2 := fun x y H Q => ∃ c z, x = .str ⟨#[c]⟩ ∧ y = .str z ∧ Q (.bl (decide (c ∈ z.cps.toList))) H
theorem op_sgn {X : Cx} : OpR X (compareOp .In) rSgn := op_in_sign
theorem x_sgn {c : Nat} {z : Str} (q : Q (.bl (decide (c ∈ z.cps.toList))) H) : rSgn (.str ⟨#[c]⟩) (.str z) H Q := ⟨c, z, rfl, rfl, q⟩
def rIsNo : R2 := fun x y H Q => y = .non ∧ Q (.bl (decide (x = .non))) H
def rIsNt : R2 := fun x y H Q => y = .non ∧ Q (.bl (!decide (x = .non))) H
theorem op_isNo {X : Cx} : OpR X (compareOp .Is) rIsNo := op_isN
theorem op_isNt {X : Cx} : OpR X (compareOp .IsNot) rIsNt := op_notN
theorem x_isNo (q : Q (.bl (decide (x = .non))) H) : rIsNo x .non H Q := ⟨rfl, q⟩
theorem x_isNt (q : Q (.bl (!decide (x = .non))) H) : rIsNt x .non H Q := ⟨rfl, q⟩
def rLenT : List V → Hp → VK → Prop := fun xs H Q => ∃ a : Str, xs = [.str a] ∧ a.length ≤ sizeLine ∧ Q (.int a.length) H
theorem call_lenT {X : Cx} : CallR X (.builtin "len") rLenT := call_len_str
theorem x_lenT {a : Str} (z : a.length ≤ sizeLine) (q : Q (.int a.length) H) : rLenT [.str a] H Q := ⟨a, rfl, z, q⟩
def rLenQ (K : PySem.W.Frag) : List V → Hp → VK → Prop := fun xs H Q => ∃ p ys, xs = [.ref p] ∧ (SqL K H p ys ∨ SqT K H p ys) ∧ Q (.int ys.length) H
theorem call_lenQ {X : Cx} : CallR X (.builtin "len") (rLenQ X.K) := call_len_seq
theorem x_lenL {p : Addr} {ys : List V} (h : SqL K H p ys) (q : Q (.int ys.length) H) : rLenQ K [.ref p] H Q := ⟨p, ys, rfl, .inl h, q⟩
theorem x_lenU {p : Addr} {ys : List V} (h : SqT K H p ys) (q : Q (.int ys.length) H) : rLenQ K [.ref p] H Q := ⟨p, ys, rfl, .inr h, q⟩
def rMkL (K : PySem.W.Frag) : List V → Hp → VK → Prop := fun xs H Q => ∃ p ys, xs = [.ref p] ∧ (SqL K H p ys ∨ SqT K H p ys) ∧ ∀ l, H l = none → Q (.ref l) (upd H l (.lst ys))
theorem call_mkL {X : Cx} : CallR X (.type "list") (rMkL X.K) := call_list_of
theorem x_mkL {p : Addr} {ys : List V} (h : SqL K H p ys) (q : ∀ l, H l = none → Q (.ref l) (upd H l (.lst ys))) : rMkL K [.ref p] H Q := ⟨p, ys, rfl, .inl h, q⟩
theorem x_all {p : Addr} {bs : List Bool} (h : SqL K H p (bs.map V.bl)) (q : Q (.bl (bs.all id)) H) : rAll K [.ref p] H Q := ⟨p, bs, rfl, h, q⟩
theorem x_any {p : Addr} {bs : List Bool} (h : SqL K H p (bs.map V.bl)) (q : Q (.bl (bs.any id)) H) : rAny K [.ref p] H Q := ⟨p, bs, rfl, h, q⟩
theorem x_isi {c : V} {tv uv : Value} {b : Bool} (hc : ClsV c uv) (ht : TyX K H x tv) (k : PySem.W.kitOne K tv uv = some b) (q : Q (.bl b) H) : rIsi K [x, c] H Q := ⟨x, c, tv, uv, b, rfl, hc, ht, k, q⟩
theorem x_m1 {rm : V → List V → Hp → VK → Prop} (q : ta σ H fun x H1 => (∃ a, x = .str a) ∧ te σ H1 fun y H2 => rm x [y] H2 Q) : tM1 rm ta te σ H Q := q
theorem x_isS {a : Str} {P : Prop} (q : P) : (∃ b, V.str a = .str b) ∧ P := ⟨⟨a, rfl⟩, q⟩
/-! ### statements -/
theorem x_next (q : D.nx σ H) : tNext D σ H := q
theorem x_seq (q : ts { D with nx := tu D } σ H) : tSeq ts tu D σ H := q
theorem x_ret (q : te σ H D.rt) : tRet te D σ H := q
theorem x_drop (q : te σ H fun _ H1 => D.nx σ H1) : tDrop te D σ H := q
theorem x_asg (q : te σ H fun x H1 => g x σ H1 D.nx) : tAsg te g D σ H := q
theorem x_name {Q : L2.St → Hp → Prop} (q : Q (σ.set i (some v)) H) : gName i v σ H Q := q
theorem x_ifS (q : t σ H fun b H1 => if b = true then ts D σ H1 else tu D σ H1) : tIfS t ts tu D σ H := q
theorem x_sub {to ti : TE} {tset : TSet} {Q : L2.St → Hp → Prop} (q : to σ H fun o H1 => ti σ H1 fun i H2 => tset o i v H2 fun H3 => Q σ H3) : gSub to ti tset v σ H Q := q
theorem x_setL {p : Addr} {xs : List V} {k : Int} {j : Nat} {Q : Hp → Prop} (h : H p = some (.lst xs)) (a : ixN xs.length k = some j) (q : Q (upd H p (.lst (xs.set j v)))) : rSetL (.ref p) (.int k) v H Q := ⟨p, xs, k, j, rfl, rfl, h, a, q⟩
theorem x_bm {T : String} {rm : V → List V → Hp → VK → Prop} {t : TA} (q : ta σ H fun x H1 => tyV K T x H1 ∧ t σ H1 fun xs H2 => rm x xs H2 Q) : tBM K T rm ta t σ H Q := q
theorem x_bm0 {T : String} {rm : V → List V → Hp → VK → Prop} (q : ta σ H fun x H1 => tyV K T x H1 ∧ rm x [] H1 Q) : tBM0 K T rm ta σ H Q := q
theorem x_app {l : Addr} {xs : List V} (h : H l = some (.lst xs)) (n : xs.length < sizeLine) (q : Q .non (upd H l (.lst (xs ++ [y])))) : rAppend (.ref l) [y] H Q := ⟨l, xs, y, rfl, rfl, h, n, q⟩
theorem x_tyL {l : Addr} {xs : List V} {P : Prop} (h : SqL K H l xs) (q : P) : tyV K "list" (.ref l) H ∧ P := ⟨.inl ⟨rfl, _, h⟩, q⟩
/-! ### ways -/
theorem x_if {b : Bool} {A B : Prop} (h1 : b = true → A) (h2 : b = false → B) : if b = true then A else B := by
  cases b with
  | true => exact iteT (h1 rfl)
  | false => exact iteF (h2 rfl)
theorem x_ifd {p A B : Prop} [Decidable p] (h1 : p → A) (h2 : ¬ p → B) : if decide p = true then A else B := x_if (fun h => h1 (of_decide_eq_true h)) fun h => h2 (of_decide_eq_false h)
theorem x_ifn {p A B : Prop} [Decidable p] (h1 : ¬ p → A) (h2 : p → B) : if (!decide p) = true then A else B := by
  by_cases h : p
  · rw [decide_eq_true h]
    exact iteF (h2 h)
  · rw [decide_eq_false h]
    exact iteT (h1 h)
theorem x_ifY {b : Bool} {A B : Prop} (h : b = true) (q : A) : if b = true then A else B := by
  rw [h]
  exact iteT q
theorem x_ifN {b : Bool} {A B : Prop} (h : b = false) (q : B) : if b = true then A else B := by
  rw [h]
  exact iteF q
end
/-! ### heaps -/
abbrev Ex (H H' : Hp) : Prop := ∀ a o, H a = some o → H' a = some o
theorem Ex.rfl {H : Hp} : Ex H H := fun _ _ h => h
theorem Ex.tr {H H1 H2 : Hp} (a : Ex H H1) (b : Ex H1 H2) : Ex H H2 := fun x o h => b x o (a x o h)
theorem Ex.new {H : Hp} {p : Addr} {o : HO} (h : H p = none) : Ex H (upd H p o) := fun a u e => by
  rw [upd_ne (ne_of_none e h)]
  exact e
theorem ex_at {H H' : Hp} {a : Addr} {o : HO} (e : Ex H H') (h : H a = some o) : H' a = some o := e a o h
theorem ex_none {H H' : Hp} {a : Addr} (e : Ex H H') (h : H' a = none) : H a = none := by
  cases q : H a with
  | none => rfl
  | some o =>
    rw [e a o q] at h
    cases h
theorem Ex.sq {K : PySem.W.Frag} {H H' : Hp} {a : Addr} {xs : List V} (e : Ex H H') (h : SqL K H a xs) : SqL K H' a xs := by
  rcases h with (h | ⟨o, h⟩) | h
  · exact .inl (.inl (e _ _ h))
  · exact .inl (.inr ⟨o, e _ _ h⟩)
  · exact .inr h
theorem Ex.st {K : PySem.W.Frag} {H H' : Hp} {a : Addr} {xs : List V} (e : Ex H H') (h : SqT K H a xs) : SqT K H' a xs := by
  rcases h with (h | ⟨o, h⟩) | h
  · exact .inl (.inl (e _ _ h))
  · exact .inl (.inr ⟨o, e _ _ h⟩)
  · exact .inr h
/-- what stood stands, but at the places S -/
def Off (S : List Addr) (H H' : Hp) : Prop := ∀ a o, H a = some o → a ∉ S → H' a = some o
theorem Off.rfl {S : List Addr} {H : Hp} : Off S H H := fun _ _ h _ => h
theorem Off.tr {S : List Addr} {H H1 H2 : Hp} (a : Off S H H1) (b : Off S H1 H2) : Off S H H2 := fun x o h n => b x o (a x o h n) n
theorem Ex.off {S : List Addr} {H H' : Hp} (e : Ex H H') : Off S H H' := fun a o h _ => e a o h
theorem Off.new {S : List Addr} {H H' : Hp} {p : Addr} {o : HO} (e : Off S H H') (h : H p = none) : Off S H (upd H' p o) := fun a u q n => by
  rw [upd_ne (ne_of_none q h)]
  exact e a u q n
theorem Off.put {S : List Addr} {H H' : Hp} {p : Addr} {o : HO} (e : Off S H H') (h : p ∈ S) : Off S H (upd H' p o) := fun a u q n => by
  have z : a ≠ p := fun z => n (by rw [z]; exact h)
  rw [upd_ne z]
  exact e a u q n
/-! ### a def by its name -/
structure Fn (P : Program) (w : World) (K : PySem.W.Frag) (mg : Str → Option Value) (base : Heap) (k : Nat) (x : Str) (ps : List Str) (sp : Sp) : Prop where
  ex : ∃ (f : Addr) (fd : FuncData), mg x = some (.ref f) ∧ FnOk P w K mg base (L2.CX P w) k f fd ps sp ∧ Binds K fd ps [] ∧ PySem.W.keepIn K (.ref f) = true
def tFn (sp : Sp) (E : L2.St → XK) (t : TA) : TE := fun σ H Q => t σ H fun vs H1 => sp vs H1 Q (E σ)
section
variable {X : Cx} {k : Nat} {ps : List Str} {sp : Sp} {E : L2.St → XK} {x : Str} {p pos : Pos} {e : Expr} {es : List Expr} {t : TA}
theorem pe_fn (F : Fn X.prog X.w X.K X.mg X.base k x ps sp) (hr : Room k X.A) (hg : Gl X x) (hx : ∀ σ, PassesAt (L2.CX X.prog X.w) X σ (E σ)) (ha : PA X (e :: es) t)
    (hdb : (x == ("__debug__" : Str)) = false := by decide) (he : starEach (e :: es) X.env = (false, eval e X.env) :: starEach es X.env := by rfl) (hpl : (backTo pos (starEach es X.env)).any (·.1) = false := by rfl) :
    PE X (.Call (.Name x p) (e :: es) [] pos) (tFn sp E t) := by
  obtain ⟨f, fd, hm, ok, hb, hk⟩ := F.ex
  exact pe_callS ok hr hg hm hk hb hx ha hdb he hpl
theorem x_fn {σ : L2.St} {H : Hp} {Q : VK} (q : t σ H fun vs H1 => sp vs H1 Q (E σ)) : tFn sp E t σ H Q := q
/-- within a comprehension nothing is let out -/
theorem passC (hx : X.xe = fun _ _ => False) : ∀ σ, PassesAt (L2.CX X.prog X.w) X σ ((fun _ => E0) σ) := fun _ _ _ _ _ _ _ h => by
  obtain ⟨_, _, _, _, _, _, _, _, _, _, _, _, z⟩ := h
  exact z.elim
/-- in a def's own body -/
theorem passD {E : XK} {E₁ : Value → Shared → Prop} (hs : X.stack = X.env :: X.outer) (hf : X.env.frame = some X.env.locals) (hex : X.ex = [])
    (hx : X.xe = fun e s' => wpAny (model X.prog X.w) X.A (leaving X.env e) (fun _ s'' => L2.CX X.prog X.w X.outer X.H_0 X.s_0 E e s'') E₁ s') : ∀ σ, PassesAt (L2.CX X.prog X.w) X σ ((fun _ => E) σ) :=
  fun σ => passAt (W := fun cls d _ H => E cls d H) (takes_of hs hf hex hx) σ
/-- constants of the module -/
theorem pe_gint {n : Int} (hm : ∃ t, X.mg x = some (.int n t)) (hg : Gl X x) (hd : (x == ("__debug__" : Str)) = false := by decide) : PE X (.Name x pos) (tC (.int n)) := by
  obtain ⟨t, h⟩ := hm
  exact pe_glob hg h ⟨t, rfl⟩ hd
theorem pe_gstr {z : Str} (hm : ∃ t, X.mg x = some (.str z t)) (hg : Gl X x) (hd : (x == ("__debug__" : Str)) = false := by decide) : PE X (.Name x pos) (tC (.str z)) := by
  obtain ⟨t, h⟩ := hm
  exact pe_glob hg h ⟨t, rfl⟩ hd
end
theorem pe_ty {X : Cx} {x : Str} {n : String} {pos : Pos} (hm : X.mg x = none) (hv : bootBuiltins x = some (.type n)) (hg : Gl X x) (hn : x ≠ "__name__" := by decide) (hd : (x == ("__debug__" : Str)) = false := by decide) : PE X (.Name x pos) (tC (.ty n)) :=
  pe_bltn hg hm hv rfl hn hd
/-! ### a def with defaults, a def called with keywords -/
structure FnD (P : Program) (w : World) (K : PySem.W.Frag) (mg : Str → Option Value) (base : Heap) (k : Nat) (x : Str) (ps : List Str) (dvs : List V) (sp : Sp) : Prop where
  ex : ∃ (f : Addr) (fd : FuncData) (ds : List Value), mg x = some (.ref f) ∧ FnOk P w K mg base (L2.CX P w) k f fd ps sp ∧ Binds K fd ps ds ∧ Vals dvs ds ∧ PySem.W.keepIn K (.ref f) = true
structure FnK (P : Program) (w : World) (K : PySem.W.Frag) (mg : Str → Option Value) (base : Heap) (k : Nat) (x : Str) (ps : List Str) (n : Nat) (ks : List Str) (sp : Sp) : Prop where
  ex : ∃ (f : Addr) (fd : FuncData), mg x = some (.ref f) ∧ FnOk P w K mg base (L2.CX P w) k f fd ps sp ∧ KBn K fd ps n ks (fun us ws => us ++ ws) (fun vs zs => vs ++ zs) ∧ PySem.W.keepIn K (.ref f) = true
section
variable {X : Cx} {k n : Nat} {ps ks : List Str} {sp : Sp} {E : XK} {x : Str} {p pos : Pos} {e : Expr} {es : List Expr} {t tk : TA} {kws : List Keyword} {dvs : List V}
def tFnD (sp : Sp) (dvs : List V) (E : XK) (t : TA) : TE := fun σ H Q => t σ H fun vs H1 => sp (vs ++ dvs) H1 Q E
def tFnK (n m : Nat) (sp : Sp) (E : XK) (t tk : TA) : TE := fun σ H Q => t σ H fun vs H1 => tk σ H1 fun zs H2 => vs.length = n ∧ zs.length = m ∧ sp (vs ++ zs) H2 Q E
theorem passA (hx : ∀ σ, PassesAt (L2.CX X.prog X.w) X σ ((fun _ => E) σ)) : Passes (L2.CX X.prog X.w) X E := fun pins σ H s e s' I c => hx σ pins H s e s' I c
theorem pe_fnD (F : FnD X.prog X.w X.K X.mg X.base k x ps dvs sp) (hr : Room k X.A) (hg : Gl X x) (hx : ∀ σ, PassesAt (L2.CX X.prog X.w) X σ ((fun _ => E) σ)) (ha : PA X (e :: es) t)
    (hdb : (x == ("__debug__" : Str)) = false := by decide) (he : starEach (e :: es) X.env = (false, eval e X.env) :: starEach es X.env := by rfl) (hpl : (backTo pos (starEach es X.env)).any (·.1) = false := by rfl) :
    PE X (.Call (.Name x p) (e :: es) [] pos) (tFnD sp dvs E t) := by
  obtain ⟨f, fd, ds, hm, ok, hb, hv, hk⟩ := F.ex
  exact pe_call ok hr hg hm hk hb hv (passA hx) ha hdb he hpl
theorem pe_fnK (F : FnK X.prog X.w X.K X.mg X.base k x ps n ks sp) (hr : Room k X.A) (hg : Gl X x) (hx : ∀ σ, PassesAt (L2.CX X.prog X.w) X σ ((fun _ => E) σ)) (ha : PA X (e :: es) t) (hkw : PK X kws tk)
    (hall : (backToKw pos (keywordEach kws X.env)).all (·.1.isSome) = true := by rfl) (hks : (backToKw pos (keywordEach kws X.env)).filterMap (·.1) = ks := by rfl)
    (hdb : (x == ("__debug__" : Str)) = false := by decide) (he : starEach (e :: es) X.env = (false, eval e X.env) :: starEach es X.env := by rfl)
    (hpl : ((backTo pos (starEach (e :: es) X.env)).any (·.1) || (backToKw pos (keywordEach kws X.env)).any (·.1.isNone)) = false := by rfl) :
    PE X (.Call (.Name x p) (e :: es) kws pos) (tFnK n ks.length sp E t tk) := by
  obtain ⟨f, fd, hm, ok, hb, hk⟩ := F.ex
  exact pe_callN ok hr hg hm hk hb (passA hx) ha hkw hall hks hdb he hpl
theorem x_fnD {σ : L2.St} {H : Hp} {Q : VK} (q : t σ H fun vs H1 => sp (vs ++ dvs) H1 Q E) : tFnD sp dvs E t σ H Q := q
theorem x_fnK {σ : L2.St} {H : Hp} {Q : VK} {m : Nat} (q : t σ H fun vs H1 => tk σ H1 fun zs H2 => vs.length = n ∧ zs.length = m ∧ sp (vs ++ zs) H2 Q E) : tFnK n m sp E t tk σ H Q := q
end
/-- keywords for all that has a default -/
theorem kbn_of {K : PySem.W.Frag} {x qual : Str} {params : Arguments} {body : List Stmt} {scope : Scope} {dvs : List V} {kws : List (Str × V)} {f : Addr} {fd : FuncData} {ps : List Str} (F : FunD K x qual params body scope dvs kws f fd) (n : Nat) (ks : List Str) (hd : dvs ≠ [])
    (h : ∀ (T : Addr) (kV doc pm : Value) (an : Option Addr) (cdv ct : Value) (us its ws : List Value), us.length = n → its.length = dvs.length → ws.length = ks.length →
      ∃ k, bindArgs (PySem.W.fnOf x qual params body scope (.ref T) kV doc pm an cdv ct) ⟨us, ks.zip ws⟩ = seqItems? (.ref T) >>= k ∧ k (some its.toArray) = pure (ps.zip (us ++ ws))) : KBn K fd ps n ks (fun us ws => us ++ ws) (fun vs zs => vs ++ zs) := by
  obtain ⟨oc, od, dV, kV, doc, pm, an, cdv, ct, osl, rfl, lk, hcd, hD, hK⟩ := F.ex
  rcases hD with ⟨e, _⟩ | ⟨_, T, o, its, m, rfl, lT, oT, rT⟩
  · exact absurd e hd
  · refine ⟨fun s us ws X l1 l2 => ?_, fun r1 r2 => r1.append r2⟩
    obtain ⟨k, e1, e2⟩ := h T kV doc pm an cdv ct us its ws l1 rT.length.symm l2
    refine BindsTo.of_looks fun M => ?_
    rw [e1]
    exact looks_items X lT oT (.of_pure e2)
/-! ### a statement, a word between, the rest -/
def tMid (t u : TS) : TS := fun D σ H => ∃ M : L2.St → Hp → Prop, t { D with nx := M } σ H ∧ ∀ σ' H', M σ' H' → u D σ' H'
theorem pss_mid {X : Cx} {st : Stmt} {rest : List Stmt} {t u : TS} (h1 : PS X st t) (h2 : PSs X rest u) : PSs X (st :: rest) (tMid t u) := by
  refine ⟨fun pins s σ H D I h => ?_⟩
  obtain ⟨M, hm, hu⟩ := h
  refine wpAny_execs_cons (thn (h1.run pins s σ H { D with nx := M } I hm) fun f s1 q => ?_)
  cases f with
  | next =>
    obtain ⟨σ1, H1, I1, q1⟩ := q
    exact h2.run pins s1 σ1 H1 D I1 (hu σ1 H1 q1)
  | ret v => exact q
  | brk => exact q
  | cont => exact q
section
variable {t u : TS} {D : Ends} {σ : L2.St} {H : Hp}
/-- straight on -/
theorem x_thru (q : t { D with nx := u D } σ H) : tMid t u D σ H := ⟨u D, q, fun _ _ h => h⟩
/-- the slots and the heap as they are, and a word -/
theorem x_cut (M : Prop) (q : t { D with nx := fun σ' H' => σ' = σ ∧ H' = H ∧ M } σ H) (k : M → u D σ H) : tMid t u D σ H := ⟨_, q, fun _ _ h => by
  obtain ⟨rfl, rfl, m⟩ := h
  exact k m⟩
/-- the slots as they are, the heap grown -/
theorem x_cutE (M : Hp → Prop) (q : t { D with nx := fun σ' H' => σ' = σ ∧ Ex H H' ∧ M H' } σ H) (k : ∀ H', Ex H H' → M H' → u D σ H') : tMid t u D σ H := ⟨_, q, fun _ _ h => by
  obtain ⟨rfl, e, m⟩ := h
  exact k _ e m⟩
theorem x_cutM (M : L2.St → Hp → Prop) (q : t { D with nx := M } σ H) (k : ∀ σ' H', M σ' H' → u D σ' H') : tMid t u D σ H := ⟨M, q, k⟩
end
/-! ### comprehensions whose turns only make things -/
/-- over xs, the items that p keeps, f of each -/
def Cmp (xs : List V) (j : Nat) (tt : TT) (te : TE) (vs : List Nat) (σ : L2.St) (H1 : Hp) (Q : VK) : Prop :=
  (∀ x, wipe ((wipe σ vs).set j (some x)) vs = wipe σ vs) ∧ xs.length ≤ 100000 ∧ ∃ (p : V → Bool) (f : V → V),
    (∀ x ∈ xs, ∀ H', Ex H1 H' → ∀ R : Bool → Hp → Prop, (∀ H2, Ex H' H2 → R (p x) H2) → tt ((wipe σ vs).set j (some x)) H' R) ∧
    (∀ x ∈ xs, p x = true → ∀ H', Ex H1 H' → ∀ R : VK, (∀ H2, Ex H' H2 → R (f x) H2) → te ((wipe σ vs).set j (some x)) H' R) ∧
    ∀ D H', H1 D = none → Ex H1 H' → H' D = some (.lst ((xs.filter p).map f)) → Q (.ref D) H'
theorem take_snoc {α : Type} {l : List α} {i : Nat} {x : α} (h : l[i]? = some x) : l.take (i + 1) = l.take i ++ [x] := by
  rw [List.take_succ, h]
  rfl
theorem lc_cmp {J : It} {G : Hp → Prop} {xs : List V} {j : Nat} {tt : TT} {te : TE} {vs : List Nat} {σ : L2.St} {H1 : Hp} {Q : VK} (w : Walk J xs.length G (YAt xs)) (hG : ∀ H', Ex H1 H' → G H') (c : Cmp xs j tt te vs σ H1 Q) :
    ∀ D, H1 D = none → ∃ W : Nat → Nat → Hp → Prop, (∃ m, W 0 m (upd H1 D (.lst []))) ∧ ∀ i m H, W i m H →
      (J.stop i H ∧ Q (.ref D) H) ∨ (J.go i H ∧ ∃ Nx : Hp → Prop, (∀ H', Nx H' → ∃ m', m' < m ∧ W (i + 1) m' H') ∧ ∀ x H', J.yld i H x H' → (gName j) x (wipe σ vs) H' fun σ2 H2 => wipe σ2 vs = wipe σ vs ∧ tt σ2 H2 fun b H3 =>
        if b = true then te σ2 H3 fun y H4 => ∃ acc, H4 D = some (.lst acc) ∧ acc.length < sizeLine ∧ Nx (upd H4 D (.lst (acc ++ [y]))) else Nx H3) := by
  obtain ⟨hw, hz, p, f, ht, he, q⟩ := c
  intro D hD
  refine lc_it w (fun i H' => Ex H1 H' ∧ H' D = some (.lst (((xs.take i).filter p).map f))) ⟨Ex.new hD, upd_same⟩ (fun i H' _ h => hG H' h.1) ?_ (fun H' h => q D H' hD h.1 (by have := h.2; rw [List.take_length] at this; exact this))
  rintro i x H' H'' hi ⟨e, hl⟩ ⟨rfl, hx⟩
  have hm : x ∈ xs := List.mem_of_getElem? hx
  refine ⟨hw x, ht x hm H'' e _ fun H2 e2 => ?_⟩
  have et := take_snoc hx
  have hlen : (((xs.take i).filter p).map f).length < sizeLine := by
    rw [List.length_map]
    have h1 := List.length_filter_le p (xs.take i)
    have h2 : (xs.take i).length ≤ xs.length := by rw [List.length_take]; omega
    have h3 : (100000 : Nat) < sizeLine := by decide
    omega
  cases hp : p x with
  | true =>
    show te _ H2 _
    refine he x hm hp H2 (e.tr e2) _ fun H3 e3 => ⟨_, e3 D _ (e2 D _ hl), hlen, fun a o h => ?_, ?_⟩
    · have hne : a ≠ D := fun z => by rw [z, hD] at h; cases h
      rw [upd_ne hne]
      exact e3 a o (e2 a o (e a o h))
    · rw [et, List.filter_append, List.map_append, List.filter_cons, if_pos hp]
      exact upd_same
  | false =>
    show Ex H1 H2 ∧ _
    refine ⟨e.tr e2, ?_⟩
    rw [et, List.filter_append, List.filter_cons, if_neg (by rw [hp]; decide), List.filter_nil, List.append_nil]
    exact e2 D _ hl
/-- what a comprehension over J asks, from the heap on -/
def LcK (J : It) (g : TG) (tt : TT) (te : TE) (vs : List Nat) (σ : L2.St) (Q : VK) (H1 : Hp) : Prop :=
  ∀ D, H1 D = none → ∃ W : Nat → Nat → Hp → Prop, (∃ m, W 0 m (upd H1 D (.lst []))) ∧ ∀ i m H, W i m H →
    (J.stop i H ∧ Q (.ref D) H) ∨ (J.go i H ∧ ∃ Nx : Hp → Prop, (∀ H', Nx H' → ∃ m', m' < m ∧ W (i + 1) m' H') ∧ ∀ x H', J.yld i H x H' → g x (wipe σ vs) H' fun σ2 H2 => wipe σ2 vs = wipe σ vs ∧ tt σ2 H2 fun b H3 =>
      if b = true then te σ2 H3 fun y H4 => ∃ acc, H4 D = some (.lst acc) ∧ acc.length < sizeLine ∧ Nx (upd H4 D (.lst (acc ++ [y]))) else Nx H3)
section
variable {σ : L2.St} {H : Hp} {Q : VK} {te tel : TE} {ta : TA} {tt : TT} {j : Nat} {vs : List Nat} {K : PySem.W.Frag} {g : TG}
theorem x_lcS (q : te σ H fun v H1 => ∃ x : Str, v = .str x ∧ LcK (Its x) g tt tel vs σ Q H1) : tLc (iStr te) g tt tel vs σ H Q := q
theorem x_lcL (q : te σ H fun x H1 => ∃ a, x = .ref a ∧ (∃ xs, SqL K H1 a xs) ∧ LcK (Itl K a) g tt tel vs σ Q H1) : tLc (iList K te) g tt tel vs σ H Q := q
theorem x_lcR1 (q : ta σ H fun vs' H1 => ∃ n : Int, vs' = [.int n] ∧ -(2 ^ 62) ≤ n ∧ n < 2 ^ 62 ∧ LcK (Itr 0 n.toNat) g tt tel vs σ Q H1) : tLc (iRng1 ta) g tt tel vs σ H Q := q
theorem x_lcSV {z : Str} (c : Cmp (z.cps.toList.map fun c => V.str ⟨#[c]⟩) j tt tel vs σ H Q) : ∃ x : Str, V.str z = .str x ∧ LcK (Its x) (gName j) tt tel vs σ Q H := by
  refine ⟨z, rfl, lc_cmp (G := fun _ => True) ?_ (fun _ _ => trivial) c⟩
  have e : (z.cps.toList.map fun c => V.str ⟨#[c]⟩).length = z.cps.size := by simp
  rw [e]
  refine walk_str.mono (fun _ h => h) fun i H x H' _ _ h => ⟨h.1, ?_⟩
  obtain ⟨_, c, hc, rfl⟩ := h
  rw [List.getElem?_map, Array.getElem?_toList, hc]
  rfl
theorem x_lcLV {a : Addr} {xs : List V} (h : SqL K H a xs) (c : Cmp xs j tt tel vs σ H Q) : ∃ b, V.ref a = .ref b ∧ (∃ xs, SqL K H b xs) ∧ LcK (Itl K b) (gName j) tt tel vs σ Q H :=
  ⟨a, rfl, ⟨xs, h⟩, lc_cmp (G := fun H => SqL K H a xs) walk_list (fun _ e => e.sq h) c⟩
/-- a list, no test: an invariant of your own -/
theorem x_lcLI {a : Addr} {xs : List V} (Pv : Addr → Nat → Hp → Prop) (h : SqL K H a xs) (h0 : ∀ D, H D = none → Pv D 0 (upd H D (.lst []))) (hl : ∀ D i H', H D = none → Pv D i H' → SqL K H' a xs)
    (hs : ∀ D (i : Nat) x H', H D = none → xs[i]? = some x → Pv D i H' → wipe ((wipe σ vs).set j (some x)) vs = wipe σ vs ∧ tel ((wipe σ vs).set j (some x)) H' fun y H4 => ∃ acc, H4 D = some (.lst acc) ∧ acc.length < sizeLine ∧ Pv D (i + 1) (upd H4 D (.lst (acc ++ [y]))))
    (hd : ∀ D H', H D = none → Pv D xs.length H' → Q (.ref D) H') : ∃ b, V.ref a = .ref b ∧ (∃ xs, SqL K H b xs) ∧ LcK (Itl K b) (gName j) tYes tel vs σ Q H := by
  refine ⟨a, rfl, ⟨xs, h⟩, fun D hD => lc_list (xs := xs) (Pv D) (h0 D hD) (fun i H' _ p => hl D i H' hD p) (fun i x H' hi p => ?_) (fun H' p => hd D H' hD p)⟩
  obtain ⟨h1, h2⟩ := hs D i x H' hD hi p
  exact ⟨h1, h2⟩
/-- a range, the items by their number, no test: an invariant of your own -/
theorem x_lcRV {n : Int} (Pv : Addr → Nat → Hp → Prop) (hn : 0 ≤ n ∧ n ≤ 100000) (h0 : ∀ D, H D = none → Pv D 0 (upd H D (.lst [])))
    (hs : ∀ D (i : Nat) H', H D = none → (i : Int) < n → Pv D i H' → wipe ((wipe σ vs).set j (some (.int (i : Int)))) vs = wipe σ vs ∧ tel ((wipe σ vs).set j (some (.int (i : Int)))) H' fun y H4 => ∃ acc, H4 D = some (.lst acc) ∧ acc.length < sizeLine ∧ Pv D (i + 1) (upd H4 D (.lst (acc ++ [y]))))
    (hd : ∀ D H', H D = none → Pv D n.toNat H' → Q (.ref D) H') : ∃ m : Int, ([V.int n] : List V) = [.int m] ∧ -(2 ^ 62) ≤ m ∧ m < 2 ^ 62 ∧ LcK (Itr 0 m.toNat) (gName j) tYes tel vs σ Q H := by
  refine ⟨n, rfl, by omega, by omega, fun D hD => lc_range (lo := 0) (n := n.toNat) (Pv D) (h0 D hD) (fun i H' hi p => ?_) (fun H' p => hd D H' hD p)⟩
  obtain ⟨h1, h2⟩ := hs D i H' hD (by omega) p
  have e : (0 : Int) + (i : Int) = (i : Int) := Int.zero_add _
  show wipe ((wipe σ vs).set j (some (V.int ((0 : Int) + (i : Int))))) vs = wipe σ vs ∧ _
  rw [e]
  exact ⟨h1, h2⟩
end
/-! ### loops -/
/-- what a for over J asks, from the heap on -/
def ForK (J : It) (g : TG) (tb : TS) (D : Ends) (σ : L2.St) (H : Hp) : Prop := ∃ W : Nat → Nat → L2.St → Hp → Prop, (∃ m, W 0 m σ H) ∧ ∀ i m σ H, W i m σ H →
  (J.stop i H ∧ D.nx σ H) ∨ (J.go i H ∧ ∃ N : L2.St → Hp → Prop, (∀ σ' H', N σ' H' → ∃ m', m' < m ∧ W (i + 1) m' σ' H') ∧ ∀ x H', J.yld i H x H' → g x σ H' fun σ2 H2 => tb { D with nx := N, ct := N, bk := D.nx } σ2 H2)
section
variable {σ : L2.St} {H : Hp} {te : TE} {ta : TA} {j : Nat} {K : PySem.W.Frag} {g : TG} {tb : TS} {D : Ends}
theorem x_forR1 (q : ta σ H fun vs H1 => ∃ n : Int, vs = [.int n] ∧ -(2 ^ 62) ≤ n ∧ n < 2 ^ 62 ∧ ForK (Itr 0 n.toNat) g tb D σ H1) : tFor (iRng1 ta) g tb D σ H := q
theorem x_forR2 (q : ta σ H fun vs H1 => ∃ i n : Int, vs = [.int i, .int n] ∧ (-(2 ^ 62) ≤ i ∧ i < 2 ^ 62 ∧ -(2 ^ 62) ≤ n ∧ n < 2 ^ 62) ∧ ForK (Itr i (n - i).toNat) g tb D σ H1) : tFor (iRng2 ta) g tb D σ H := q
theorem x_forL (q : te σ H fun x H1 => ∃ a, x = .ref a ∧ (∃ xs, SqL K H1 a xs) ∧ ForK (Itl K a) g tb D σ H1) : tFor (iList K te) g tb D σ H := q
theorem x_forRV {n : Int} (Pv : Nat → L2.St → Hp → Prop) (hn : n ≤ 100000 ∧ -100000 ≤ n) (h0 : Pv 0 σ H)
    (hs : ∀ (i : Nat) σ' H', (i : Int) < n → Pv i σ' H' → tb { D with nx := Pv (i + 1), ct := Pv (i + 1), bk := D.nx } (σ'.set j (some (.int (i : Int)))) H') (hd : ∀ σ' H', Pv n.toNat σ' H' → D.nx σ' H') :
    ∃ m : Int, ([V.int n] : List V) = [.int m] ∧ -(2 ^ 62) ≤ m ∧ m < 2 ^ 62 ∧ ForK (Itr 0 m.toNat) (gName j) tb D σ H := by
  refine ⟨n, rfl, by omega, by omega, for_range (lo := 0) (n := n.toNat) Pv h0 (fun i σ' H' hi p => ?_) hd⟩
  have e : (0 : Int) + (i : Int) = (i : Int) := Int.zero_add _
  show tb _ (σ'.set j (some (V.int ((0 : Int) + (i : Int))))) H'
  rw [e]
  exact hs i σ' H' (by omega) p
theorem x_forR2V {lo n : Int} (Pv : Nat → L2.St → Hp → Prop) (hn : n ≤ 100000 ∧ -100000 ≤ n ∧ lo ≤ 100000 ∧ -100000 ≤ lo) (h0 : Pv 0 σ H)
    (hs : ∀ (i : Nat) σ' H', lo + (i : Int) < n → Pv i σ' H' → tb { D with nx := Pv (i + 1), ct := Pv (i + 1), bk := D.nx } (σ'.set j (some (.int (lo + (i : Int))))) H') (hd : ∀ σ' H', Pv (n - lo).toNat σ' H' → D.nx σ' H') :
    ∃ i m : Int, ([V.int lo, V.int n] : List V) = [.int i, .int m] ∧ (-(2 ^ 62) ≤ i ∧ i < 2 ^ 62 ∧ -(2 ^ 62) ≤ m ∧ m < 2 ^ 62) ∧ ForK (Itr i (m - i).toNat) (gName j) tb D σ H :=
  ⟨lo, n, rfl, by omega, for_range (lo := lo) (n := (n - lo).toNat) Pv h0 (fun i σ' H' hi p => hs i σ' H' (by omega) p) hd⟩
theorem x_forLV {a : Addr} {xs : List V} (Pv : Nat → L2.St → Hp → Prop) (h : SqL K H a xs) (h0 : Pv 0 σ H) (hl : ∀ i σ' H', i ≤ xs.length → Pv i σ' H' → SqL K H' a xs)
    (hs : ∀ i x σ' H', xs[i]? = some x → Pv i σ' H' → g x σ' H' fun σ2 H2 => tb { D with nx := Pv (i + 1), ct := Pv (i + 1), bk := D.nx } σ2 H2) (hd : ∀ σ' H', Pv xs.length σ' H' → D.nx σ' H') :
    ∃ b, V.ref a = .ref b ∧ (∃ xs, SqL K H b xs) ∧ ForK (Itl K b) g tb D σ H := ⟨a, rfl, ⟨xs, h⟩, for_list (xs := xs) Pv h0 hl hs hd⟩
end
/-! ### an own error with one text -/
structure Rz (K : PySem.W.Frag) (mg : Str → Option Value) (x : Str) (C : Addr) : Prop where
  g : mg x = some (.ref C)
  q : PySem.W.excIn K C He.veBase "ValueError.__new__" = true
  k : PySem.W.keepIn K (.ref C) = true
  b : PySem.W.subIn K (.ref C) (.type "BaseException") = some true
  t : PySem.W.typeIn K (.ref C) = some (.type "type")
theorem pmk_txt {X : Cx} {x m : Str} {C : Addr} {j : Nat} {p p2 pos : Pos} (R : Rz X.K X.mg x C) (hg : Gl X x) (hdb : (x == ("__debug__" : Str)) = false := by decide) :
    PMk X (.Call (.Name x p) [.Constant (.str m) j p2] [] pos) (fun _ H Q => Q (.ref C) none H) := pmk_own PySem.F.excBase_ValueError R.q R.g R.k (raises_own R.b R.t) hg hdb
/-! ### the end of a law -/
theorem walk_fin {l : PySem.W.OpenLaw} {n k : Nat} {q : Program} {loose : List Str} {XP : (Str → Option Value) → Heap → Prop} {YP : World → Heap → Prop} {d : DefRec} {x : Str}
    (hn : l.most = some n) (hn2 : n ≤ sizeLine) (hdf : d.params.defaults = []) (hr : Room k callerA)
    (F : ∀ (w : World) (mg : Str → Option Value) (fa : Addr) (h : Heap), YP w h → h.Ns mainGlobals mg → mg d.name = some (.ref fa) → ∃ (K : PySem.W.Frag) (sp : Sp), K.In h ∧
      (∀ (H : Hp) (a : Addr) (ns : List Int), ns.length ≤ n → SqL K H a (ns.map V.int) → sp [.ref a] H (fun v _ => v = .bl true) fun _ _ _ => False) ∧
      ∃ fd : FuncData, (∀ (s : Shared) (u : Value), BindsTo s fd ⟨[u], []⟩ [(x, u)]) ∧ ∀ base : Heap, FnOk l.prog w K mg base (L2.CX l.prog w) k fa fd [x] sp) :
    PySem.W.WalkO q loose XP YP l.row.toRowW d [] (fun f vs => PySem.call f vs) := by
  refine Att.attach_call hn hdf ?_
  intro w s0 s1 mg mb fa o pm cd doc a vs ns G Y ho hd hcd hmg hobj hints hlen hg
  obtain ⟨K, sp, KX, hsp, fd, hb, hF⟩ := F w mg fa _ Y G.T.g hmg
  refine law_call (CX := L2.CX l.prog w) KX G.T.g G.T.b G.T.builtins G.T.nolimit hg hobj hints (Nat.le_trans hlen hn2) hr (fun base _ _ => hF base) hb (fun H _ hS => hsp H a ns hlen hS) ?_
  intro H e s' h
  obtain ⟨_, _, _, _, _, _, _, _, _, _, _, _, z⟩ := h
  exact z
end Tm

namespace Tm
open PySem L2
/-! ### names, parts, paths -/
abbrev sl : Str := "/"
abbrev signs : Str := "abcdefghijklmnopqrstuvwxyz0123456789"
abbrev cs (s : Str) : List Nat := s.cps.toList
def isName (s : Str) : Bool := decide (1 ≤ s.length) && (decide (s.length ≤ 8) && (cs s).all fun c => decide (c ∈ cs signs))
def isPart (s : Str) : Bool := decide (s = ".") || (decide (s = "..") || isName s)
def goodParts (ps : List Str) : Bool := decide (ps.length ≤ 12) && ps.all isPart
def restOf (s : Str) : Str := if Txt.slice s none (some 1) = sl then Txt.slice s (some 1) none else s
def partsOf (top : Bool) (s : Str) : Option (List Str) :=
  if top = true ∧ ¬ Txt.slice s none (some 1) = sl then none
  else if restOf s = "" ∧ s = sl then some []
  else if goodParts (Txt.split (restOf s) sl) = true then some (Txt.split (restOf s) sl) else none
def pathOf (ps : List Str) : Str := sl ++ Txt.join sl ps
theorem cs_sl : cs sl = [47] := by decide +kernel
theorem cs_signs : cs signs = [97, 98, 99, 100, 101, 102, 103, 104, 105, 106, 107, 108, 109, 110, 111, 112, 113, 114, 115, 116, 117, 118, 119, 120, 121, 122, 48, 49, 50, 51, 52, 53, 54, 55, 56, 57] := by decide +kernel
theorem cs_dot : cs "." = [46] := by decide +kernel
theorem cs_dots : cs ".." = [46, 46] := by decide +kernel
theorem len_cs (s : Str) : s.length = (cs s).length := by simp [Str.length]
theorem cs_cat (a b : Str) : cs (a ++ b) = cs a ++ cs b := TL.tl_append a b
theorem ext_cs {a b : Str} (h : cs a = cs b) : a = b := TL.ext_tl h
theorem sl_S : sl = SX.S [47] := by decide +kernel
theorem S_cs (s : Str) : SX.S (cs s) = s := SX.S_tl s
/-- a name has signs, none a stroke or a dot -/
theorem name_facts {s : Str} (h : isName s = true) : cs s ≠ [] ∧ 47 ∉ cs s ∧ 46 ∉ cs s ∧ s.length ≤ 8 := by
  unfold isName at h
  simp only [Bool.and_eq_true, decide_eq_true_eq, List.all_eq_true] at h
  obtain ⟨h1, h2, h3⟩ := h
  refine ⟨fun e => ?_, fun e => ?_, fun e => ?_, h2⟩
  · rw [len_cs, e] at h1
    exact absurd h1 (by decide)
  · have := h3 _ e
    rw [cs_signs] at this
    exact absurd this (by decide)
  · have := h3 _ e
    rw [cs_signs] at this
    exact absurd this (by decide)
theorem part_facts {s : Str} (h : isPart s = true) : cs s ≠ [] ∧ 47 ∉ cs s ∧ s.length ≤ 8 := by
  unfold isPart at h
  simp only [Bool.or_eq_true, decide_eq_true_eq] at h
  rcases h with h | h | h
  · subst h
    refine ⟨?_, ?_, ?_⟩
    · rw [cs_dot]; decide
    · rw [cs_dot]; decide
    · rw [len_cs, cs_dot]; decide
  · subst h
    refine ⟨?_, ?_, ?_⟩
    · rw [cs_dots]; decide
    · rw [cs_dots]; decide
    · rw [len_cs, cs_dots]; decide
  · obtain ⟨a, b, _, d⟩ := name_facts h
    exact ⟨a, b, d⟩
theorem not_name_dot : isName "." = false := by decide +kernel
theorem not_name_dots : isName ".." = false := by decide +kernel
theorem good_all {ps : List Str} (h : goodParts ps = true) : ps.length ≤ 12 ∧ ∀ p ∈ ps, isPart p = true := by
  unfold goodParts at h
  simp only [Bool.and_eq_true, decide_eq_true_eq, List.all_eq_true] at h
  exact h
theorem good_of {ps : List Str} (h1 : ps.length ≤ 12) (h2 : ∀ p ∈ ps, isPart p = true) : goodParts ps = true := by
  unfold goodParts
  simp only [Bool.and_eq_true, decide_eq_true_eq, List.all_eq_true]
  exact ⟨h1, h2⟩
/-- joined by strokes, as signs -/
theorem cs_join (ps : List Str) : cs (Txt.join sl ps) = TL.joinL [47] (ps.map cs) := by
  have e : cs (Txt.join sl ps) = TL.joinL (cs sl) (ps.map cs) := by
    have h1 : Txt.join sl ps = Str.join sl ps := TL.join_eq sl ps
    rw [h1]
    exact TL.tl_join sl ps
  rw [cs_sl] at e
  exact e
theorem cs_path (ps : List Str) : cs (pathOf ps) = 47 :: TL.joinL [47] (ps.map cs) := by
  unfold pathOf
  rw [cs_cat, cs_sl, cs_join] <;> rfl
theorem slice1 (s : Str) : Txt.slice s none (some 1) = SX.S ((cs s).take 1) := by
  have e := SX.slice_to (a := cs s) (i := 1) (by decide)
  rw [S_cs] at e
  exact e
theorem slice1' (s : Str) : Txt.slice s (some 1) none = SX.S ((cs s).drop 1) := by
  have e := SX.slice_from (a := cs s) (i := 1) (by decide)
  rw [S_cs] at e
  exact e
theorem split_join {ps : List Str} (hne : ps ≠ []) (h : ∀ p ∈ ps, 47 ∉ cs p) : Txt.split (Txt.join sl ps) sl = ps :=
  TL.split_join (y := sl) (s := 47) (S := []) cs_sl (by decide +kernel) hne h
theorem joinL_first {c : Nat} {r : List Nat} {ls : List (List Nat)} : (TL.joinL [47] ((c :: r) :: ls)).take 1 = [c] := by
  cases ls with
  | nil => rfl
  | cons q t => rfl
theorem first_join {ps : List Str} (hne : ps ≠ []) (h : ∀ p ∈ ps, isPart p = true) : ∃ c, (cs (Txt.join sl ps)).take 1 = [c] ∧ c ≠ 47 := by
  cases ps with
  | nil => exact absurd rfl hne
  | cons p r =>
    obtain ⟨h1, h2, _⟩ := part_facts (h p (List.mem_cons_self ..))
    cases e : cs p with
    | nil => exact absurd e h1
    | cons c t =>
      refine ⟨c, ?_, fun z => h2 ?_⟩
      · rw [cs_join, List.map_cons, e]
        exact joinL_first
      · rw [e, z]
        exact List.mem_cons_self ..
theorem S_ne {a b : List Nat} (h : a ≠ b) : SX.S a ≠ SX.S b := fun e => h (SX.S_inj e)
theorem rest_path (ps : List Str) : Txt.slice (pathOf ps) none (some 1) = sl ∧ restOf (pathOf ps) = Txt.join sl ps := by
  have e : Txt.slice (pathOf ps) none (some 1) = sl := by
    rw [slice1, cs_path, sl_S] <;> rfl
  refine ⟨e, ?_⟩
  unfold restOf
  rw [if_pos e, slice1', cs_path]
  show SX.S (TL.joinL [47] (ps.map cs)) = _
  rw [← cs_join, S_cs]
theorem rest_rel {ps : List Str} (hne : ps ≠ []) (h : ∀ p ∈ ps, isPart p = true) : ¬ Txt.slice (Txt.join sl ps) none (some 1) = sl ∧ restOf (Txt.join sl ps) = Txt.join sl ps := by
  obtain ⟨c, h1, h2⟩ := first_join hne h
  have e : ¬ Txt.slice (Txt.join sl ps) none (some 1) = sl := by
    rw [slice1, h1, sl_S]
    exact S_ne fun z => h2 (by injection z)
  refine ⟨e, ?_⟩
  unfold restOf
  rw [if_neg e]
theorem join_ne {ps : List Str} (hne : ps ≠ []) (h : ∀ p ∈ ps, isPart p = true) : ¬ Txt.join sl ps = "" := fun e => by
  obtain ⟨c, h1, _⟩ := first_join hne h
  rw [e] at h1
  exact absurd h1 (by
    have z : cs "" = [] := by decide +kernel
    rw [z]
    intro q
    cases q)
theorem join_nil : Txt.join sl [] = "" := by decide +kernel
theorem path_nil : pathOf [] = sl := by decide +kernel
/-- THE READ-BACK of a path from the top -/
theorem parts_path (top : Bool) {ps : List Str} (h : goodParts ps = true) : partsOf top (pathOf ps) = some ps := by
  obtain ⟨h1, h2⟩ := good_all h
  obtain ⟨r1, r2⟩ := rest_path ps
  unfold partsOf
  rw [if_neg fun z => z.2 r1, r2]
  by_cases hne : ps = []
  · subst hne
    rw [if_pos ⟨join_nil, path_nil⟩]
  · rw [if_neg fun z => join_ne hne h2 z.1, split_join hne fun p hp => (part_facts (h2 p hp)).2.1, if_pos h]
theorem parts_rel {ps : List Str} (hne : ps ≠ []) (h : goodParts ps = true) : partsOf false (Txt.join sl ps) = some ps := by
  obtain ⟨h1, h2⟩ := good_all h
  obtain ⟨r1, r2⟩ := rest_rel hne h2
  unfold partsOf
  rw [if_neg (fun z : false = true ∧ _ => Bool.false_ne_true z.1), r2, if_neg fun z => join_ne hne h2 z.1, split_join hne fun p hp => (part_facts (h2 p hp)).2.1, if_pos h]
/-- what is told has good parts -/
theorem parts_good {top : Bool} {s : Str} {ps : List Str} (h : partsOf top s = some ps) : goodParts ps = true := by
  unfold partsOf at h
  split at h
  · cases h
  · split at h
    · cases h
      rfl
    · split at h
      · rename_i q
        cases h
        exact q
      · cases h
theorem join_short {ps : List Str} (h : goodParts ps = true) : (ps.map (·.length)).sum + ps.length * sl.length ≤ 108 := by
  obtain ⟨h1, h2⟩ := good_all h
  have e : sl.length = 1 := by decide +kernel
  rw [e, Nat.mul_one]
  have key : ∀ l : List Str, (∀ p ∈ l, isPart p = true) → (l.map (·.length)).sum ≤ 8 * l.length := by
    intro l
    induction l with
    | nil => intro _; exact Nat.le_refl _
    | cons p r ih =>
      intro hl
      have a := (part_facts (hl p (List.mem_cons_self ..))).2.2
      have b := ih fun q hq => hl q (List.mem_cons_of_mem _ hq)
      rw [List.map_cons, List.sum_cons, List.length_cons]
      omega
  have := key ps h2
  omega
theorem join_len {ps : List Str} (h : goodParts ps = true) : (Txt.join sl ps).length ≤ 108 := by
  have e : Txt.join sl ps = Str.join sl ps := TL.join_eq sl ps
  rw [e]
  exact Nat.le_trans (StrLaws.join_length_le sl ps) (join_short h)
theorem path_len {ps : List Str} (h : goodParts ps = true) : (pathOf ps).length ≤ 109 := by
  unfold pathOf
  rw [Str.length_append]
  have := join_len h
  have e : sl.length = 1 := by decide +kernel
  omega
/-! ### things asked about -/
/-- a thing whose class is, or isn't, cls -/
def Kind (K : PySem.W.Frag) (H : Hp) (v : V) (cls : String) (b : Bool) : Prop := ∃ tv, TyX K H v tv ∧ PySem.W.kitOne K tv (.type cls) = some b
theorem Kind.str {K : PySem.W.Frag} {H : Hp} {s : Str} : Kind K H (.str s) "str" true := ⟨_, .base (.str s), kit_ty (by decide +kernel)⟩
theorem tyX_ex {K : PySem.W.Frag} {H H' : Hp} {v : V} {t : Value} (e : Ex H H') (h : TyX K H v t) : TyX K H' v t := by
  cases h with
  | base h =>
    cases h with
    | non => exact .base .non
    | bl x => exact .base (.bl x)
    | int i => exact .base (.int i)
    | str x => exact .base (.str x)
    | flt x => exact .base (.flt x)
    | lst h => exact .base (.lst (e _ _ h))
    | frz h => exact .base (.frz (e _ _ h))
    | tup h => exact .base (.tup (e _ _ h))
    | dK h => exact .base (.dK (e _ _ h))
    | dT h => exact .base (.dT (e _ _ h))
    | ins h a b c d f => exact .base (.ins (e _ _ h) a b c d f)
  | byt b => exact .byt b
  | set h => exact .set (e _ _ h)
  | kList h c => exact .kList h c
  | kTuple h c => exact .kTuple h c
  | kDict h c => exact .kDict h c
  | fTuple h => exact .fTuple (e _ _ h)
  | fDict h => exact .fDict (e _ _ h)
theorem Kind.ex {K : PySem.W.Frag} {H H' : Hp} {v : V} {c : String} {b : Bool} (h : Kind K H v c b) (e : Ex H H') : Kind K H' v c b := by
  obtain ⟨tv, h1, h2⟩ := h
  exact ⟨tv, tyX_ex e h1, h2⟩
def partV : V → Bool
  | .str s => isPart s
  | _ => false
/-- a thing that may be asked whether it is a part -/
def PartOk (K : PySem.W.Frag) (H : Hp) (v : V) : Prop := (∃ s, v = .str s ∧ s.length ≤ sizeLine) ∨ (Kind K H v "str" false ∧ flatV v = true ∧ inV v [.str ".", .str ".."] = false) ∨ ∃ l xs, v = .ref l ∧ H l = some (.lst xs)
theorem PartOk.ex {K : PySem.W.Frag} {H H' : Hp} {v : V} (h : PartOk K H v) (e : Ex H H') : PartOk K H' v := by
  rcases h with h | ⟨h1, h2, h3⟩ | ⟨l, xs, h1, h2⟩
  · exact .inl h
  · exact .inr (.inl ⟨h1.ex e, h2, h3⟩)
  · exact .inr (.inr ⟨l, xs, h1, e _ _ h2⟩)
def cBadPath (K : PySem.W.Frag) : Value := .ref (He.ga K "BadPath")
theorem restOf_len (s : Str) : (restOf s).length ≤ s.length := by
  unfold restOf
  split
  · rw [slice1', SX.S_len, len_cs s, List.length_drop]
    omega
  · exact Nat.le_refl _
theorem split_small (s : Str) {p : Str} (h : p ∈ Txt.split s sl) : p.length ≤ s.length := by
  have e : Str.join sl (Txt.split s sl) = s := StrLaws.join_split s sl
  have := PySem.join_mem_le sl (Txt.split s sl) p h
  rw [e] at this
  exact this
theorem split_count (s : Str) : (Txt.split s sl).length ≤ s.length + 2 := PyProof.Rows.split_le s sl
end Tm
namespace Tm
open PySem L2
/-! ### the law's cells -/
/-- at t: [cells, draws]; at c: the cells -/
def Town (H : Hp) (t c : Addr) : Prop := ∃ (ns : List Int) (n : Int), H t = some (.lst [.ref c, .int n]) ∧ H c = some (.lst (ns.map V.int)) ∧ ns ≠ []
theorem Town.ne {H : Hp} {t c : Addr} (T : Town H t c) : t ≠ c := by
  obtain ⟨ns, n, h1, h2, h3⟩ := T
  refine ne_of h1 h2 fun z => ?_
  cases ns with
  | nil => exact h3 rfl
  | cons a r => cases z
theorem Town.ex {H H' : Hp} {t c : Addr} (T : Town H t c) (e : Ex H H') : Town H' t c := by
  obtain ⟨ns, n, h1, h2, h3⟩ := T
  exact ⟨ns, n, e _ _ h1, e _ _ h2, h3⟩
theorem Town.off {H H' : Hp} {t c : Addr} {S : List Addr} (T : Town H t c) (e : Off S H H') (h1 : t ∉ S) (h2 : c ∉ S) : Town H' t c := by
  obtain ⟨ns, n, h3, h4, h5⟩ := T
  exact ⟨ns, n, e _ _ h3 h1, e _ _ h4 h2, h5⟩
theorem Town.t {H : Hp} {t c : Addr} (T : Town H t c) : ∃ o, H t = some o := by
  obtain ⟨ns, n, h1, h2, h3⟩ := T
  exact ⟨_, h1⟩
theorem Town.c {H : Hp} {t c : Addr} (T : Town H t c) : ∃ o, H c = some o := by
  obtain ⟨ns, n, h1, h2, h3⟩ := T
  exact ⟨_, h2⟩
end Tm
namespace Tm
open PySem L2
/-! ### == of lists of numbers, of texts -/
theorem dp_ints {K : PySem.W.Frag} {H : Hp} : ∀ ns : List Int, DpAll K H (ns.map V.int) (ns.map PyData.int)
  | [] => .nil
  | n :: r => .cons (.int n) (dp_ints r)
theorem dp_strs {K : PySem.W.Frag} {H : Hp} : ∀ ss : List Str, DpAll K H (ss.map V.str) (ss.map PyData.str)
  | [] => .nil
  | n :: r => .cons (.str n) (dp_strs r)
theorem flat_depth : ∀ ds : List PyData, (∀ d ∈ ds, d.depth = 0) → PyData.depthAll ds = 0
  | [], _ => rfl
  | d :: r, h => by
    rw [PyData.depthAll, h d (List.mem_cons_self ..), flat_depth r fun x hx => h x (List.mem_cons_of_mem _ hx)] <;> rfl
theorem lay_all : ∀ ds : List PyData, (∀ d ∈ ds, d.canLay0 = true) → PyData.canLayAll0 ds = true
  | [], _ => rfl
  | d :: r, h => by
    rw [PyData.canLayAll0, h d (List.mem_cons_self ..), lay_all r fun x hx => h x (List.mem_cons_of_mem _ hx)] <;> rfl
theorem shaped_flat {ds : List PyData} (h1 : ∀ d ∈ ds, d.depth = 0) (h2 : ∀ d ∈ ds, d.canLay0 = true) : SeqAt.shaped (.list ds) = true := by
  unfold SeqAt.shaped
  rw [PyData.canLay0, lay_all ds h2, PyData.depth, flat_depth ds h1]
  rfl
theorem shaped_ints (ns : List Int) : SeqAt.shaped (.list (ns.map PyData.int)) = true := by
  refine shaped_flat (fun d h => ?_) (fun d h => ?_)
  · obtain ⟨n, _, rfl⟩ := List.mem_map.mp h
    rfl
  · obtain ⟨n, _, rfl⟩ := List.mem_map.mp h
    rfl
theorem shaped_strs {ss : List Str} (h : ∀ s ∈ ss, PyData.strOk s = true) : SeqAt.shaped (.list (ss.map PyData.str)) = true := by
  refine shaped_flat (fun d h => ?_) (fun d hd => ?_)
  · obtain ⟨n, _, rfl⟩ := List.mem_map.mp h
    rfl
  · obtain ⟨n, hn, rfl⟩ := List.mem_map.mp hd
    exact h n hn
theorem eqv_strs : ∀ a b : List Str, PyData.eqvAll (a.map PyData.str) (b.map PyData.str) = decide (a = b)
  | [], [] => rfl
  | [], _ :: _ => rfl
  | _ :: _, [] => rfl
  | x :: a, y :: b => by
    show (PyData.eqv (.str x) (.str y) && PyData.eqvAll (a.map PyData.str) (b.map PyData.str)) = _
    rw [eqv_strs a b]
    have e : PyData.eqv (.str x) (.str y) = decide (x = y) := by
      show (x == y) = decide (x = y)
      rfl
    rw [e, ← Bool.decide_and]
    congr 1
    simp
theorem eqv_list_strs (a b : List Str) : PyData.eqv (.list (a.map PyData.str)) (.list (b.map PyData.str)) = decide (a = b) := eqv_strs a b
end Tm
namespace Tm
open PySem L2
/-! ### names put together of single signs -/
abbrev nn : Str := ""
theorem cs_nn : cs nn = [] := by decide +kernel
theorem joinL_nil : ∀ ls : List (List Nat), TL.joinL [] ls = ls.flatten
  | [] => rfl
  | [p] => by
    show p = [p].flatten
    simp
  | p :: q :: r => by
    show p ++ ([] ++ TL.joinL [] (q :: r)) = _
    rw [joinL_nil (q :: r)]
    simp
theorem cs_glue (ss : List Str) : cs (Txt.join nn ss) = (ss.map cs).flatten := by
  have h1 : Txt.join nn ss = Str.join nn ss := TL.join_eq nn ss
  have h2 : cs (Str.join nn ss) = TL.joinL (cs nn) (ss.map cs) := TL.tl_join nn ss
  rw [h1, h2, cs_nn, joinL_nil]
/-- one sign of a name -/
def Sign1 (s : Str) : Prop := ∃ c, cs s = [c] ∧ c ∈ cs signs
theorem glue_facts : ∀ {ss : List Str}, (∀ s ∈ ss, Sign1 s) → ((ss.map cs).flatten).length = ss.length ∧ ∀ c ∈ (ss.map cs).flatten, c ∈ cs signs
  | [], _ => ⟨rfl, fun _ h => nomatch h⟩
  | s :: r, h => by
    obtain ⟨h1, h2⟩ := glue_facts (ss := r) fun q hq => h q (List.mem_cons_of_mem _ hq)
    obtain ⟨c, e, hc⟩ := h s (List.mem_cons_self ..)
    rw [List.map_cons, List.flatten_cons, e]
    refine ⟨by rw [List.length_append, h1, List.length_cons]; simp; omega, fun d hd => ?_⟩
    rcases List.mem_append.mp hd with z | z
    · rw [List.mem_singleton.mp z]
      exact hc
    · exact h2 d z
theorem glue_name {ss : List Str} (h : ∀ s ∈ ss, Sign1 s) (h1 : 1 ≤ ss.length) (h8 : ss.length ≤ 8) : isName (Txt.join nn ss) = true := by
  obtain ⟨e, hm⟩ := glue_facts h
  unfold isName
  rw [len_cs, cs_glue, e, decide_eq_true h1, decide_eq_true h8, Bool.true_and, Bool.true_and, List.all_eq_true]
  exact fun c hc => decide_eq_true (hm c hc)
theorem glue_short {ss : List Str} (h : ∀ s ∈ ss, Sign1 s) : (ss.map (·.length)).sum = ss.length := by
  have key : ∀ l : List Str, (∀ s ∈ l, Sign1 s) → (l.map (·.length)).sum = l.length := by
    intro l
    induction l with
    | nil => intro _; rfl
    | cons s r ih =>
      intro hl
      obtain ⟨c, e, _⟩ := hl s (List.mem_cons_self ..)
      rw [List.map_cons, List.sum_cons, ih fun q hq => hl q (List.mem_cons_of_mem _ hq), List.length_cons, len_cs, e]
      simp
      omega
  exact key ss h
theorem strOk_of {s : Str} (h : ∀ c ∈ cs s, c < 128) : PyData.strOk s = true := by
  unfold PyData.strOk
  rw [← Array.all_toList, List.all_eq_true]
  intro c hc
  have := h c hc
  exact decide_eq_true (by omega)
theorem signs_lt : ∀ c ∈ cs signs, c < 128 := by
  rw [cs_signs]
  decide
theorem name_ok {s : Str} (h : isName s = true) : PyData.strOk s = true := by
  unfold isName at h
  simp only [Bool.and_eq_true, decide_eq_true_eq, List.all_eq_true] at h
  exact strOk_of fun c hc => signs_lt c (h.2.2 c hc)
theorem part_ok {s : Str} (h : isPart s = true) : PyData.strOk s = true := by
  have h0 := h
  unfold isPart at h
  simp only [Bool.or_eq_true, decide_eq_true_eq] at h
  rcases h with h | h | h
  · subst h; decide +kernel
  · subst h; decide +kernel
  · exact name_ok h
end Tm
namespace Tm
open PySem L2
theorem map_str_inj : ∀ {a b : List Str}, a.map V.str = b.map V.str → a = b
  | [], [], _ => rfl
  | [], _ :: _, h => nomatch h
  | _ :: _, [], h => nomatch h
  | x :: a, y :: b, h => by
    rw [List.map_cons, List.map_cons] at h
    injection h with h1 h2
    rw [V.str.inj h1, map_str_inj h2]
theorem sl_len : sl.length = 1 := by decide +kernel
end Tm
namespace Tm
open PySem L2
/-! ### plain, joined, split -/
def plainStep (acc : List Str) (p : Str) : List Str := if p = ".." then acc.dropLast else if p = "." then acc else acc ++ [p]
def plain (ps : List Str) : List Str := ps.foldl plainStep []
theorem plain_snoc (ps : List Str) (p : Str) : plain (ps ++ [p]) = plainStep (plain ps) p := by
  unfold plain
  rw [List.foldl_append]
  rfl
theorem step_facts {acc : List Str} {p : Str} (h : ∀ q ∈ acc, isName q = true) (hp : isPart p = true) : (∀ q ∈ plainStep acc p, isName q = true) ∧ (plainStep acc p).length ≤ acc.length + 1 := by
  unfold plainStep
  split
  · refine ⟨fun q hq => h q (List.dropLast_subset acc hq), ?_⟩
    rw [List.length_dropLast]
    omega
  · split
    · exact ⟨h, by omega⟩
    · rename_i h1 h2
      refine ⟨fun q hq => ?_, by rw [List.length_append]; exact Nat.le_refl _⟩
      rcases List.mem_append.mp hq with z | z
      · exact h q z
      · rw [List.mem_singleton.mp z]
        unfold isPart at hp
        rw [decide_eq_false h2, decide_eq_false h1, Bool.false_or, Bool.false_or] at hp
        exact hp
theorem fold_facts : ∀ {ps acc : List Str}, (∀ q ∈ acc, isName q = true) → (∀ p ∈ ps, isPart p = true) → (∀ q ∈ ps.foldl plainStep acc, isName q = true) ∧ (ps.foldl plainStep acc).length ≤ acc.length + ps.length
  | [], acc, h, _ => ⟨h, Nat.le_refl _⟩
  | p :: r, acc, h, hp => by
    obtain ⟨h1, h2⟩ := step_facts (p := p) h (hp p (List.mem_cons_self ..))
    obtain ⟨h3, h4⟩ := fold_facts (ps := r) h1 fun q hq => hp q (List.mem_cons_of_mem _ hq)
    refine ⟨h3, ?_⟩
    rw [List.foldl_cons, List.length_cons]
    omega
theorem part_name {s : Str} (h : isName s = true) : isPart s = true := by
  unfold isPart
  rw [h, Bool.or_true, Bool.or_true]
theorem plain_facts {ps : List Str} (h : ∀ p ∈ ps, isPart p = true) : (∀ q ∈ plain ps, isName q = true) ∧ (plain ps).length ≤ ps.length := by
  obtain ⟨h1, h2⟩ := fold_facts (ps := ps) (acc := []) (fun _ h => nomatch h) h
  exact ⟨h1, by simpa [plain] using h2⟩
theorem plain_good {ps : List Str} (h : goodParts ps = true) : goodParts (plain ps) = true := by
  obtain ⟨h1, h2⟩ := good_all h
  obtain ⟨h3, h4⟩ := plain_facts h2
  exact good_of (by omega) fun p hp => part_name (h3 p hp)
/-- names alone are plain -/
theorem fold_names : ∀ {ps acc : List Str}, (∀ p ∈ ps, isName p = true) → ps.foldl plainStep acc = acc ++ ps
  | [], acc, _ => by simp
  | p :: r, acc, h => by
    have hp := h p (List.mem_cons_self ..)
    have e : plainStep acc p = acc ++ [p] := by
      unfold plainStep
      have n1 : ¬ p = ".." := fun z => by
        rw [z, not_name_dots] at hp
        cases hp
      have n2 : ¬ p = "." := fun z => by
        rw [z, not_name_dot] at hp
        cases hp
      rw [if_neg n1, if_neg n2]
    rw [List.foldl_cons, e, fold_names fun q hq => h q (List.mem_cons_of_mem _ hq), List.append_assoc]
    rfl
theorem plain_names {ps : List Str} (h : ∀ p ∈ ps, isName p = true) : plain ps = ps := by
  have := fold_names (acc := []) h
  simpa [plain] using this
theorem plain_plain {ps : List Str} (h : ∀ p ∈ ps, isPart p = true) : plain (plain ps) = plain ps := plain_names (plain_facts h).1
theorem plain_append (ps qs : List Str) : plain (ps ++ qs) = qs.foldl plainStep (plain ps) := by
  unfold plain
  rw [List.foldl_append]
theorem plain_join {ps qs : List Str} (h : ∀ p ∈ ps, isPart p = true) : plain (plain ps ++ qs) = plain (ps ++ qs) := by
  rw [plain_append, plain_append, plain_plain h]
theorem cut_last (xs : List V) : cutV xs none (some (-1)) = xs.dropLast := by
  unfold cutV
  have e1 : HT.sIx xs.length 0 none = 0 := rfl
  have e2 : HT.sIx xs.length xs.length (some (-1)) = xs.length - 1 := by
    unfold HT.sIx
    simp
    omega
  rw [e1, e2, List.drop_zero, Nat.sub_zero, List.dropLast_eq_take]
theorem cut_to {xs : List V} {i : Int} (h : 0 ≤ i) : cutV xs none (some i) = xs.take i.toNat := by
  unfold cutV
  have e1 : HT.sIx xs.length 0 none = 0 := rfl
  have e2 : HT.sIx xs.length xs.length (some i) = min i.toNat xs.length := by
    unfold HT.sIx
    simp
    omega
  rw [e1, e2, List.drop_zero, Nat.sub_zero]
  rw [← List.take_eq_take_min]
theorem cut_from {xs : List V} {i : Int} (h : 0 ≤ i) : cutV xs (some i) none = xs.drop i.toNat := by
  unfold cutV
  have e1 : HT.sIx xs.length xs.length none = xs.length := rfl
  have e2 : HT.sIx xs.length 0 (some i) = min i.toNat xs.length := by
    unfold HT.sIx
    simp
    omega
  rw [e1, e2]
  by_cases hi : i.toNat ≤ xs.length
  · rw [Nat.min_eq_left hi, List.take_of_length_le (by rw [List.length_drop]; omega)]
  · rw [Nat.min_eq_right (by omega), Nat.sub_self, List.take_zero, List.drop_eq_nil_of_le (by omega)]
end Tm
namespace Tm
open PySem L2
def sp_town (K : PySem.W.Frag) : Sp := fun vs H Q _ => ∃ (a : Addr) (ns : List Int), vs = [.ref a] ∧ SqL K H a (ns.map V.int) ∧ ns.length ≤ 63 ∧ ∀ t c H', H t = none → H c = none → Ex H H' → Town H' t c → Q (.ref t) H'
end Tm
namespace Tm
open PySem L2
def sp_draw : Sp := fun vs H Q _ => ∃ (t c : Addr) (m : Int), vs = [.ref t, .int m] ∧ 0 < m ∧ m < 1073741824 ∧ Town H t c ∧ ∀ (r : Int) (H' : Hp), 0 ≤ r → r < m → Town H' t c → Off [t, c] H H' → Q (.int r) H'
end Tm
namespace Tm
open PySem L2
def sp_pick : Sp := fun vs H Q _ => ∃ (t c l : Addr) (xs : List V), vs = [.ref t, .ref l] ∧ Town H t c ∧ H l = some (.lst xs) ∧ l ≠ t ∧ l ≠ c ∧ xs ≠ [] ∧ xs.length < 100000 ∧ ∀ (v : V) (H' : Hp), v ∈ xs → Town H' t c → Off [t, c] H H' → Q v H'
end Tm
namespace Tm
open PySem L2
theorem pick_new {H : Hp} {t c : Addr} {xs : List V} {Q : VK} {E : XK} (T : Town H t c) (hne : xs ≠ []) (hz : xs.length < 1000) (k : ∀ v H', v ∈ xs → Town H' t c → Off [t, c] H H' → Q v H') :
    xs.length ≤ sizeLine ∧ ∀ p, H p = none → sp_pick [.ref t, .ref p] (upd H p (.lst xs)) Q E := by
  refine ⟨Nat.le_of_lt (small1000 (by omega)), fun p hp => ?_⟩
  obtain ⟨o1, h1⟩ := T.t
  obtain ⟨o2, h2⟩ := T.c
  exact ⟨t, c, p, xs, rfl, T.ex (Ex.new hp), upd_same, (ne_of_none h1 hp).symm, (ne_of_none h2 hp).symm, hne, by omega, fun v H' hv T' e => k v H' hv T' fun a o h n => e a o (Ex.new hp a o h) n⟩
theorem Off.at {H H' : Hp} {t c p : Addr} {o : HO} (e : Off [t, c] H H') (h : H p = some o) (h1 : p ≠ t) (h2 : p ≠ c) : H' p = some o := e p o h (by simp [h1, h2])
theorem part_dot : isPart "." = true := by decide +kernel
theorem part_dots : isPart ".." = true := by decide +kernel
/-- the law's names -/
def lnames : List Str := ["a", "b", "c", "d0", "longname"]
def LPart (p : Str) : Prop := p = "." ∨ p = ".." ∨ p ∈ lnames
theorem lname_ok {n : Str} (h : n ∈ lnames) : isName n = true := by
  have key : ∀ m ∈ lnames, isName m = true := by decide +kernel
  exact key n h
theorem LPart.ok {p : Str} (h : LPart p) : isPart p = true := by
  rcases h with rfl | rfl | h
  · exact part_dot
  · exact part_dots
  · exact part_name (lname_ok h)
theorem lnames_all {v : V} (h : v ∈ [V.str "a", V.str "a", V.str "b", V.str "b", V.str "c", V.str "d0", V.str "longname"]) : ∃ n, v = .str n ∧ n ∈ lnames := by
  simp only [List.mem_cons, List.not_mem_nil, or_false] at h
  rcases h with rfl | rfl | rfl | rfl | rfl | rfl | rfl
  all_goals exact ⟨_, rfl, by simp [lnames]⟩
theorem get_str {ps : List Str} {i : Nat} {x : V} (h : (ps.map V.str)[i]? = some x) : ∃ q, ps[i]? = some q ∧ x = .str q := by
  rw [List.getElem?_map] at h
  cases e : ps[i]? with
  | none => rw [e] at h; cases h
  | some q => rw [e] at h; exact ⟨q, rfl, (Option.some.inj h).symm⟩
end Tm
namespace Tm
open PySem L2
theorem cs_lt {s : Str} (h : isPart s = true) : ∀ c ∈ cs s, c < 128 := by
  unfold isPart at h
  simp only [Bool.or_eq_true, decide_eq_true_eq] at h
  rcases h with h | h | h
  · subst h; rw [cs_dot]; decide
  · subst h; rw [cs_dots]; decide
  · unfold isName at h
    simp only [Bool.and_eq_true, decide_eq_true_eq, List.all_eq_true] at h
    exact fun c hc => signs_lt c (h.2.2 c hc)
theorem joinL_lt : ∀ {ls : List (List Nat)}, (∀ l ∈ ls, ∀ c ∈ l, c < 128) → ∀ c ∈ TL.joinL [47] ls, c < 128
  | [], _, _, h => nomatch h
  | [p], h, c, hc => h p (List.mem_cons_self ..) c hc
  | p :: q :: r, h, c, hc => by
    have hc : c ∈ p ++ ([47] ++ TL.joinL [47] (q :: r)) := hc
    rcases List.mem_append.mp hc with z | z
    · exact h p (List.mem_cons_self ..) c z
    · rcases List.mem_append.mp z with y | y
      · rw [List.mem_singleton.mp y]
        decide
      · exact joinL_lt (fun l hl => h l (List.mem_cons_of_mem _ hl)) c y
theorem path_ok {ps : List Str} (h : ∀ p ∈ ps, isPart p = true) : PyData.strOk (pathOf ps) = true := by
  refine strOk_of fun c hc => ?_
  rw [cs_path] at hc
  rcases List.mem_cons.mp hc with z | z
  · rw [z]
    decide
  · refine joinL_lt (fun l hl => ?_) c z
    obtain ⟨p, hp, rfl⟩ := List.mem_map.mp hl
    exact cs_lt (h p hp)
theorem shaped_pair {a b : Str} (ha : PyData.strOk a = true) (hb : PyData.strOk b = true) : SeqAt.shaped (.tuple [.str a, .str b]) = true := by
  unfold SeqAt.shaped
  simp [PyData.canLay0, PyData.canLayAll0, PyData.depth, PyData.depthAll, ha, hb]
theorem eqv_self {d : PyData} (h : SeqAt.shaped d = true) : PyData.eqv d d = true := by
  unfold SeqAt.shaped at h
  exact SeqAt.eqv_refl d (Bool.and_eq_true_iff.mp h).1
/-- == of texts as the heap has them -/
theorem dec_str (a b : Str) : decide (V.str a = V.str b) = decide (a = b) := by
  by_cases h : a = b
  · rw [h, decide_eq_true rfl, decide_eq_true rfl]
  · rw [decide_eq_false h, decide_eq_false fun z => h (V.str.inj z)]
end Tm
namespace Tm
open PySem L2
theorem ofs_join (ps : List Str) : Txt.join sl ps = Str.join sl ps := TL.join_eq sl ps
theorem join_cons (p : Str) {ps : List Str} (h : ps ≠ []) : Txt.join sl (p :: ps) = p ++ sl ++ Txt.join sl ps := by
  rw [ofs_join, ofs_join]
  cases ps with
  | nil => exact absurd rfl h
  | cons q r => rfl
theorem str_assoc (a b c : Str) : a ++ b ++ c = a ++ (b ++ c) := ext_cs (by rw [cs_cat, cs_cat, cs_cat, cs_cat, List.append_assoc])
theorem join_app : ∀ {ls ts : List Str}, ls ≠ [] → ts ≠ [] → Txt.join sl (ls ++ ts) = Txt.join sl ls ++ sl ++ Txt.join sl ts
  | [], _, h, _ => absurd rfl h
  | [p], ts, _, h => by
    show Txt.join sl (p :: ts) = _
    rw [join_cons p h]
    rfl
  | p :: q :: r, ts, _, h => by
    have ih := join_app (ls := q :: r) (ts := ts) (by simp) h
    show Txt.join sl (p :: (q :: r ++ ts)) = _
    rw [join_cons p (by simp), ih, join_cons p (by simp)]
    simp only [str_assoc]
theorem nn_cat (s : Str) : nn ++ s = s := ext_cs (by rw [cs_cat, cs_nn, List.nil_append])
theorem path_join {ps : List Str} (h : ps ≠ []) : pathOf ps = Txt.join sl (nn :: ps) := by
  rw [join_cons nn h, nn_cat]
  rfl
theorem split_path {ps : List Str} (h : ps ≠ []) (hp : ∀ p ∈ ps, isPart p = true) : Txt.split (pathOf ps) sl = nn :: ps := by
  rw [path_join h]
  refine split_join (by simp) fun p hm => ?_
  rcases List.mem_cons.mp hm with z | z
  · rw [z, cs_nn]
    simp
  · exact (part_facts (hp p z)).2.1
theorem split_sl : Txt.split sl sl = [nn, nn] := by decide +kernel
/-- the law's own reading of a path -/
def segs (s : Str) : List Str := (Txt.split s sl).filter fun p => !decide (p = nn)
theorem part_nn {p : Str} (h : isPart p = true) : p ≠ nn := fun e => by
  have := (part_facts h).1
  rw [e, cs_nn] at this
  exact this rfl
theorem filter_parts {ps : List Str} (hp : ∀ p ∈ ps, isPart p = true) : ps.filter (fun p => !decide (p = nn)) = ps :=
  List.filter_eq_self.mpr fun p h => by rw [decide_eq_false (part_nn (hp p h))]; rfl
theorem segs_path {ps : List Str} (hp : ∀ p ∈ ps, isPart p = true) : segs (pathOf ps) = ps := by
  unfold segs
  by_cases h : ps = []
  · subst h
    rw [path_nil, split_sl]
    decide +kernel
  · rw [split_path h hp, List.filter_cons, if_neg (by simp)]
    exact filter_parts hp
theorem segs_rel {ps : List Str} (h : ps ≠ []) (hp : ∀ p ∈ ps, isPart p = true) : segs (Txt.join sl ps) = ps := by
  unfold segs
  rw [split_join h fun p hm => (part_facts (hp p hm)).2.1]
  exact filter_parts hp
end Tm
namespace Tm
open PySem L2
/-- the parts of a path and another one, behind it or from the top -/
def joinOf (a b : Str) : Option (List Str) := match partsOf true a, partsOf false b with
  | some ps, some qs => if Txt.slice b none (some 1) = sl then some qs else if goodParts (ps ++ qs) = true then some (ps ++ qs) else none
  | _, _ => none
theorem joinOf_rel {ps qs : List Str} (hp : goodParts ps = true) (hne : qs ≠ []) (hq : goodParts qs = true) (hl : ps.length + qs.length ≤ 12) : joinOf (pathOf ps) (Txt.join sl qs) = some (ps ++ qs) := by
  unfold joinOf
  rw [parts_path true hp, parts_rel hne hq]
  show (if Txt.slice (Txt.join sl qs) none (some 1) = sl then some qs else if goodParts (ps ++ qs) = true then some (ps ++ qs) else none) = _
  rw [if_neg (rest_rel hne (good_all hq).2).1, if_pos]
  refine good_of (by rw [List.length_append]; exact hl) fun p h => ?_
  rcases List.mem_append.mp h with z | z
  · exact (good_all hp).2 p z
  · exact (good_all hq).2 p z
theorem joinOf_top {ps qs : List Str} (hp : goodParts ps = true) (hq : goodParts qs = true) : joinOf (pathOf ps) (pathOf qs) = some qs := by
  unfold joinOf
  rw [parts_path true hp, parts_path false hq]
  show (if Txt.slice (pathOf qs) none (some 1) = sl then some qs else if goodParts (ps ++ qs) = true then some (ps ++ qs) else none) = _
  rw [if_pos (rest_path qs).1]
end Tm

namespace Tm
open PySem PySem.Spec PyProof.Rows L2
/-! ### a caught error, kept beyond its suite -/
/-- at a: an error of the class cls, its dict at d -/
def Caught (cls : Value) (d : Option Addr) (a : Addr) : HO := .ext fun h => ∃ (oe : Obj) (vs : Array Value), h.get? a = some oe ∧ Zc cls d oe ∧ oe.data = .fields vs
theorem caught_ok {P : Program} {w : World} {H : Hp} {h : Heap} {a : Addr} {cls : Value} {d : Option Addr} {oe : Obj} {vs : Array Value} (e : h.get? a = some oe) (z : Zc cls d oe) (g : oe.data = .fields vs) : ObjOk P w H h a (Caught cls d a) :=
  ⟨⟨oe, vs, e, z, g⟩, ⟨oe, e⟩, fun _ _ ⟨o, v, q, r⟩ k => ⟨o, v, k o q, r⟩⟩
theorem adopt {X : Cx} {pins : List (Addr × Obj)} {σ : L2.St} {H : Hp} {s : Shared} {a : Addr} {oe : Obj} {vs : Array Value} {cls : Value} {d : Option Addr} (I : Inv X pins σ H s) (ha : s.heap.get? a = some oe) (hz : Zc cls d oe) (hd : oe.data = .fields vs) (na : H a = none)
    (n0 : X.s_0.heap.get? a = none) (nL : a ≠ X.env.locals) (np : ∀ p ∈ X.pn ++ pins, p.1 ≠ a) : Inv X pins σ (upd H a (Caught cls d a)) s := by
  have ne0 : ∀ b o, X.s_0.heap.get? b = some o → b ≠ a := fun b o e z => by
    rw [z, n0] at e
    cases e
  have neS : ∀ b u, H b = some u → b ≠ a := fun b u e z => by
    rw [z, na] at e
    cases e
  have neC : ∀ x c, X.env.cells.lookup x = some c → c ≠ a := fun x c e z => by
    obtain ⟨v, o, ho, hc⟩ := I.cell x c e
    rw [z, ha] at ho
    cases ho
    rw [hd] at hc
    cases hc
  constructor
  case ok => exact I.ok
  case os => exact I.os
  case bare => exact I.bare
  case loc => exact I.loc
  case cell => exact I.cell
  case len => exact I.len
  case free => rw [upd_ne nL.symm]; exact I.free
  case freeC => intro x c e; rw [upd_ne (neC x c e)]; exact I.freeC x c e
  case pin =>
    intro p hp
    obtain ⟨q1, q2, q3, q4, q5⟩ := I.pin p hp
    exact ⟨q1, by rw [upd_ne (np p hp)]; exact q2, q3, q4, q5⟩
  case base =>
    constructor
    case keep => exact I.base.keep
    case slot => exact I.base.slot
    case there => exact I.base.there
    case free => intro b o e n hx; rw [upd_ne (ne0 b o e)]; exact I.base.free b o e n hx
    case tups => intro b xs e; have q := I.base.tups b xs e; rw [upd_ne (neS b _ q)]; exact q
    case frzs => intro b o u e; have q := I.base.frzs b o u e; rw [upd_ne (neS b _ q)]; exact q
    case tbls =>
      intro b ps e
      obtain ⟨m, q⟩ := I.base.tbls b ps e
      exact ⟨m, by rw [upd_ne (neS b _ q)]; exact q⟩
  case hok =>
    intro b u e
    by_cases hb : b = a
    · subst hb
      rw [upd_same] at e
      cases e
      exact caught_ok ha hz hd
    · rw [upd_ne hb] at e
      refine (I.hok b u e).stay (fun c v _ q => q) (fun c q => ?_) (fun c xs q => ?_)
      · rw [upd_ne (neS c _ q)]
        exact q
      · rw [upd_ne (neS c _ q)]
        exact q
/-- what «try: .. except x as n: y = n» wishes of an error of the body; slot i is n's, slot j is y's -/
def wKeep (K : PySem.W.Frag) (c : Value) (i j : Nat) (Wout : WX) (D : Ends) : WX := fun cls d σ H =>
  ∃ b, PySem.W.exmOne K cls c = some b ∧ (b = true → ∀ a, H a = none → D.nx (((σ.set i (some (.ref a))).set j (some (.ref a))).set i none) (upd H a (Caught cls d a))) ∧ (b = false → Wout cls d σ H)
section
variable {X : Cx} {x n y : Str} {c : Value} {i j : Nat} {body : List Stmt} {np pos pos' py pn' apos : Pos} {tb : WX → TS} {Wout : WX}
theorem ps_keep (hs : X.stack = X.env :: X.outer) (hf : X.env.frame = some X.env.locals) (hN : X.N.Nodup) (hi : X.N[i]? = some n) (hln : X.env.kindOf n = some .local) (hj : X.N[j]? = some y) (hlj : X.env.kindOf y = some .local) (hex : X.ex = []) (hc : Names X x c) (tk : Takes X Wout)
    (hb : ∀ (W : WX) (pn : List (Addr × Obj)) (xe : Value → Shared → Prop), Takes (X.tr pn xe) W → PassesOwn (model X.prog X.w) X.A X.env xe → PSs (X.tr pn xe) body (tb W))
    (hsw : swapsWith (.Name n pn') (some (.Name y py)) apos.line X.env = pure false := by rfl) (hdn : (n == ("__debug__" : Str)) = false := by decide) (hcd : (n == ("__classdict__" : Str)) = false := by decide) :
    PS X (.Try body [.ExceptHandler (some (.Name x np)) (some n) [.Assign [.Name y py] (.Name n pn') apos] pos'] [] [] pos) (fun D σ H => tb (wKeep X.K c i j Wout D) D σ H) := by
  constructor
  intro pins s σ H D I h
  have okX := I.ok
  have fr : X.A.frames = some (X.env :: X.outer) := okX.frames.trans (congrArg some hs)
  apply wpAny_Try_except
  have B := hb (wKeep X.K c i j Wout D) (X.pn ++ pins) (fun e s1 => wpAny (model X.prog X.w) X.A (noteFrame e X.env) (fun _ s2 => wpAny (model X.prog X.w) X.A (setFlight e none)
    (fun _ s3 => wpAny (model X.prog X.w) X.A (handleBy e X.env [.ExceptHandler (some (.Name x np)) (some n) [.Assign [.Name y py] (.Name n pn') apos] pos']) (SP X pins D) X.xe s3) X.xe s2) X.xe s1)
  refine wpAny_mono ((B ?took PassesOwn.looking).run [] s σ H D (I.toTry _) h) ?ends (fun _ _ z => z)
  case ends =>
    intro f s1 q
    cases f with
    | next =>
      obtain ⟨σ1, H1, J1, q1⟩ := q
      exact wpAny_execs_nil ⟨σ1, H1, J1.ofTry okX, q1⟩
    | brk =>
      obtain ⟨σ1, H1, J1, q1⟩ := q
      exact ⟨σ1, H1, J1.ofTry okX, q1⟩
    | cont =>
      obtain ⟨σ1, H1, J1, q1⟩ := q
      exact ⟨σ1, H1, J1.ofTry okX, q1⟩
    | ret u =>
      obtain ⟨v1, σ1, H1, J1, r1, q1⟩ := q
      exact ⟨v1, σ1, H1, J1.ofTry okX, r1, q1⟩
  case took =>
    rintro u s1 ⟨a, G, sI, pq, σ1, H1, cls, d, rfl, J0, toG, up, sky, na, sos, sbare, b, hm, yes, no⟩
    have J : Inv X pins σ1 H1 sI := J0.ofTry okX
    rw [show X.stack = X.env :: X.outer from hs] at sky
    show wpAny (model X.prog X.w) X.A (noteFrame (.ref a) X.env) _ _ _
    apply Sky.land Zc.steady fr hf sky
    intro h3 f3 up3
    have J3 : Inv X pins σ1 H1 { s1 with heap := h3 } := J.landed toG f3.1 (up.trans up3) sos sbare
    obtain ⟨o3, w3, at3, z3, d3⟩ := f3.there
    have off : a ∉ frs (X.env :: X.outer) := fun hmem => by
      obtain ⟨_, o', e', nofld⟩ := f3.2.2.1.mem hmem
      rw [at3] at e'
      cases e'
      exact nofld _ d3
    have nL : a ≠ X.env.locals := fun z => off (List.mem_filterMap.mpr ⟨X.env, List.mem_cons_self, by rw [hf, z]⟩)
    have nF : a ∉ X.fs := fun hmem => by
      obtain ⟨ev, hev, q⟩ := List.mem_filterMap.mp hmem
      exact off (List.mem_filterMap.mpr ⟨ev, List.mem_cons_of_mem _ hev, q⟩)
    have nI : sI.heap.get? a = none := by
      cases q : sI.heap.get? a with
      | none => rfl
      | some ob =>
        have z := toG a ob q (by rw [show X.stack = X.env :: X.outer from hs]; exact off)
        rw [f3.2.1] at z
        cases z
    have n0 : X.s_0.heap.get? a = none := by
      cases q : X.s_0.heap.get? a with
      | none => rfl
      | some ob =>
        obtain ⟨o', e'⟩ := J.base.there a ob q (by rw [hex]; exact fun z => nomatch z)
        rw [nI] at e'
        cases e'
    have npin : ∀ p ∈ X.pn ++ pins, p.1 ≠ a := fun p hp z => by
      have q := (J.pin p hp).1
      rw [z, nI] at q
      cases q
    have S3 := J3.suite at3 d3 na nL nF
    refine wpAny_handleBy_cons (codeAny_handlers_test ?_) (fun q => by cases q)
    have seen : PySem.W.Looks (model X.prog X.w) h3 (typeOf (.ref a)) cls := fun A Q E s k q => wpAny_typeOf_ref (k _ _ at3) (by rw [z3.1]; exact q)
    have match_ := PySem.W.exm_one (M := model X.prog X.w) (J3.kIn) seen hm
    have cls_ : ∀ {Q E : Value → Shared → Prop}, Q c { s1 with heap := h3 } → wpAny (model X.prog X.w) (X.A.mark (some (.ref a))) (eval (.Name x np) X.env) Q E { s1 with heap := h3 } := fun {Q E} q => by
      obtain ⟨hg, hdb, h1 | ⟨h1, h2, h4⟩⟩ := hc
      · exact ld_glob (X := X.suite a ((a, o3) :: (X.pn ++ pins))) S3 hg h1 q hdb
      · exact ld_blt (X := X.suite a ((a, o3) :: (X.pn ++ pins))) S3 hg h1 h2 q h4 hdb
    apply cls_
    apply match_.here
    cases b with
    | false =>
      show wpAny _ X.A (handleBy (.ref a) X.env []) _ _ _
      apply wpAny_handleBy_nil
      have f3' := f3
      obtain ⟨_, _, _, o5, v5, T5, oT, t5, g1, g2, g3, g4, g5⟩ := f3'
      unfold PySem.passOn
      apply wpAny_bind
      apply wpAny_field g1 g3 g4
      rw [if_neg (show ¬ ((Value.ref T5 == Value.none) = true) by simp)]
      have away : wpAny (model X.prog X.w) X.A (setFlight (.ref a) X.env.frame) (fun _ s4 => wpAny (model X.prog X.w) X.A (throw (.ref a) : Sem Flow) (SP X pins D) X.xe s4) X.xe { s1 with heap := h3 } := by
        rw [hf]
        apply HandSPX.setFlight_upZ f3
        intro h4 hh4 up4
        apply wpAny_throw
        apply tk
        exact ⟨a, G, sI, pins, σ1, H1, cls, d, rfl, J, toG, (up.trans up3).trans up4, .inr (.inr (by rw [hs]; exact hh4)), na, sos, sbare, no rfl⟩
      first
        | exact wpAny_bind (wpAny_pure (wpAny_bind away))
        | exact wpAny_bind away
    | true =>
      apply codeAny_handlers_suite_as
      apply HandSPX.lands_againZ f3
      intro h4 f4 up4
      have J4 : Inv X pins σ1 H1 { s1 with heap := h4 } := J.landed toG f4.1 ((up.trans up3).trans up4) sos sbare
      obtain ⟨o4, w4, at4, z4, d4⟩ := f4.there
      have S4 := J4.suite at4 d4 na nL nF
      refine store_ok (X := X.suite a ((a, o4) :: (X.pn ++ pins))) (v := .ref a) S4 hN hi (.inl hln) rfl ?_ (.inr hln)
      intro s5 S5
      have one : PSs (X.suite a ((a, o4) :: (X.pn ++ pins))) [.Assign [.Name y py] (.Name n pn') apos] (tAsg (tVar i) (gName j)) :=
        pss_one (ps_set hN hj (.inl hlj) (pe_var hi (.inl hln) hdn hcd) hsw (.inr hlj))
      have len1 : i < (σ1.set i (some (V.ref a))).length := by
        have e1 := S5.len
        have e2 : i < X.N.length := (List.getElem?_eq_some_iff.mp hi).1
        rw [e1]
        exact e2
      have got : (σ1.set i (some (V.ref a)))[i]? = some (some (V.ref a)) := by
        rw [List.getElem?_set_self (by rw [List.length_set] at len1; exact len1)]
      refine wpAny_mono (one.run [] s5 _ H1 { nx := fun σ6 H6 => σ6 = (σ1.set i (some (.ref a))).set j (some (.ref a)) ∧ H6 = H1, rt := fun _ _ => False } S5 ⟨_, got, rfl, rfl⟩) ?_ (fun _ _ z => False.elim z)
      intro f s6 q6
      cases f with
      | next =>
        obtain ⟨σ6, H6, S6, rfl, rfl⟩ := q6
        apply gone_ok (X := X.suite a ((a, o4) :: (X.pn ++ pins))) S6 hN hi hln
        intro s7 S7
        have at7 := (S7.pin (a, o4) (List.mem_append_left _ List.mem_cons_self)).1
        exact ⟨_, _, adopt (S7.unsuite okX) at7 z4 d4 na n0 nL npin, yes rfl a na⟩
      | brk =>
        obtain ⟨_, _, _, z⟩ := q6
        exact z.elim
      | cont =>
        obtain ⟨_, _, _, z⟩ := q6
        exact z.elim
      | ret u =>
        obtain ⟨_, _, _, _, _, z⟩ := q6
        exact z.elim
end
end Tm

namespace Tm
open PySem PySem.Spec PyProof.Rows L2
/-! ### isinstance of a kept error -/
/-- what the written part must say of an error class, for isinstance -/
structure ExC (K : PySem.W.Frag) (C : Addr) : Prop where
  cl : (PySem.W.clsIn K C).isSome = true
  ga : PySem.W.findIn K (.ref C) "__getattribute__" = some (some (.builtin "BaseException.__getattribute__"))
  gt : PySem.W.findIn K (.ref C) "__getattr__" = some none
  sub : PySem.W.subIn K (.ref C) (.type "BaseException") = some true
  ca : PySem.W.findIn K (.ref C) "__class__" = some (some (.builtin "object.__class__"))
  ng : PySem.W.specialIn K (.builtin "object.__class__") "__get__" = some (some (.builtin "getset_descriptor.__get__"))
  tk : PySem.W.takesIn K (.builtin "object.__class__") = some true
  mr : PySem.W.mroIn K C (.type "object") = some true
theorem exCB_ok {K : PySem.W.Frag} {C : Addr} (h : exCB K C = true) : ExC K C := by
  unfold exCB at h
  simp only [Bool.and_eq_true, decide_eq_true_eq] at h
  obtain ⟨h1, h2, h3, h4, h5, h6, h7, h8⟩ := h
  exact ⟨h1, h2, h3, h4, h5, h6, h7, h8⟩
/-- the dict of a kept error is none, or told -/
def Dct (H : Hp) (d : Option Addr) : Prop := d = none ∨ ∃ (dd : Addr) (fs : List (Str × V)), d = some dd ∧ H dd = some (.xd fs)
def rIsiE (K : PySem.W.Frag) : List V → Hp → VK → Prop := fun xs H Q => ∃ (a : Addr) (c : V) (C : Addr) (d : Option Addr) (u : Value) (b : Bool), xs = [.ref a, c] ∧ ClsV c u ∧ H a = some (Caught (.ref C) d a) ∧ Dct H d ∧ ExC K C ∧ PySem.W.kitOne K (.ref C) u = some b ∧ Q (.bl b) H
theorem caught_at {P : Program} {w : World} {H : Hp} {h : Heap} {a : Addr} {cls : Value} {d : Option Addr} (hok : HOk P w H h) (he : H a = some (Caught cls d a)) : ∃ (oe : Obj) (vs : Array Value), h.get? a = some oe ∧ Zc cls d oe ∧ oe.data = .fields vs := by
  have x : ObjOk P w H h a (.ext fun h => ∃ (oe : Obj) (vs : Array Value), h.get? a = some oe ∧ Zc cls d oe ∧ oe.data = .fields vs) := hok a _ he
  exact x.1
theorem caught_inst {P : Program} {w : World} {H : Hp} {h : Heap} {a C : Addr} {d : Option Addr} (hok : HOk P w H h) (he : H a = some (Caught (.ref C) d a)) (hd : Dct H d) : ∃ (oe : Obj) (od : Option Obj), PySem.W.InstAt h a oe C od := by
  obtain ⟨oe, vs, ha, hz, hf⟩ := caught_at hok he
  rcases hd with rfl | ⟨dd, fs, rfl, hx⟩
  · exact ⟨oe, none, ha, hz.1, by unfold PySem.W.notCls; rw [hf] <;> rfl, by rw [hz.2]; trivial⟩
  · have hx : ObjOk P w H h dd (.xd fs) := hok dd _ hx
    obtain ⟨mA, ⟨od, es, ep, ho, hc⟩, hr⟩ := hx
    exact ⟨oe, some od, ha, hz.1, by unfold PySem.W.notCls; rw [hf] <;> rfl, by rw [hz.2]; exact ho⟩
section
variable {X : Cx}
theorem call_isiE : CallR X (.builtin "isinstance") (rIsiE X.K) := by
  intro pins s σ H xs us Q I r h
  obtain ⟨a, c, C, d, u, b, rfl, k, ha, hd, T, e, q⟩ := h
  obtain ⟨u1, u2, rfl, r1, r2⟩ := vals2 r
  have e2 := k.eq r2
  subst e2
  cases (show u1 = Value.ref a from r1)
  obtain ⟨oe, od, J⟩ := caught_inst I.hok ha hd
  exact PySem.W.kia_one (PySem.W.kitx_exc (ox := oe) (od := od) T.cl T.ga T.gt T.sub T.ca T.ng T.tk T.mr) I.kIn J e (fun z => nomatch z) fun tk => ⟨.bl b, H, I.tok tk, rfl, q⟩
/-! ### list.count, flat items -/
def rCntF (K : PySem.W.Frag) : V → List V → Hp → VK → Prop := fun x xs H Q => ∃ (p : Addr) (ys : List V) (y : V), x = .ref p ∧ xs = [y] ∧ SqL K H p ys ∧ flatV y = true ∧ ys.all flatV = true ∧ Q (.int ((ys.countP fun z => eqV z y : Nat) : Int)) H
theorem countP_eqU {x : V} : ∀ {xs : List V} {us : List Value}, Vals xs us → xs.all flatV = true → us.countP (eqU x) = xs.countP fun y => eqV y x
  | _, _, .nil, _ => rfl
  | y :: xs, u :: us, .cons r t, f => by
    rw [List.all_cons, Bool.and_eq_true] at f
    rw [List.countP_cons, List.countP_cons, eqU_of r f.1, countP_eqU t f.2]
theorem mt_countF : MtR X "list.count" (rCntF X.K) := by
  intro pins s σ H x xs v us Q I rx rxs h
  obtain ⟨p, ys, y, rfl, rfl, hs, fy, fs, q⟩ := h
  cases rx
  obtain ⟨u, rfl, ru⟩ := rxs.one
  obtain ⟨its, rv, ⟨⟨cls, dd, data, sl⟩, n, ho, hc, hdn, hd⟩, hlen⟩ := I.list hs
  simp only at hc hd
  subst hc hd
  refine call_meets PySem.F.slot_list_count ⟨_, ho, rfl⟩ PySem.F.entry_list_count (PySem.F.args_list_count_2 _ _)
    (SeqAt.list_countAt p its.toArray n dd sl u (eqU y)) ⟨ho, fun z hz => mem_eqAt ru fy rv fs z (by simpa using hz), ?_⟩
  have ec : its.toArray.toList.countP (eqU y) = ys.countP fun z => eqV z y := countP_eqU rv fs
  refine ⟨.int ((ys.countP fun z => eqV z y : Nat) : Int), H, I.tok _, ⟨s.toks, ?_⟩, q⟩
  show Value.int ((its.toArray.toList.countP (eqU y) : Nat) : Int) s.toks = Value.int _ s.toks
  rw [ec]
/-! ### a text many times -/
def repS (a : Str) (n : Nat) : Str := ⟨(List.replicate n a.cps).foldl (· ++ ·) #[]⟩
theorem foldl_size : ∀ (n : Nat) (a b : Array Nat), ((List.replicate n a).foldl (· ++ ·) b).size = b.size + a.size * n
  | 0, a, b => by simp
  | n + 1, a, b => by
    rw [List.replicate_succ, List.foldl_cons, foldl_size n a (b ++ a), Array.size_append, Nat.mul_succ]
    omega
theorem repS_len (a : Str) (n : Nat) : (repS a n).length = a.length * n := by
  show ((List.replicate n a.cps).foldl (· ++ ·) #[]).size = a.cps.size * n
  rw [foldl_size]
  simp
def rRepS : R2 := fun x y H Q => ∃ (a : Str) (k : Int), x = .str a ∧ y = .int k ∧ 0 ≤ k ∧ k ≤ 1000 ∧ a.length ≤ 1000 ∧ Q (.str (repS a k.toNat)) H
theorem op_repS : OpR X (binaryOp .Mult) rRepS := by
  intro pins s σ H x y v u Q I rx ry h
  obtain ⟨a, k, rfl, rfl, k0, k1, ha, q⟩ := h
  obtain ⟨t, rfl⟩ := rx
  obtain ⟨t', rfl⟩ := ry
  have big : (1000 : Nat) * 1000 ≤ 16777216 := by decide
  have big2 : (16777216 : Nat) ≤ sizeLine := by decide
  have hkn : k.toNat ≤ 1000 := by omega
  have hm : a.length * k.toNat ≤ 1000 * 1000 := Nat.mul_le_mul ha hkn
  refine PySem.P.mul_str ?_ ?_ ?_ ?_
  · rw [decide_eq_false (by omega), decide_eq_false (by omega)]
    rfl
  · intro h1 _ h2
    have h3 : (0 : Int) < k := by omega
    have h4 : k ≤ 1000 := k1
    have h5 : ((2 : Int) ^ 63 - 1) / 1000 ≤ (2 ^ 63 - 1) / k := by
      refine Int.le_ediv_of_mul_le h3 ?_
      have : ((2 : Int) ^ 63 - 1) / 1000 * k ≤ ((2 : Int) ^ 63 - 1) / 1000 * 1000 := Int.mul_le_mul_of_nonneg_left h4 (by decide)
      exact Int.le_trans this (by decide)
    have h6 : (1000 : Int) < ((2 : Int) ^ 63 - 1) / 1000 := by decide
    omega
  · intro _ _
    exact PyProof.Rows.short24 (by omega)
  · have e0 : k = ((k.toNat : Nat) : Int) := by omega
    by_cases h1 : k < 1
    · rw [if_pos h1]
      refine ⟨by show (0 : Nat) ≤ _; omega, .str (repS a k.toNat), H, I.tok _, ⟨s.toks, ?_⟩, q⟩
      have : k.toNat = 0 := by omega
      rw [this]
      rfl
    · rw [if_neg h1]
      by_cases h2 : (k == 1 || a.length == 0) = true
      · rw [if_pos h2]
        have e : repS a k.toNat = a := by
          rcases Bool.or_eq_true_iff.mp h2 with z | z
          · have : k.toNat = 1 := by have := eq_of_beq z; omega
            rw [this]
            show (⟨#[] ++ a.cps⟩ : Str) = a
            rw [Array.empty_append]
          · have z1 : a.cps = #[] := Array.eq_empty_of_size_eq_zero (eq_of_beq z)
            have z2 : (repS a k.toNat).cps = #[] := Array.eq_empty_of_size_eq_zero (by
              have := repS_len a k.toNat
              have z3 : a.length = 0 := eq_of_beq z
              rw [z3, Nat.zero_mul] at this
              exact this)
            obtain ⟨ac⟩ := a
            show (⟨_⟩ : Str) = _
            exact congrArg Str.mk (z2.trans z1.symm)
        refine ⟨.str (repS a k.toNat), H, I, ⟨t, ?_⟩, q⟩
        rw [e]
      · rw [if_neg h2]
        refine ⟨?_, .str (repS a k.toNat), H, I.tok _, ⟨s.toks, rfl⟩, q⟩
        have := repS_len a k.toNat
        show (repS a k.toNat).length ≤ _
        omega
/-! ### a list is in no tuple of texts -/
def rInX (K : PySem.W.Frag) : R2 := fun x y H Q => rIn K false x y H Q ∨ ∃ (l p : Addr) (xs : List V) (ys : List Str), x = .ref l ∧ y = .ref p ∧ SqL K H l xs ∧ SqT K H p (ys.map V.str) ∧ Q (.bl false) H
theorem op_inX (hu : X.A.units + 64 < cLine) : OpR X (compareOp .In) (rInX X.K) := by
  intro pins s σ H x y v u Q I rx ry h
  rcases h with h | ⟨l, p, xs, ys, rfl, rfl, hl, hp, q⟩
  · exact op_in_seq pins s σ H x y v u Q I rx ry h
  · cases rx
    cases ry
    obtain ⟨its, r, pl, hz⟩ := I.tuple hp
    obtain ⟨its2, r2, pl2, hz2⟩ := I.list hl
    refine SeqAt.in_tupleAt (fun _ => false) pl (fun w hw => ?_) ⟨.bl false, H, I, ?_, q⟩
    · have hw : w ∈ its := by simpa using hw
      have all : ∀ {zs : List Str} {ws : List Value}, Vals (zs.map V.str) ws → ∀ w ∈ ws, ∃ z t, w = .str z t := by
        intro zs
        induction zs with
        | nil => intro ws r w hw; cases r; cases hw
        | cons z zs ih =>
          intro ws r w hw
          cases r with
          | cons r t =>
            rcases List.mem_cons.mp hw with rfl | hw
            · obtain ⟨t, rfl⟩ := r
              exact ⟨z, t, rfl⟩
            · exact ih t w hw
      obtain ⟨z, t, rfl⟩ := all r w hw
      exact SeqAt.EqAt.str_list z t pl2.isList (by show X.A.units + 1 < cLine; omega)
    · show Value.bool _ = Value.bool false
      congr 1
      simp
end
/-! ### the errors of the program -/
def errWords : List Str := ["path", "text", "rights", "user", "right", "name", "room", "leaf", "hint", "taken", "deep", "busy", "move"]
structure ErrK (K : PySem.W.Frag) : Prop where
  ex : ∀ i, i < 13 → ExC K (errC K i)
  is : ∀ i j, i < 13 → j < 13 → PySem.W.kitOne K (.ref (errC K i)) (.ref (errC K j)) = some (decide (i = j))
  we : ∀ i, i < 13 → PySem.W.kitOne K (.ref (errC K i)) (.ref (He.ga K "WorldError")) = some true
  ve : ∀ i, i < 13 → PySem.W.kitOne K (.ref (errC K i)) (.type "ValueError") = some true
  xm : ∀ i, i < 13 → PySem.W.exmOne K (.ref (errC K i)) (.ref (He.ga K "WorldError")) = some true
theorem errB_ok {K : PySem.W.Frag} (h : errB K = true) : ErrK K := by
  have h1 : ∀ i, i < 13 → errB1 K i = true := fun i hi => List.all_eq_true.mp h i (List.mem_range.mpr hi)
  have h2 : ∀ i, i < 13 → _ := fun i hi => by
    have := h1 i hi
    unfold errB1 at this
    simp only [Bool.and_eq_true, decide_eq_true_eq, List.all_eq_true, List.mem_range] at this
    exact this
  exact ⟨fun i hi => exCB_ok (h2 i hi).1, fun i j hi hj => (h2 i hi).2.1 j hj, fun i hi => (h2 i hi).2.2.1, fun i hi => (h2 i hi).2.2.2.1, fun i hi => (h2 i hi).2.2.2.2⟩
/-- a class by its name -/
theorem pe_cls {X : Cx} {x : Str} {C : Addr} {pos : Pos} (hg : Gl X x) (hm : X.mg x = some (.ref C)) (hd : (x == ("__debug__" : Str)) = false := by decide) : PE X (.Name x pos) (tC (.ref C)) := pe_glob (v := .ref C) hg hm rfl hd
/-- a conditional at which the walk stops -/
def tIfC (t : TT) (ta tb : TE) : TE := fun σ H Q => tIf t ta tb σ H Q
theorem pe_ifC {X : Cx} {t a b : Expr} {tt : TT} {ta tb : TE} {pos : Pos} (ht : PT X t tt) (ha : PE X a ta) (hb : PE X b tb) : PE X (.IfExp t a b pos) (tIfC tt ta tb) := ⟨(pe_ifExp ht ha hb).run⟩
/-! ### texts, or things that are none -/
/-- a text, or a thing that is none -/
def TextOk (K : PySem.W.Frag) (H : Hp) (v : V) : Prop := (∃ s, v = .str s ∧ s.length + 2 ≤ sizeLine) ∨ Kind K H v "str" false
theorem not_text {K : PySem.W.Frag} {H : Hp} {s : Str} (h : Kind K H (.str s) "str" false) : False := by
  obtain ⟨tv, h1, h2⟩ := h
  cases h1 with
  | base h1 =>
    cases h1
    have h3 : PySem.W.kitOne K (.type "str") (.type "str") = some true := kit_ty (by decide +kernel)
    rw [h3] at h2
    cases h2
theorem textOk_lit {K : PySem.W.Frag} {H : Hp} {s : Str} (h : s.length ≤ 1000) : TextOk K H (.str s) := .inl ⟨s, rfl, Nat.le_trans (Nat.add_le_add_right h 2) (by decide)⟩
theorem TextOk.ex {K : PySem.W.Frag} {H H' : Hp} {v : V} (h : TextOk K H v) (e : Ex H H') : TextOk K H' v := by
  rcases h with h | h
  · exact .inl h
  · exact .inr (h.ex e)
/-! ### readings -/
section
variable {σ : L2.St} {H : Hp} {Q : VK} {K : PySem.W.Frag}
theorem x_ifC {t : TT} {ta tb : TE} (q : tIf t ta tb σ H Q) : tIfC t ta tb σ H Q := q
/-- a word of the value, and on -/
theorem x_gen {te : TE} (P : VK) (h : ∀ R : VK, (∀ v H', P v H' → R v H') → te σ H R) (k : ∀ v H', P v H' → Q v H') : te σ H Q := h Q k
theorem x_repS {a : Str} {k : Int} (hk : 0 ≤ k ∧ k ≤ 1000) (ha : a.length ≤ 1000) (q : Q (.str (repS a k.toNat)) H) : rRepS (.str a) (.int k) H Q := ⟨a, k, rfl, rfl, hk.1, hk.2, ha, q⟩
theorem x_rep {l : Addr} {k : Int} {xs : List V} (h : H l = some (.lst xs)) (hk : 0 ≤ k ∧ k ≤ 1000) (hx : xs.length ≤ 1000) (q : ∀ p, H p = none → Q (.ref p) (upd H p (.lst (List.replicate k.toNat xs).flatten))) : rRep (.ref l) (.int k) H Q :=
  ⟨l, k, xs, rfl, rfl, h, by omega, by omega, Nat.le_trans (Nat.mul_le_mul hx (show k.toNat ≤ 1000 by omega)) (by decide), q⟩
/-- two lists of the same texts -/
theorem x_neS {a b : Addr} {xs ys : List Str} (ha : H a = some (.lst (xs.map V.str))) (hb : H b = some (.lst (ys.map V.str))) (e : xs = ys) (o : ∀ s ∈ ys, PyData.strOk s = true) (q : Q (.bl false) H) : rNeD K (.ref a) (.ref b) H Q := by
  subst e
  refine ⟨_, _, .lst (SqL.of ha) (dp_strs _), .lst (SqL.of hb) (dp_strs _), shaped_strs o, shaped_strs o, ?_⟩
  rw [eqv_list_strs, decide_eq_true rfl]
  exact q
theorem x_eqS {a b : Addr} {xs ys : List Str} (ha : H a = some (.lst (xs.map V.str))) (hb : H b = some (.lst (ys.map V.str))) (e : xs = ys) (o : ∀ s ∈ ys, PyData.strOk s = true) (q : Q (.bl true) H) : rEqD K (.ref a) (.ref b) H Q := by
  subst e
  refine ⟨_, _, .lst (SqL.of ha) (dp_strs _), .lst (SqL.of hb) (dp_strs _), shaped_strs o, shaped_strs o, ?_⟩
  rw [eqv_list_strs, decide_eq_true rfl]
  exact q
theorem x_dnewK (q : ∀ p H1, H p = none → Ex H H1 → H1 p = some (.dK []) → Q (.ref p) H1) : tDNewK σ H Q := fun p hp => q p _ hp (Ex.new hp) upd_same
theorem x_repE {l : Addr} {k : Int} {xs : List V} (h : H l = some (.lst xs)) (hk : 0 ≤ k ∧ k ≤ 1000) (hx : xs.length ≤ 1000) (q : ∀ p H1, H p = none → Ex H H1 → H1 p = some (.lst (List.replicate k.toNat xs).flatten) → Q (.ref p) H1) : rRep (.ref l) (.int k) H Q :=
  x_rep h hk hx fun p hp => q p _ hp (Ex.new hp) upd_same
theorem x_tupE {p : Addr} {ys : List V} (h : SqL K H p ys) (q : ∀ l H1, H l = none → Ex H H1 → H1 l = some (.tup ys) → Q (.ref l) H1) : ∃ p' ys', ([V.ref p] : List V) = [.ref p'] ∧ ((SqL K H p' ys' ∧ ∀ l, H l = none → Q (.ref l) (upd H l (.tup ys'))) ∨ (SqT K H p' ys' ∧ Q (.ref p') H)) :=
  ⟨p, ys, rfl, .inl ⟨h, fun l hl => q l _ hl (Ex.new hl) upd_same⟩⟩
theorem x_slE {a : Addr} {xs : List V} {lo hi : Option Int} (h : SqL K H a xs) (q : ∀ p H1, H p = none → Ex H H1 → H1 p = some (.lst (cutV xs lo hi)) → Q (.ref p) H1) : rSlL K (.ref a) lo hi H Q := x_slL h fun p hp => q p _ hp (Ex.new hp) upd_same
theorem x_keep {D : Ends} {i j n : Nat} {Wout : WX} {d : Option Addr} (EK : ErrK K) (hn : n < 13) (q : ∀ a H1, H a = none → Ex H H1 → H1 a = some (Caught (.ref (errC K n)) d a) → D.nx (((σ.set i (some (.ref a))).set j (some (.ref a))).set i none) H1) :
    wKeep K (.ref (He.ga K "WorldError")) i j Wout D (.ref (errC K n)) d σ H := ⟨true, EK.xm n hn, fun _ a ha => q a _ ha (Ex.new ha) upd_same, fun z => nomatch z⟩
theorem x_newL {xs : List V} (q : ∀ p H1, H p = none → Ex H H1 → H1 p = some (.lst xs) → Q (.ref p) H1) (hz : xs.length ≤ 100000 := by simp) : NewL xs H Q :=
  ⟨Nat.le_trans hz (by decide), fun p hp => q p _ hp (Ex.new hp) upd_same⟩
theorem x_newT {xs : List V} (q : ∀ p H1, H p = none → Ex H H1 → H1 p = some (.tup xs) → Q (.ref p) H1) (hz : xs.length ≤ 100000 := by simp) : NewT xs H Q :=
  ⟨Nat.le_trans hz (by decide), fun p hp => q p _ hp (Ex.new hp) upd_same⟩
theorem x_cat {a b : Addr} {xs ys : List V} (ha : H a = some (.lst xs)) (hb : H b = some (.lst ys)) (hz : xs.length + ys.length ≤ 100000) (q : ∀ p H1, H p = none → Ex H H1 → H1 p = some (.lst (xs ++ ys)) → Q (.ref p) H1) : rCat (.ref a) (.ref b) H Q :=
  ⟨a, b, xs, ys, rfl, rfl, ha, hb, Nat.le_trans hz (by decide), fun p hp => q p _ hp (Ex.new hp) upd_same⟩
theorem x_isiE {a C : Addr} {c : V} {d : Option Addr} {u : Value} {b : Bool} (hc : ClsV c u) (ha : H a = some (Caught (.ref C) d a)) (hd : Dct H d) (T : ExC K C) (k : PySem.W.kitOne K (.ref C) u = some b) (q : Q (.bl b) H) : rIsiE K [.ref a, c] H Q := ⟨a, c, C, d, u, b, rfl, hc, ha, hd, T, k, q⟩
theorem x_cntF {p : Addr} {ys : List V} {y : V} (h : SqL K H p ys) (fy : flatV y = true) (fs : ys.all flatV = true) (q : Q (.int ((ys.countP fun z => eqV z y : Nat) : Int)) H) : rCntF K (.ref p) [y] H Q := ⟨p, ys, y, rfl, rfl, h, fy, fs, q⟩
theorem x_inX0 {x y : V} (q : rIn K false x y H Q) : rInX K x y H Q := .inl q
theorem x_inX {l p : Addr} {xs : List V} {ys : List Str} (h1 : SqL K H l xs) (h2 : SqT K H p (ys.map V.str)) (q : Q (.bl false) H) : rInX K (.ref l) (.ref p) H Q := .inr ⟨l, p, xs, ys, rfl, rfl, h1, h2, q⟩
end
end Tm

/-! own layer: methods, makers, errors with fields -/
namespace Tm
open PySem PySem.Spec PyProof.Rows L2
/-- a method of the class at C: its code keeps sp; dvs: the defaults that fill up -/
structure Mt (P : Program) (w : World) (K : PySem.W.Frag) (mg : Str → Option Value) (base : Heap) (k : Nat) (C : Addr) (m : Str) (ps : List Str) (dvs : List V) (sp : Sp) : Prop where
  ex : ∃ (f : Addr) (fd : FuncData) (ds : List Value), Cls K C ∧ Meth K C m f ∧ FnOk P w K mg base (L2.CX P w) k f fd ps sp ∧ Binds K fd ps ds ∧ Vals dvs ds
/-- with keywords ks behind n positional ones (self among them) -/
structure MtK (P : Program) (w : World) (K : PySem.W.Frag) (mg : Str → Option Value) (base : Heap) (k : Nat) (C : Addr) (m : Str) (ps : List Str) (n : Nat) (ks : List Str) (sp : Sp) : Prop where
  ex : ∃ (f : Addr) (fd : FuncData), Cls K C ∧ Meth K C m f ∧ FnOk P w K mg base (L2.CX P w) k f fd ps sp ∧ KBn K fd ps n ks (fun us ws => us ++ ws) (fun vs zs => vs ++ zs)
/-- a class by its name, with its maker -/
structure Mks (P : Program) (w : World) (K : PySem.W.Frag) (mg : Str → Option Value) (base : Heap) (k : Nat) (x : Str) (C : Addr) (ps : List Str) (sp : Sp) : Prop where
  ex : ∃ (f : Addr) (fd : FuncData), mg x = some (.ref C) ∧ Mk K C f ∧ FnOk P w K mg base (L2.CX P w) k f fd ps sp ∧ Binds K fd ps []
/-- an instance of C without a field m -/
def Ob (C : Addr) (m : Str) (x : V) (H : Hp) : Prop := ∃ a dx fs, x = .ref a ∧ H a = some (.ins C dx fs) ∧ fs.lookup m = none
def tMt (C : Addr) (m : Str) (sp : Sp) (dvs : List V) (E : L2.St → XK) (ta : TE) (t : TA) : TE := fun σ H Q => ta σ H fun x H1 => Ob C m x H1 ∧ t σ H1 fun vs H2 => sp (x :: (vs ++ dvs)) H2 Q (E σ)
def tMtK (C : Addr) (m : Str) (n j : Nat) (sp : Sp) (E : L2.St → XK) (ta : TE) (t tk : TA) : TE := fun σ H Q => ta σ H fun x H1 => Ob C m x H1 ∧ t σ H1 fun vs H2 => tk σ H2 fun zs H3 => (x :: vs).length = n ∧ zs.length = j ∧ sp ((x :: vs) ++ zs) H3 Q (E σ)
def tMk (C : Addr) (sp : Sp) (E : L2.St → XK) (t : TA) : TE := fun σ H Q => t σ H fun vs H1 => ∀ x dx, H1 x = none → H1 dx = none → dx ≠ x →
  sp (.ref x :: vs) (upd (upd H1 dx (.own x)) x (.ins C dx [])) (fun v H2 => v = .non ∧ Q (.ref x) H2) (E σ)
section
variable {X : Cx} {k n : Nat} {C : Addr} {ps ks : List Str} {sp : Sp} {dvs : List V} {E : L2.St → XK} {x m : Str} {p pos apos : Pos} {o e : Expr} {es : List Expr} {kws : List Keyword} {ta : TE} {t tk : TA}
theorem pe_mtS {pl : Sem Bool} (c : Mt X.prog X.w X.K X.mg X.base k C m ps dvs sp) (he : PE X o ta) (hr : Room k X.A) (hx : ∀ σ, PassesAt (L2.CX X.prog X.w) X σ (E σ)) (ha : PA X (e :: es) t)
    (hst : starEach (e :: es) X.env = (false, eval e X.env) :: starEach es X.env := by rfl) (hpl : (backTo pos (starEach es X.env)).any (·.1) = false := by rfl)
    (ht : eval (.Call (.Attribute o m apos) (e :: es) [] pos) X.env = (do
      let ov ← eval o X.env
      standAt apos.atName
      let (f, first) ← holding [ov] (getMethod ov m pl)
      callWith pos f first (backTo pos (starEach (e :: es) X.env)) (backToKw pos (keywordEach [] X.env))) := by rfl) :
    PE X (.Call (.Attribute o m apos) (e :: es) [] pos) (tMt C m sp dvs E ta t) := by
  obtain ⟨f, fd, ds, cl, hm, F, hb, hd⟩ := c.ex
  refine ⟨fun pins s σ H Q I h => ?_⟩
  refine PySem.W.methodCall_KW (pl := pl) (thn (he.run pins s σ H _ I h) fun u s1 ⟨x, H1, I1, rx, ⟨a, dx, fs, ex, ea, l⟩, q⟩ => ?_) ht
  subst ex
  obtain rfl : u = Value.ref a := rx
  refine getmeth_ok I1 ea cl hm l ?_
  refine PySem.W.callWith_K (first := [.ref a]) (h₀ := X.base) I.ok.mod.kin hm.kp (thn (ha.run pos pins s1 σ H1 _ I1 q) fun us s2 ⟨vs, H2, I2, r, q2⟩ => ⟨I2.kIn, ?_⟩) hst hpl
  exact run_fnSD (us := .ref a :: us) (vs := .ref a :: vs) F hr hb hd (hx σ) I2 (.cons rfl r) q2
theorem run_kwS {pins : List (Addr × Obj)} {σ : L2.St} {H : Hp} {s : Shared} {Q : VK} {f : Addr} {fd : FuncData} {us ws : List Value} {vs zs : List V} {g : List Value → List Value → List Value} {gV : List V → List V → List V} (F : FnOk X.prog X.w X.K X.mg X.base (L2.CX X.prog X.w) k f fd ps sp) (hr : Room k X.A) (hb : KBn X.K fd ps n ks g gV) (hx : PassesAt (L2.CX X.prog X.w) X σ (E σ))
    (I : Inv X pins σ H s) (r : Vals vs us) (rz : Vals zs ws) (l1 : vs.length = n) (l2 : zs.length = ks.length) (h : sp (gV vs zs) H Q (E σ)) : wpAny (model X.prog X.w) X.A (call (.ref f) us (ks.zip ws)) (EP X pins σ Q) X.xe s := by
  have r2 := hb.rel r rz
  refine wpAny_call (codeAny_mono (F.run X.A X.stack s H ⟨us, ks.zip ws⟩ (g us ws) (gV vs zs) Q (E σ) hr I.env0 (hb.to s us ws I.kIn (r.length.symm.trans l1) (rz.length.symm.trans l2)) r2 h) fun r s' hq => ?_)
  cases r with
  | error e => exact hx pins H s e s' I hq
  | ok fl =>
    cases fl with
    | ret u => exact I.after hq
    | next => exact False.elim hq
    | brk => exact False.elim hq
    | cont => exact False.elim hq
theorem pe_mtKS {pl : Sem Bool} (c : MtK X.prog X.w X.K X.mg X.base k C m ps n ks sp) (he : PE X o ta) (hr : Room k X.A) (hx : ∀ σ, PassesAt (L2.CX X.prog X.w) X σ (E σ)) (ha : PA X (e :: es) t) (hkw : PK X kws tk)
    (hall : (backToKw pos (keywordEach kws X.env)).all (·.1.isSome) = true := by rfl) (hks : (backToKw pos (keywordEach kws X.env)).filterMap (·.1) = ks := by rfl)
    (hst : starEach (e :: es) X.env = (false, eval e X.env) :: starEach es X.env := by rfl)
    (hpl : ((backTo pos (starEach (e :: es) X.env)).any (·.1) || (backToKw pos (keywordEach kws X.env)).any (·.1.isNone)) = false := by rfl)
    (ht : eval (.Call (.Attribute o m apos) (e :: es) kws pos) X.env = (do
      let ov ← eval o X.env
      standAt apos.atName
      let (f, first) ← holding [ov] (getMethod ov m pl)
      callWith pos f first (backTo pos (starEach (e :: es) X.env)) (backToKw pos (keywordEach kws X.env))) := by rfl) :
    PE X (.Call (.Attribute o m apos) (e :: es) kws pos) (tMtK C m n ks.length sp E ta t tk) := by
  obtain ⟨f, fd, cl, hm, F, hb⟩ := c.ex
  refine ⟨fun pins s σ H Q I h => ?_⟩
  refine PySem.W.methodCall_KW (pl := pl) (thn (he.run pins s σ H _ I h) fun u s1 ⟨x, H1, I1, rx, ⟨a, dx, fs, ex, ea, l⟩, q⟩ => ?_) ht
  subst ex
  obtain rfl : u = Value.ref a := rx
  refine getmeth_ok I1 ea cl hm l ?_
  refine PySem.W.callWith_KW (first := [.ref a]) (h₀ := X.base) I.ok.mod.kin hm.kp hall (thn (ha.run pos pins s1 σ H1 _ I1 q) fun us s2 ⟨vs, H2, I2, r, q2⟩ => ?_) hpl hst
  refine thn (hkw.run pos pins s2 σ H2 _ I2 q2) fun ws s3 ⟨zs, H3, I3, rz, l1, l2, q3⟩ => ⟨I3.kIn, ?_⟩
  rw [hks]
  exact run_kwS (us := .ref a :: us) (vs := .ref a :: vs) F hr hb (hx σ) I3 (.cons rfl r) rz l1 l2 q3
theorem pe_mkS (c : Mks X.prog X.w X.K X.mg X.base k x C ps sp) (hr : Room (k + 1) X.A) (hg : Gl X x) (hx : ∀ σ, PassesAt (L2.CX X.prog X.w) X σ (E σ)) (ha : PA X (e :: es) t)
    (hdb : (x == ("__debug__" : Str)) = false := by decide) (he : starEach (e :: es) X.env = (false, eval e X.env) :: starEach es X.env := by rfl) (hpl : (backTo pos (starEach es X.env)).any (·.1) = false := by rfl) :
    PE X (.Call (.Name x p) (e :: es) [] pos) (tMk C sp E t) := by
  obtain ⟨f, fd, hm, M, F, hb⟩ := c.ex
  refine ⟨fun pins s σ H Q I h => ?_⟩
  refine wpAny_Call_Name_kw (ld_glob I hg hm ?_ hdb)
  refine PySem.W.callWith_K (h₀ := X.base) I.ok.mod.kin M.kp (thn (ha.run pos pins s σ H _ I h) fun us s ⟨vs, H, I, r, h⟩ => ⟨I.kIn, ?_⟩) he hpl
  have hq := h (s.heap.objs.size + 1) s.heap.objs.size (I.hok.fresh (Nat.le_succ _)) (I.hok.fresh (Nat.le_refl _)) (Nat.ne_of_lt (Nat.lt_succ_self _))
  have I2 := Inv.made (C := C) I
  have r2 : Vals (V.ref (s.heap.objs.size + 1) :: vs) (Value.ref (s.heap.objs.size + 1) :: us) := .cons rfl r
  have hl : (Value.ref (s.heap.objs.size + 1) :: us ++ []).length = ps.length := by
    have e := r2.length
    rw [F.len _ _ _ _ hq] at e
    rw [List.append_nil]
    exact e.symm
  have b := hb _ (Value.ref (s.heap.objs.size + 1) :: us) I2.kIn hl
  rw [List.append_nil] at b
  refine wpAny_call (make_map (f := f) I.kIn M.makes M.init (beq_iff_eq.mp M.fn) (codeAny_mono (F.run _ X.stack _ _ ⟨Value.ref (s.heap.objs.size + 1) :: us, []⟩ (Value.ref (s.heap.objs.size + 1) :: us) _ _ (E σ) (hr.make C us [])
    (I2.env0.make C us []) b r2 hq) fun r s' hq' => ?_))
  cases r with
  | error e => exact hx σ pins _ _ e s' I2 hq'
  | ok fl =>
    cases fl with
    | ret u =>
      obtain ⟨v, H', I3, rv, ev, q3⟩ := I2.after hq'
      subst ev
      exact ⟨rv, ⟨V.ref (s.heap.objs.size + 1), H', I3, rfl, q3⟩⟩
    | next => exact False.elim hq'
    | brk => exact False.elim hq'
    | cont => exact False.elim hq'
end
/-! ### errors with fields of their own -/
/-- __init__ of an error class: the fields in turn -/
def spIni (C : Addr) (fs : List Str) : Sp := fun vs H Q _ => ∃ (a : Addr) (ys : List V), vs = .ref a :: ys ∧ ys.length = fs.length ∧ H a = some (exo a C none) ∧
  ∀ (d : Addr) (H' : Hp), H d = none → d ≠ a → H' a = some (exo a C (some d)) → H' d = some (exd d (fs.zip ys).reverse) → (∀ b, b ≠ a → b ≠ d → H' b = H b) → Q .non H'
structure Ri (P : Program) (w : World) (K : PySem.W.Frag) (mg : Str → Option Value) (base : Heap) (x : Str) (C : Addr) (fs : List Str) : Prop where
  ex : ∃ (fI : Addr) (fd : FuncData), mg x = some (.ref C) ∧ OexC K C ∧ PySem.W.findIn K (.ref C) "__init__" = some (some (.ref fI)) ∧ PySem.W.typeIn K (.ref fI) = some (.type "function") ∧ FnOk P w K mg base (L2.CX P w) 1 fI fd ("self" :: fs) (spIni C fs) ∧ Binds K fd ("self" :: fs) []
/-- raise C(e, ..): what is asked behind the arguments -/
def MkO (C : Addr) (fs : List Str) (vs : List V) (H1 : Hp) (Q : XK) : Prop := vs.length ≤ 1000 ∧ ∀ a, H1 a = none → spIni C fs (.ref a :: (vs ++ [])) (upd H1 a (exo a C none))
  (fun v H2 => v = .non ∧ ∃ (d : Addr) (fs : List (Str × V)), H2 a = some (exo a C (some d)) ∧ H2 d = some (exd d fs) ∧ H1 d = none ∧ Q (.ref C) (some d) (upd (del H2 a) d (.xd fs))) (fun _ _ _ => False)
def tMkI (C : Addr) (fs : List Str) (ta : TA) : L2.St → Hp → XK → Prop := fun σ H Q => ta σ H fun vs H1 => MkO C fs vs H1 Q
section
variable {X : Cx} {C : Addr} {x : Str} {fs : List Str} {e : Expr} {es : List Expr} {ta : TA} {p pos : Pos} {k : Nat}
theorem passF : Passes (L2.CX X.prog X.w) X (fun _ _ _ => False) := fun _ _ _ _ _ _ _ h => by
  obtain ⟨_, _, _, _, _, _, _, _, _, _, _, _, z⟩ := h
  exact z.elim
theorem pmk_ini (R : Ri X.prog X.w X.K X.mg X.base x C fs) (hr : Room 2 X.A) (hg : Gl X x) (ha : PA X (e :: es) ta)
    (hdb : (x == ("__debug__" : Str)) = false := by decide) (he : starEach (e :: es) X.env = (false, eval e X.env) :: starEach es X.env := by rfl) (hpl : (backTo pos (starEach es X.env)).any (·.1) = false := by rfl) :
    PMk X (.Call (.Name x p) (e :: es) [] pos) (tMkI C fs ta) := by
  obtain ⟨fI, fd, hm, T, iC, tI, F, hb⟩ := R.ex
  exact pmk_oex (x := x) (p := p) (pos := pos) T iC tI F hr hb (dvs := []) (ds := []) .nil passF hg hm ha hdb he hpl
variable {σ : L2.St} {H : Hp} {Q : XK}
theorem x_mkI (q : ta σ H fun vs H1 => MkO C fs vs H1 Q) : tMkI C fs ta σ H Q := q
theorem x_mkO {vs : List V} (hl : vs.length = fs.length) (hz : vs.length ≤ 1000) (q : ∀ d H', H d = none → Ex H H' → H' d = some (.xd (fs.zip vs).reverse) → Q (.ref C) (some d) H') : MkO C fs vs H Q := by
  refine ⟨hz, fun a ha => ⟨a, vs, by rw [List.append_nil], hl, upd_same, fun d H' hd hda h1 h2 h3 => ⟨rfl, d, _, h1, h2, ?_, ?_⟩⟩⟩
  · rw [upd_ne hda] at hd
    exact hd
  · rw [upd_ne hda] at hd
    refine q d _ hd (fun b o hb => ?_) upd_same
    have hbd : b ≠ d := fun z => by rw [z, hd] at hb; cases hb
    have hba : b ≠ a := fun z => by rw [z, ha] at hb; cases hb
    rw [upd_ne hbd, del_ne hba, h3 b hba hbd, upd_ne hba]
    exact hb
end
/-! ### readings -/
/-- self.f = y -/
def FSetK (K : PySem.W.Frag) (x : V) (f : Str) (y : V) (H : Hp) (R : Hp → Prop) : Prop := ∃ a C dx fs, x = .ref a ∧ H a = some (.ins C dx fs) ∧ Cls K C ∧ NoAttr K C f ∧ fs.length < 1000 ∧ R (upd H a (.ins C dx (putF f y fs)))
def DGetK (x y : V) (H : Hp) (Q : VK) : Prop := ∃ a v, x = .ref a ∧ DGet H a y (some v) ∧ Q v H
def DInK (neg : Bool) (x y : V) (H : Hp) (Q : VK) : Prop := ∃ a o, x = .ref a ∧ DGet H a y o ∧ Q (.bl (if neg = true then !o.isSome else o.isSome)) H
def DPutK (x y v : V) (H : Hp) (R : Hp → Prop) : Prop := ∃ a H4, x = .ref a ∧ DPut H a y v H4 ∧ R H4
/-- a dict that was written out -/
def DispK (p : Addr) (ps : List (V × V)) (H2 : Hp) (Q : VK) : Prop := H2 p = some (.dK []) ∧ ∃ kvs : List (Key × V), ps = kvs.map (fun kv => (kV kv.1, kv.2)) ∧ kvs.length ≤ 15 ∧ Q (.ref p) (upd H2 p (.dK (mergeK [] kvs)))
/-- behind the test of a while -/
def WhK (W : Nat → L2.St → Hp → Prop) (m : Nat) (tb : TS) (D : Ends) (σ : L2.St) (b : Bool) (H1 : Hp) : Prop := if b = true then ∃ N : L2.St → Hp → Prop, (∀ σ' H', N σ' H' → ∃ m', m' < m ∧ W m' σ' H') ∧ tb { D with nx := N, ct := N, bk := D.nx } σ H1 else D.nx σ H1
/-- a new instance of C, then its maker -/
def MkK (C : Addr) (sp : Sp) (E : XK) (vs : List V) (H : Hp) (Q : VK) : Prop := ∀ x dx, H x = none → H dx = none → dx ≠ x → sp (.ref x :: vs) (upd (upd H dx (.own x)) x (.ins C dx [])) (fun v H2 => v = .non ∧ Q (.ref x) H2) E
section
variable {σ : L2.St} {H : Hp} {Q : VK} {K : PySem.W.Frag} {ta tb tv td ty : TE} {t tk : TA} {C : Addr} {m f : Str} {sp : Sp} {dvs : List V} {E : L2.St → XK} {n j : Nat} {D : Ends}
theorem x_lcT {g : TG} {tt : TT} {te tel : TE} {vs : List Nat} (q : te σ H fun x H1 => ∃ a, x = .ref a ∧ (∃ xs, SqT K H1 a xs) ∧ LcK (Itt K a) g tt tel vs σ Q H1) : tLc (iTup K te) g tt tel vs σ H Q := q
theorem x_lcTV {j : Nat} {tt : TT} {tel : TE} {vs : List Nat} {a : Addr} {xs : List V} (h : SqT K H a xs) (hk : ∀ H', Ex H H' → SqT K H' a xs) (c : Cmp xs j tt tel vs σ H Q) : ∃ b, V.ref a = .ref b ∧ (∃ xs, SqT K H b xs) ∧ LcK (Itt K b) (gName j) tt tel vs σ Q H :=
  ⟨a, rfl, ⟨xs, h⟩, lc_cmp (G := fun H => SqT K H a xs) walk_tup (fun H' e => hk H' e) c⟩
theorem x_disp {trs : List (TE × TE)} (q : ∀ p H1, H p = none → Ex H H1 → H1 p = some (.dK []) → tPairs trs σ H1 fun ps H2 => DispK p ps H2 Q) : tDisp trs σ H Q := fun p hp => q p _ hp (Ex.new hp) upd_same
theorem x_pair {tk tv : TE} {r : List (TE × TE)} {R : List (V × V) → Hp → Prop} (q : tk σ H fun x H1 => tv σ H1 fun y H2 => tPairs r σ H2 fun ps H3 => R ((x, y) :: ps) H3) : tPairs ((tk, tv) :: r) σ H R := q
theorem x_pair0 {R : List (V × V) → Hp → Prop} (q : R [] H) : tPairs [] σ H R := q
theorem x_dispV {p : Addr} {ps : List (V × V)} (kvs : List (Key × V)) (h : H p = some (.dK [])) (e : ps = kvs.map (fun kv => (kV kv.1, kv.2))) (l : kvs.length ≤ 15) (q : ∀ H', H' p = some (.dK (mergeK [] kvs)) → (∀ b, b ≠ p → H' b = H b) → Q (.ref p) H') : DispK p ps H Q := ⟨h, kvs, e, l, q _ upd_same fun b hb => upd_ne hb⟩
theorem x_gtup {a : Addr} {xs : List V} {n : Nat} {ts : TGs} {R : L2.St → Hp → Prop} (h : H a = some (.tup xs)) (q : ts xs σ H R) (hn : xs.length = n := by rfl) : gTup K n ts (.ref a) σ H R := ⟨a, xs, rfl, SqT.of h, hn, q⟩
theorem x_gcons {g : TG} {ts : TGs} {x : V} {xs : List V} {R : L2.St → Hp → Prop} (q : g x σ H fun σ1 H1 => ts xs σ1 H1 R) : gCons g ts (x :: xs) σ H R := ⟨x, xs, rfl, q⟩
theorem x_gnil {R : L2.St → Hp → Prop} (q : R σ H) : gNil [] σ H R := ⟨rfl, q⟩
theorem x_mt (q : ta σ H fun x H1 => Ob C m x H1 ∧ t σ H1 fun vs H2 => sp (x :: (vs ++ dvs)) H2 Q (E σ)) : tMt C m sp dvs E ta t σ H Q := q
theorem x_mtK (q : ta σ H fun x H1 => Ob C m x H1 ∧ t σ H1 fun vs H2 => tk σ H2 fun zs H3 => (x :: vs).length = n ∧ zs.length = j ∧ sp ((x :: vs) ++ zs) H3 Q (E σ)) : tMtK C m n j sp E ta t tk σ H Q := q
theorem x_mk (q : t σ H fun vs H1 => MkK C sp (E σ) vs H1 Q) : tMk C sp E t σ H Q := q
theorem x_ob {a dx : Addr} {fs : List (Str × V)} {P : Prop} (h : H a = some (.ins C dx fs)) (l : fs.lookup m = none) (q : P) : Ob C m (.ref a) H ∧ P := ⟨⟨a, dx, fs, rfl, h, l⟩, q⟩
theorem x_fset (q : tv σ H fun y H1 => ta σ H1 fun x H2 => FSetK K x f y H2 fun H3 => D.nx σ H3) : sFld K ta tv f D σ H := q
theorem x_dget (q : td σ H fun x H1 => ty σ H1 fun y H2 => DGetK x y H2 Q) : tDGet td ty σ H Q := q
theorem x_din (q : ty σ H fun y H1 => td σ H1 fun x H2 => DInK false x y H2 Q) : tDIn ty td σ H Q := q
theorem x_dnin (q : ty σ H fun y H1 => td σ H1 fun x H2 => DInK true x y H2 Q) : tDNotIn ty td σ H Q := q
theorem x_dput (q : tv σ H fun v H1 => td σ H1 fun x H2 => ty σ H2 fun y H3 => DPutK x y v H3 fun H4 => D.nx σ H4) : sDPut td ty tv D σ H := q
theorem x_fsetV {R : Hp → Prop} {a C dx : Addr} {fs : List (Str × V)} {y : V} (h : H a = some (.ins C dx fs)) (c : Cls K C) (n : NoAttr K C f) (l : fs.length < 1000) (q : R (upd H a (.ins C dx (putF f y fs)))) : FSetK K (.ref a) f y H R := ⟨a, C, dx, fs, rfl, h, c, n, l, q⟩
/-- a value of a dict, the key a text or an int -/
theorem x_dgetS {a : Addr} {kvs : List (Key × V)} {k : Str} {v : V} (h : H a = some (.dK kvs)) (l : valV kvs (.inr k) = some v) (q : Q v H) : DGetK (.ref a) (.str k) H Q := ⟨a, v, rfl, .inl ⟨kvs, .inr k, .inl h, rfl, l.symm⟩, q⟩
theorem x_dgetI {a : Addr} {kvs : List (Key × V)} {k : Int} {v : V} (h : H a = some (.dK kvs)) (l : valV kvs (.inl k) = some v) (q : Q v H) : DGetK (.ref a) (.int k) H Q := ⟨a, v, rfl, .inl ⟨kvs, .inl k, .inl h, rfl, l.symm⟩, q⟩
theorem x_dinS {a : Addr} {neg : Bool} {kvs : List (Key × V)} {k : Str} (h : H a = some (.dK kvs)) (q : Q (.bl (if neg = true then !(valV kvs (.inr k)).isSome else (valV kvs (.inr k)).isSome)) H) : DInK neg (.ref a) (.str k) H Q := ⟨a, _, rfl, .inl ⟨kvs, .inr k, .inl h, rfl, rfl⟩, q⟩
theorem x_dinI {a : Addr} {neg : Bool} {kvs : List (Key × V)} {k : Int} (h : H a = some (.dK kvs)) (q : Q (.bl (if neg = true then !(valV kvs (.inl k)).isSome else (valV kvs (.inl k)).isSome)) H) : DInK neg (.ref a) (.int k) H Q := ⟨a, _, rfl, .inl ⟨kvs, .inl k, .inl h, rfl, rfl⟩, q⟩
theorem x_dputS {R : Hp → Prop} {a : Addr} {kvs : List (Key × V)} {k : Str} {v : V} (h : H a = some (.dK kvs)) (l : kvs.length < 100000) (q : R (upd H a (.dK (putK kvs (.inr k) v)))) : DPutK (.ref a) (.str k) v H R := ⟨a, _, rfl, .inl ⟨kvs, .inr k, h, rfl, Nat.lt_of_lt_of_le l (by decide), rfl⟩, q⟩
theorem x_dputI {R : Hp → Prop} {a : Addr} {kvs : List (Key × V)} {k : Int} {v : V} (h : H a = some (.dK kvs)) (l : kvs.length < 100000) (q : R (upd H a (.dK (putK kvs (.inl k) v)))) : DPutK (.ref a) (.int k) v H R := ⟨a, _, rfl, .inl ⟨kvs, .inl k, h, rfl, Nat.lt_of_lt_of_le l (by decide), rfl⟩, q⟩
theorem x_mkV {vs : List V} {E : XK} (q : ∀ x dx, H x = none → H dx = none → dx ≠ x → sp (.ref x :: vs) (upd (upd H dx (.own x)) x (.ins C dx [])) (fun v H2 => v = .non ∧ Q (.ref x) H2) E) : MkK C sp E vs H Q := q
/-- while: a word and a measure -/
theorem x_while {c : TT} {tb : TS} (W : Nat → L2.St → Hp → Prop) (m : Nat) (h0 : W m σ H) (hs : ∀ m σ H, W m σ H → c σ H fun b H1 => WhK W m tb D σ b H1) : tWhile c tb D σ H := ⟨W, ⟨m, h0⟩, hs⟩
theorem x_wh {tb : TS} {W : Nat → L2.St → Hp → Prop} {m : Nat} {b : Bool} (h1 : b = true → tb { D with nx := fun σ' H' => ∃ m', m' < m ∧ W m' σ' H', ct := fun σ' H' => ∃ m', m' < m ∧ W m' σ' H', bk := D.nx } σ H) (h2 : b = false → D.nx σ H) : WhK W m tb D σ b H := by
  unfold WhK
  cases b with
  | true => exact ⟨_, fun _ _ h => h, h1 rfl⟩
  | false => exact h2 rfl
end
section
variable {σ : L2.St} {H : Hp} {ta : TA} {D : Ends} {i j : Nat} {v w : V}
theorem x_par (q : ta σ H fun vs H1 => ∃ v w, vs = [v, w] ∧ D.nx ((σ.set i (some v)).set j (some w)) H1) : tPar i j ta D σ H := q
theorem x_parV {P : V → V → Prop} (q : P v w) : ∃ a b, ([v, w] : List V) = [a, b] ∧ P a b := ⟨v, w, rfl, q⟩
end
end Tm

/-! the world in plain Lean, and how it lies in the heap -/
namespace Tm
open PySem PySem.Spec PyProof.Rows L2
structure Nd where
  kind : Str
  owner : Int
  group : Int
  r0 : Int
  r1 : Int
  r2 : Int
  names : List (Str × Nat)
  text : Str
  count : Int
structure Wd where
  groups : List Int
  nodes : List Nd
  over : List (Nat × Nat)
structure Std where
  number : Nat
  name : Str
  under : Option Nat
def nd0 : Nd := ⟨"", 0, 0, 0, 0, 0, [], "", 0⟩
def Wd.at (W : Wd) (i : Nat) : Nd := W.nodes.getD i nd0
/-- the first value of a key -/
def look {α β : Type} [DecidableEq α] (k : α) : List (α × β) → Option β
  | [] => none
  | (a, b) :: r => if a = k then some b else look k r
inductive Err where
  | no (i : Nat)
  | right (u n : Int)
  | name (s : Str)
def mine (W : Wd) (u : Int) (n : Nat) : Int := let d := W.at n; if d.owner = u then d.r0 else if d.group = W.groups.getD u.toNat 0 then d.r1 else d.r2
def mayOf (W : Wd) (u : Int) (n : Nat) (right : Int) : Bool := decide (u = 0) || decide (Builtin.bitAnd (mine W u n) right = right)
/-- what hangs over n, and the last one beneath it -/
def overGo (ov : List (Nat × Nat)) : Nat → Nat → Option Nat → Nat × Option Nat
  | 0, n, u => (n, u)
  | m + 1, n, u => match look n ov with
    | none => (n, u)
    | some k => overGo ov m k (some n)
def standOf (W : Wd) (n : Nat) (name : Str) : Std := let r := overGo W.over W.over.length n none; ⟨r.1, name, r.2⟩
inductive WayR where
  | stuck
  | err (e : Err)
  | ok (ss : List Std) (num : Option Nat)
def std0 : Std := ⟨0, "", none⟩
def last (ss : List Std) : Std := ss.getLastD std0
def wayGo (W : Wd) (u : Int) (follow : Bool) : Nat → List Std → List Str → Nat → WayR
  | 0, _, _, _ => .stuck
  | _ + 1, ss, [], _ => .ok ss none
  | m + 1, ss, part :: rest, hints =>
    if mayOf W u (last ss).number 1 = false then .err (.right u (last ss).number)
    else if part = ".." then wayGo W u follow m (ss.take (max 1 (ss.length - 1))) rest hints
    else if part = "." then wayGo W u follow m ss rest hints
    else match look part (W.at (last ss).number).names with
      | none => .err (.name part)
      | some k =>
        if (W.at k).kind = "hint" ∧ (rest ≠ [] ∨ follow = true) then
          if 8 < hints + 1 then .err (.no 10)
          else wayGo W u follow m (if Txt.slice (W.at k).text none (some 1) = sl then ss.take 1 else ss) ((partsOf false (W.at k).text).getD [] ++ rest) (hints + 1)
        else if (W.at k).kind = "room" then wayGo W u follow m (ss ++ [standOf W k part]) rest hints
        else if rest ≠ [] then .err (.no 6)
        else .ok ss (some k)
def wayOf (W : Wd) (u : Int) (follow : Bool) (ps : List Str) : WayR := wayGo W u follow 200 [std0] ps 0
/-- what always holds -/
structure Nd.Ok (W : Wd) (d : Nd) : Prop where
  nam : ∀ p ∈ d.names, isName p.1 = true ∧ p.2 < W.nodes.length
  dup : (d.names.map (·.1)).Nodup
  hnt : d.kind = "hint" → ∃ ps, partsOf false d.text = some ps
  txt : d.text.length ≤ 200
  rts : (0 ≤ d.r0 ∧ d.r0 ≤ 7) ∧ (0 ≤ d.r1 ∧ d.r1 ≤ 7) ∧ (0 ≤ d.r2 ∧ d.r2 ≤ 7)
  knd : d.kind = "room" ∨ d.kind = "leaf" ∨ d.kind = "hint"
  lf : d.kind ≠ "room" → d.names = []
structure Wd.Ok (W : Wd) : Prop where
  grp : 1 ≤ W.groups.length ∧ W.groups.length ≤ 8
  one : 0 < W.nodes.length
  top : (W.at 0).kind = "room"
  nod : ∀ d ∈ W.nodes, d.Ok W
  ovr : ∀ p ∈ W.over, p.1 < W.nodes.length ∧ p.2 < W.nodes.length ∧ (W.at p.1).kind = "room" ∧ (W.at p.2).kind = "room"
  odup : (W.over.map (·.1)).Nodup
  end_ : ∀ n, look (overGo W.over W.over.length n none).1 W.over = none
/-! ### in the heap -/
def nV (o : Option Nat) : V := match o with
  | none => .non
  | some n => .int n
def cHouse (K : PySem.W.Frag) : Addr := He.ga K "House"
def cNode (K : PySem.W.Frag) : Addr := He.ga K "Node"
def cStand (K : PySem.W.Frag) : Addr := He.ga K "Stand"
def nodeF (d : Nd) (nm rt : Addr) : List (Str × V) := [("kind", .str d.kind), ("owner", .int d.owner), ("group", .int d.group), ("rights", .ref rt), ("names", .ref nm), ("text", .str d.text), ("count", .int d.count)]
def namesV (l : List (Str × Nat)) : List (Key × V) := l.map fun p => (.inr p.1, .int p.2)
def rtsV (d : Nd) : List V := [.int d.r0, .int d.r1, .int d.r2]
structure NodeAt (K : PySem.W.Frag) (H : Hp) (a nm : Addr) (d : Nd) : Prop where
  ex : ∃ dx rt, H a = some (.ins (cNode K) dx (nodeF d nm rt)) ∧ H rt = some (.tup (rtsV d))
  nam : H nm = some (.dK (namesV d.names))
structure Lay where
  g : Addr
  nd : Addr
  ov : Addr
  as : List Addr
  ns : List Addr
def houseF (L : Lay) (W : Wd) : List (Str × V) := [("groups", .ref L.g), ("nodes", .ref L.nd), ("made", .int W.nodes.length), ("over", .ref L.ov)]
def nodesV : Nat → List Addr → List (Key × V)
  | _, [] => []
  | i, a :: r => (.inl i, .ref a) :: nodesV (i + 1) r
def overV (l : List (Nat × Nat)) : List (Key × V) := l.map fun p => (.inl (p.1 : Int), .int p.2)
structure HouseAt (K : PySem.W.Frag) (H : Hp) (h : Addr) (L : Lay) (W : Wd) : Prop where
  obj : ∃ dx, H h = some (.ins (cHouse K) dx (houseF L W))
  grp : H L.g = some (.lst (W.groups.map V.int))
  nds : H L.nd = some (.dK (nodesV 0 L.as))
  ovr : H L.ov = some (.dK (overV W.over))
  la : L.as.length = W.nodes.length
  ln : L.ns.length = W.nodes.length
  nod : ∀ i, i < W.nodes.length → NodeAt K H (L.as.getD i 0) (L.ns.getD i 0) (W.at i)
  dis : (h :: L.nd :: L.ov :: (L.as ++ L.ns)).Nodup
theorem NodeAt.ex' {K : PySem.W.Frag} {H H' : Hp} {a nm : Addr} {d : Nd} (h : NodeAt K H a nm d) (e : Ex H H') : NodeAt K H' a nm d := by
  obtain ⟨dx, rt, h1, h2⟩ := h.ex
  exact ⟨⟨dx, rt, e _ _ h1, e _ _ h2⟩, e _ _ h.nam⟩
theorem HouseAt.up {K : PySem.W.Frag} {H H' : Hp} {h : Addr} {L : Lay} {W : Wd} (hh : HouseAt K H h L W) (e : Ex H H') : HouseAt K H' h L W := by
  obtain ⟨dx, h1⟩ := hh.obj
  exact ⟨⟨dx, e _ _ h1⟩, e _ _ hh.grp, e _ _ hh.nds, e _ _ hh.ovr, hh.la, hh.ln, fun i hi => (hh.nod i hi).ex' e, hh.dis⟩
/-- what the written part says of the classes -/
structure ClsK (K : PySem.W.Frag) : Prop where
  h : Cls K (cHouse K)
  n : Cls K (cNode K)
  s : Cls K (cStand K)
  hf : ∀ f ∈ ([("groups" : Str), "nodes", "made", "over"] : List Str), NoAttr K (cHouse K) f
  nf : ∀ f ∈ ([("kind" : Str), "owner", "group", "rights", "names", "text", "count"] : List Str), NoAttr K (cNode K) f
  sf : ∀ f ∈ ([("number" : Str), "name", "under"] : List Str), NoAttr K (cStand K) f
def StandAt (K : PySem.W.Frag) (H : Hp) (a : Addr) (s : Std) : Prop := ∃ dx, H a = some (.ins (cStand K) dx [("number", .int s.number), ("name", .str s.name), ("under", nV s.under)])
def StandsAt (K : PySem.W.Frag) (H : Hp) (p : Addr) (ss : List Std) : Prop := ∃ as, H p = some (.lst (as.map V.ref)) ∧ Paired (StandAt K H) as ss
/-- an error, thrown -/
def ErrAt (K : PySem.W.Frag) (e : Err) (cls : Value) (d : Option Addr) (H : Hp) : Prop := match e with
  | .no i => cls = .ref (errC K i) ∧ d = none
  | .right u n => cls = .ref (errC K 4) ∧ ∃ dd, d = some dd ∧ H dd = some (.xd [("number", .int n), ("user", .int u)])
  | .name s => cls = .ref (errC K 5) ∧ ∃ dd, d = some dd ∧ H dd = some (.xd [("name", .str s)])
theorem atI_ints {ns : List Int} {i : Int} (h0 : 0 ≤ i) (h1 : i < ns.length) : atI (ns.map V.int) i = some (.int (ns.getD i.toNat 0)) := by
  have hl : i.toNat < ns.length := by omega
  unfold atI ixN
  rw [List.length_map, if_pos h0, if_pos (by omega)]
  show (ns.map V.int)[i.toNat]? = _
  rw [List.getElem?_map, List.getElem?_eq_getElem hl, List.getD_eq_getElem?_getD, List.getElem?_eq_getElem hl]
  rfl
theorem dec_int (a b : Int) : decide (V.int a = V.int b) = decide (a = b) := decide_eq_decide.mpr ⟨V.int.inj, congrArg V.int⟩
/-! ### fields -/
section
variable {K : PySem.W.Frag} {H : Hp} {h : Addr} {L : Lay} {W : Wd} {Q : VK}
theorem HouseAt.fN (hh : HouseAt K H h L W) (CK : ClsK K) (q : Q (.ref L.nd) H) : FldK K (.ref h) "nodes" H Q := by
  obtain ⟨dx, h1⟩ := hh.obj
  exact x_fldV h1 CK.h (CK.hf _ (by decide)) (by rfl) q
theorem HouseAt.fG (hh : HouseAt K H h L W) (CK : ClsK K) (q : Q (.ref L.g) H) : FldK K (.ref h) "groups" H Q := by
  obtain ⟨dx, h1⟩ := hh.obj
  exact x_fldV h1 CK.h (CK.hf _ (by decide)) (by rfl) q
theorem HouseAt.fM (hh : HouseAt K H h L W) (CK : ClsK K) (q : Q (.int W.nodes.length) H) : FldK K (.ref h) "made" H Q := by
  obtain ⟨dx, h1⟩ := hh.obj
  exact x_fldV h1 CK.h (CK.hf _ (by decide)) (by rfl) q
theorem HouseAt.fO (hh : HouseAt K H h L W) (CK : ClsK K) (q : Q (.ref L.ov) H) : FldK K (.ref h) "over" H Q := by
  obtain ⟨dx, h1⟩ := hh.obj
  exact x_fldV h1 CK.h (CK.hf _ (by decide)) (by rfl) q
theorem HouseAt.ob (hh : HouseAt K H h L W) {m : Str} {P : Prop} (q : P) (l : (houseF L W).lookup m = none := by rfl) : Ob (cHouse K) m (.ref h) H ∧ P := by
  obtain ⟨dx, h1⟩ := hh.obj
  exact x_ob h1 l q
theorem valV_nodes : ∀ (as : List Addr) (i n : Nat), n < as.length → valV (nodesV i as) (.inl ((i + n : Nat) : Int)) = some (.ref (as.getD n 0))
  | [], _, _, h => absurd h (Nat.not_lt_zero _)
  | a :: r, i, 0, _ => valV_pos rfl
  | a :: r, i, n + 1, h => by
    have e : ¬ ((Sum.inl (i : Int) : Key) = Sum.inl ((i + (n + 1) : Nat) : Int)) := fun z => by
      have := Sum.inl.inj z
      omega
    rw [show nodesV i (a :: r) = (.inl (i : Int), .ref a) :: nodesV (i + 1) r from rfl, valV_neg e]
    have := valV_nodes r (i + 1) n (Nat.lt_of_succ_lt_succ h)
    rw [show i + (n + 1) = i + 1 + n by omega]
    exact this
/-- the node n -/
theorem HouseAt.node (hh : HouseAt K H h L W) {n : Nat} (hn : n < W.nodes.length) (q : Q (.ref (L.as.getD n 0)) H) : DGetK (.ref L.nd) (.int n) H Q := by
  refine x_dgetI hh.nds ?_ q
  have := valV_nodes L.as 0 n (by rw [hh.la]; exact hn)
  rw [Nat.zero_add] at this
  exact this
theorem NodeAt.fld {a nm : Addr} {d : Nd} (N : NodeAt K H a nm d) (CK : ClsK K) {f : Str} {v : V} (hf : f ∈ ([("kind" : Str), "owner", "group", "names", "text", "count"] : List Str)) (l : ∀ rt, (nodeF d nm rt).lookup f = some v) (q : Q v H) : FldK K (.ref a) f H Q := by
  obtain ⟨dx, rt, h1, _⟩ := N.ex
  refine x_fldV h1 CK.n (CK.nf _ ?_) (l rt) q
  simp only [List.mem_cons, List.not_mem_nil, or_false] at hf ⊢
  rcases hf with h | h | h | h | h | h <;> simp [h]
theorem NodeAt.kind {a nm : Addr} {d : Nd} (N : NodeAt K H a nm d) (CK : ClsK K) (q : Q (.str d.kind) H) : FldK K (.ref a) "kind" H Q := N.fld CK (by decide) (fun _ => rfl) q
theorem NodeAt.owner {a nm : Addr} {d : Nd} (N : NodeAt K H a nm d) (CK : ClsK K) (q : Q (.int d.owner) H) : FldK K (.ref a) "owner" H Q := N.fld CK (by decide) (fun _ => rfl) q
theorem NodeAt.group {a nm : Addr} {d : Nd} (N : NodeAt K H a nm d) (CK : ClsK K) (q : Q (.int d.group) H) : FldK K (.ref a) "group" H Q := N.fld CK (by decide) (fun _ => rfl) q
theorem NodeAt.names {a nm : Addr} {d : Nd} (N : NodeAt K H a nm d) (CK : ClsK K) (q : Q (.ref nm) H) : FldK K (.ref a) "names" H Q := N.fld CK (by decide) (fun _ => rfl) q
theorem NodeAt.text {a nm : Addr} {d : Nd} (N : NodeAt K H a nm d) (CK : ClsK K) (q : Q (.str d.text) H) : FldK K (.ref a) "text" H Q := N.fld CK (by decide) (fun _ => rfl) q
theorem NodeAt.count {a nm : Addr} {d : Nd} (N : NodeAt K H a nm d) (CK : ClsK K) (q : Q (.int d.count) H) : FldK K (.ref a) "count" H Q := N.fld CK (by decide) (fun _ => rfl) q
theorem NodeAt.rights {a nm : Addr} {d : Nd} (N : NodeAt K H a nm d) (CK : ClsK K) (q : ∀ rt, H rt = some (.tup (rtsV d)) → Q (.ref rt) H) : FldK K (.ref a) "rights" H Q := by
  obtain ⟨dx, rt, h1, h2⟩ := N.ex
  exact x_fldV h1 CK.n (CK.nf _ (by decide)) (by rfl) (q rt h2)
theorem valV_names (k : Str) : ∀ l : List (Str × Nat), valV (namesV l) (.inr k) = (look k l).map fun n => .int (n : Int)
  | [] => rfl
  | (s, n) :: r => by
    show valV ((.inr s, .int n) :: namesV r) (.inr k) = _
    by_cases e : s = k
    · rw [valV_pos (by show (Sum.inr s : Key) = Sum.inr k; rw [e])]
      unfold look
      rw [if_pos e]
      rfl
    · rw [valV_neg (fun z => e (Sum.inr.inj z)), valV_names k r]
      conv => rhs; unfold look
      rw [if_neg e]
theorem valV_over (k : Nat) : ∀ l : List (Nat × Nat), valV (overV l) (.inl (k : Int)) = (look k l).map fun n => .int (n : Int)
  | [] => rfl
  | (s, n) :: r => by
    show valV ((.inl (s : Int), .int n) :: overV r) (.inl (k : Int)) = _
    by_cases e : s = k
    · rw [valV_pos (by show (Sum.inl (s : Int) : Key) = Sum.inl (k : Int); rw [e])]
      unfold look
      rw [if_pos e]
      rfl
    · rw [valV_neg (fun z => e (by have := Sum.inl.inj z; omega)), valV_over k r]
      conv => rhs; unfold look
      rw [if_neg e]
theorem look_mem {α β : Type} [DecidableEq α] {k : α} {v : β} : ∀ {l : List (α × β)}, look k l = some v → (k, v) ∈ l
  | [], h => by cases h
  | (a, b) :: r, h => by
    unfold look at h
    by_cases e : a = k
    · rw [if_pos e] at h
      cases h
      rw [e]
      exact List.mem_cons_self ..
    · rw [if_neg e] at h
      exact List.mem_cons_of_mem _ (look_mem h)
theorem x_fsetE {R : Hp → Prop} {a C dx : Addr} {fs : List (Str × V)} {y : V} {f : Str} (gs : List (Str × V)) (h : H a = some (.ins C dx fs)) (c : Cls K C) (n : NoAttr K C f) (q : ∀ H', H' a = some (.ins C dx gs) → (∀ b, b ≠ a → H' b = H b) → R H') (e : putF f y fs = gs := by rfl) (l : fs.length < 1000 := by simp) : FSetK K (.ref a) f y H R :=
  x_fsetV h c n l (q _ (by rw [upd_same, e]) fun b hb => upd_ne hb)
theorem x_dputSE {R : Hp → Prop} {a : Addr} {kvs : List (Key × V)} {k : Str} {v : V} (h : H a = some (.dK kvs)) (l : kvs.length < 100000) (q : ∀ H', H' a = some (.dK (putK kvs (.inr k) v)) → (∀ b, b ≠ a → H' b = H b) → R H') : DPutK (.ref a) (.str k) v H R := x_dputS h l (q _ upd_same fun b hb => upd_ne hb)
theorem x_dputIE {R : Hp → Prop} {a : Addr} {kvs : List (Key × V)} {k : Int} {v : V} (h : H a = some (.dK kvs)) (l : kvs.length < 100000) (q : ∀ H', H' a = some (.dK (putK kvs (.inl k) v)) → (∀ b, b ≠ a → H' b = H b) → R H') : DPutK (.ref a) (.int k) v H R := x_dputI h l (q _ upd_same fun b hb => upd_ne hb)
/-- Node(..), Stand(..) -/
def sp_Node (K : PySem.W.Frag) : Sp := fun vs H Q _ => ∃ (x dx rt : Addr) (kind : Str) (owner group : Int), vs = [.ref x, .str kind, .int owner, .int group, .ref rt] ∧ H x = some (.ins (cNode K) dx []) ∧
  ∀ nm H', H nm = none → H' x = some (.ins (cNode K) dx (nodeF ⟨kind, owner, group, 0, 0, 0, [], "", 1⟩ nm rt)) → H' nm = some (.dK []) → (∀ b o, b ≠ x → H b = some o → H' b = some o) → Q .non H'
def sp_Stand (K : PySem.W.Frag) : Sp := fun vs H Q _ => ∃ (x dx : Addr) (s : Std), vs = [.ref x, .int s.number, .str s.name, nV s.under] ∧ H x = some (.ins (cStand K) dx []) ∧
  ∀ H', H' x = some (.ins (cStand K) dx [("number", .int s.number), ("name", .str s.name), ("under", nV s.under)]) → (∀ b, b ≠ x → H' b = H b) → Q .non H'
theorem mk_node {E : XK} {kind : Str} {owner group : Int} {rt : Addr} (q : ∀ x nm dx H', H x = none → H nm = none → x ≠ nm → Ex H H' → H' x = some (.ins (cNode K) dx (nodeF ⟨kind, owner, group, 0, 0, 0, [], "", 1⟩ nm rt)) → H' nm = some (.dK []) → Q (.ref x) H') :
    MkK (cNode K) (sp_Node K) E [.str kind, .int owner, .int group, .ref rt] H Q := by
  intro x dx hx hdx hne
  refine ⟨x, dx, rt, kind, owner, group, rfl, upd_same, fun nm H' hnm h1 h2 h3 => ⟨rfl, ?_⟩⟩
  have n1 : nm ≠ x := fun z => by rw [z, upd_same] at hnm; cases hnm
  rw [upd_ne n1] at hnm
  have n2 : nm ≠ dx := fun z => by rw [z, upd_same] at hnm; cases hnm
  rw [upd_ne n2] at hnm
  refine q x nm dx H' hx hnm n1.symm (fun b o hb => ?_) h1 h2
  have b1 : b ≠ x := fun z => by rw [z, hx] at hb; cases hb
  have b3 : b ≠ dx := fun z => by rw [z, hdx] at hb; cases hb
  refine h3 b o b1 ?_
  rw [upd_ne b1, upd_ne b3]
  exact hb
theorem mk_stand {E : XK} {s : Std} {v : V} (hv : v = nV s.under) (q : ∀ x H', H x = none → Ex H H' → StandAt K H' x s → Q (.ref x) H') : MkK (cStand K) (sp_Stand K) E [.int s.number, .str s.name, v] H Q := by
  intro x dx hx hdx hne
  subst hv
  refine ⟨x, dx, s, rfl, upd_same, fun H' h1 h3 => ⟨rfl, ?_⟩⟩
  refine q x H' hx (fun b o hb => ?_) ⟨dx, h1⟩
  have b1 : b ≠ x := fun z => by rw [z, hx] at hb; cases hb
  have b3 : b ≠ dx := fun z => by rw [z, hdx] at hb; cases hb
  rw [h3 b b1, upd_ne b1, upd_ne b3]
  exact hb
end
/-- a small whole number, or a thing that is none -/
def smallV (v : V) (high : Int) : Bool := match v with
  | .int i => decide (0 ≤ i) && decide (i ≤ high)
  | _ => false
def IntOk (K : PySem.W.Frag) (H : Hp) (v : V) : Prop := (∃ i, v = .int i) ∨ (∃ b, v = .bl b) ∨ Kind K H v "int" false
theorem IntOk.ex {K : PySem.W.Frag} {H H' : Hp} {v : V} (h : IntOk K H v) (e : Ex H H') : IntOk K H' v := by
  rcases h with h | h | h
  · exact .inl h
  · exact .inr (.inl h)
  · exact .inr (.inr (h.ex e))
/-! ### writing -/
/-- all that a house may write to -/
def fp (h : Addr) (L : Lay) : List Addr := h :: L.nd :: L.ov :: (L.as ++ L.ns)
def Wd.put (W : Wd) (i : Nat) (d : Nd) : Wd := { W with nodes := W.nodes.set i d }
theorem Wd.at_put {W : Wd} {i j : Nat} {d : Nd} (hi : i < W.nodes.length) : (W.put i d).at j = if j = i then d else W.at j := by
  unfold Wd.at Wd.put
  show (W.nodes.set i d).getD j nd0 = _
  rw [List.getD_eq_getElem?_getD, List.getElem?_set]
  by_cases e : i = j
  · subst e
    rw [if_pos rfl, if_pos rfl, if_pos hi]
    rfl
  · rw [if_neg e, if_neg (fun z => e z.symm), List.getD_eq_getElem?_getD]
theorem Wd.len_put {W : Wd} {i : Nat} {d : Nd} : (W.put i d).nodes.length = W.nodes.length := List.length_set ..
theorem getD_mem {l : List Addr} {i : Nat} (h : i < l.length) : l.getD i 0 ∈ l := by
  rw [List.getD_eq_getElem?_getD, List.getElem?_eq_getElem h]
  exact List.getElem_mem h
theorem getD_inj {l : List Addr} {i j : Nat} (n : l.Nodup) (hi : i < l.length) (hj : j < l.length) (e : l.getD i 0 = l.getD j 0) : i = j := by
  rw [List.getD_eq_getElem?_getD, List.getD_eq_getElem?_getD, List.getElem?_eq_getElem hi, List.getElem?_eq_getElem hj] at e
  exact (List.getElem_inj n).mp e
section
variable {K : PySem.W.Frag} {H H' : Hp} {h : Addr} {L : Lay} {W : Wd}
theorem HouseAt.dAs (hh : HouseAt K H h L W) : L.as.Nodup := (List.nodup_append.mp (List.nodup_cons.mp (List.nodup_cons.mp (List.nodup_cons.mp hh.dis).2).2).2).1
theorem HouseAt.dNs (hh : HouseAt K H h L W) : L.ns.Nodup := (List.nodup_append.mp (List.nodup_cons.mp (List.nodup_cons.mp (List.nodup_cons.mp hh.dis).2).2).2).2.1
theorem HouseAt.dAN (hh : HouseAt K H h L W) {a b : Addr} (ha : a ∈ L.as) (hb : b ∈ L.ns) : a ≠ b := (List.nodup_append.mp (List.nodup_cons.mp (List.nodup_cons.mp (List.nodup_cons.mp hh.dis).2).2).2).2.2 a ha b hb
theorem HouseAt.dH (hh : HouseAt K H h L W) {a : Addr} (ha : a ∈ L.as ∨ a ∈ L.ns) : h ≠ a ∧ L.nd ≠ a ∧ L.ov ≠ a := by
  have h1 := List.nodup_cons.mp hh.dis
  have h2 := List.nodup_cons.mp h1.2
  have h3 := List.nodup_cons.mp h2.2
  have m : a ∈ L.as ++ L.ns := List.mem_append.mpr ha
  exact ⟨fun z => h1.1 (by rw [z]; exact List.mem_cons_of_mem _ (List.mem_cons_of_mem _ m)), fun z => h2.1 (by rw [z]; exact List.mem_cons_of_mem _ m), fun z => h3.1 (by rw [z]; exact m)⟩
theorem HouseAt.mA (hh : HouseAt K H h L W) {i : Nat} (hi : i < W.nodes.length) : L.as.getD i 0 ∈ L.as := getD_mem (by rw [hh.la]; exact hi)
theorem HouseAt.mN (hh : HouseAt K H h L W) {i : Nat} (hi : i < W.nodes.length) : L.ns.getD i 0 ∈ L.ns := getD_mem (by rw [hh.ln]; exact hi)
/-- one node is written -/
theorem HouseAt.set (hh : HouseAt K H h L W) {i : Nat} {d : Nd} (hi : i < W.nodes.length) (N : NodeAt K H' (L.as.getD i 0) (L.ns.getD i 0) d) (off : ∀ b, b ≠ L.as.getD i 0 → b ≠ L.ns.getD i 0 → H' b = H b) : HouseAt K H' h L (W.put i d) := by
  obtain ⟨dx, ho⟩ := hh.obj
  have ma := hh.mA hi
  have mn := hh.mN hi
  obtain ⟨a1, a2, a3⟩ := hh.dH (.inl ma)
  obtain ⟨n1, n2, n3⟩ := hh.dH (.inr mn)
  obtain ⟨dxi, rti, hoi, hri⟩ := (hh.nod i hi).ex
  have hni := (hh.nod i hi).nam
  have lst : ∀ {b : Addr} {o : HO}, H b = some o → (∀ C dx fs, o ≠ .ins C dx fs) → (∀ kvs, o ≠ .dK kvs) → H' b = some o := fun {b o} hb h1 h2 => by
    rw [off b]
    · exact hb
    · exact fun z => by rw [z, hoi] at hb; cases hb; exact h1 _ _ _ rfl
    · exact fun z => by rw [z, hni] at hb; cases hb; exact h2 _ rfl
  refine ⟨⟨dx, ?_⟩, lst hh.grp (fun _ _ _ z => nomatch z) (fun _ z => nomatch z), ?_, ?_, by rw [Wd.len_put]; exact hh.la, by rw [Wd.len_put]; exact hh.ln, fun j hj => ?_, hh.dis⟩
  · rw [off h a1 n1, ho]
    unfold houseF
    rw [Wd.len_put]
  · rw [off _ a2 n2]
    exact hh.nds
  · rw [off _ a3 n3]
    exact hh.ovr
  · rw [Wd.len_put] at hj
    rw [Wd.at_put hi]
    by_cases e : j = i
    · rw [if_pos e, e]
      exact N
    · rw [if_neg e]
      obtain ⟨dxj, rtj, hoj, hrj⟩ := (hh.nod j hj).ex
      have hnj := (hh.nod j hj).nam
      refine ⟨⟨dxj, rtj, ?_, lst hrj (fun _ _ _ z => nomatch z) (fun _ z => nomatch z)⟩, ?_⟩
      · rw [off _ (fun z => e (getD_inj hh.dAs (by rw [hh.la]; exact hj) (by rw [hh.la]; exact hi) z)) (hh.dAN (hh.mA hj) mn)]
        exact hoj
      · rw [off _ (fun z => hh.dAN ma (hh.mN hj) z.symm) (fun z => e (getD_inj hh.dNs (by rw [hh.ln]; exact hj) (by rw [hh.ln]; exact hi) z))]
        exact hnj
end
theorem nodesV_snoc : ∀ (as : List Addr) (i : Nat) (x : Addr), nodesV i (as ++ [x]) = nodesV i as ++ [(.inl ((i + as.length : Nat) : Int), .ref x)]
  | [], i, x => rfl
  | a :: r, i, x => by
    show (Sum.inl (i : Int), V.ref a) :: nodesV (i + 1) (r ++ [x]) = _
    rw [nodesV_snoc r (i + 1) x, List.length_cons, show i + 1 + r.length = i + (r.length + 1) by omega]
    rfl
theorem valV_nodes_none : ∀ (as : List Addr) (i n : Nat), i + as.length ≤ n → valV (nodesV i as) (.inl (n : Int)) = none
  | [], _, _, _ => rfl
  | a :: r, i, n, h => by
    rw [List.length_cons] at h
    have e : ¬ ((Sum.inl (i : Int) : Key) = Sum.inl (n : Int)) := fun z => by
      have := Sum.inl.inj z
      omega
    rw [show nodesV i (a :: r) = (.inl (i : Int), .ref a) :: nodesV (i + 1) r from rfl, valV_neg e]
    exact valV_nodes_none r (i + 1) n (by omega)
theorem nodesV_len : ∀ (as : List Addr) (i : Nat), (nodesV i as).length = as.length
  | [], _ => rfl
  | a :: r, i => by
    show (nodesV (i + 1) r).length + 1 = r.length + 1
    rw [nodesV_len r (i + 1)]
theorem putK_new {kvs : List (Key × V)} {k : Key} {v : V} (h : valV kvs k = none) : putK kvs k v = kvs ++ [(k, v)] := by
  unfold putK
  rw [valV_any, h]
  rfl
/-! ### stands -/
theorem paired_take {α β : Type} {F : α → β → Prop} : ∀ {l : List α} {m : List β} (n : Nat), Paired F l m → Paired F (l.take n) (m.take n)
  | _, _, 0, _ => by simpa using Paired.nil
  | _, _, _ + 1, .nil => by simpa using Paired.nil
  | _, _, n + 1, .cons h t => by
    rw [List.take_succ_cons, List.take_succ_cons]
    exact .cons h (paired_take n t)
theorem paired_last {α β : Type} {F : α → β → Prop} {d : α} {e : β} : ∀ {l : List α} {m : List β}, Paired F l m → m ≠ [] → F (l.getLastD d) (m.getLastD e)
  | _, _, .nil, h => absurd rfl h
  | _, _, .cons h .nil, _ => h
  | _, _, .cons h (.cons h2 t), _ => by
    have := paired_last (d := d) (e := e) (.cons h2 t) (by simp)
    simpa using this
section
variable {K : PySem.W.Frag} {H H' : Hp} {p : Addr} {ss : List Std}
theorem StandAt.up {a : Addr} {s : Std} (h : StandAt K H a s) (e : Ex H H') : StandAt K H' a s := by
  obtain ⟨dx, h⟩ := h
  exact ⟨dx, e _ _ h⟩
theorem StandsAt.up (h : StandsAt K H p ss) (e : Ex H H') : StandsAt K H' p ss := by
  obtain ⟨as, h1, h2⟩ := h
  exact ⟨as, e _ _ h1, L2.Paired.mapP h2 fun a s h => h.up e⟩
theorem atI_neg1 {α : Type} {l : List α} {d : α} (h : l ≠ []) : atI l (-1) = some (l.getLastD d) := by
  have hl : 0 < l.length := List.length_pos_iff.mpr h
  unfold atI ixN
  rw [if_neg (by decide), if_pos (by omega)]
  show l[((-1 : Int) + l.length).toNat]? = _
  rw [show ((-1 : Int) + l.length).toNat = l.length - 1 by omega, List.getLastD_eq_getLast?, List.getLast?_eq_getElem?, List.getElem?_eq_getElem (by omega)]
  rfl
theorem atI_zero {α : Type} {x : α} {l : List α} : atI (x :: l) 0 = some x := by
  unfold atI ixN
  rw [if_pos (by decide), if_pos (by rw [List.length_cons]; omega)]
  rfl
theorem StandsAt.last (h : StandsAt K H p ss) (hne : ss ≠ []) : ∃ (as : List Addr) (a : Addr), H p = some (.lst (as.map V.ref)) ∧ as.length = ss.length ∧ atI (as.map V.ref) (-1) = some (.ref a) ∧ StandAt K H a (Tm.last ss) := by
  obtain ⟨as, h1, h2⟩ := h
  have hne' : as ≠ [] := fun z => by
    rw [z] at h2
    cases h2
    exact hne rfl
  refine ⟨as, as.getLastD 0, h1, h2.length, ?_, paired_last h2 hne⟩
  rw [atI_neg1 (d := V.ref 0) (by simpa using hne')]
  congr 1
  rw [List.getLastD_eq_getLast?, List.getLastD_eq_getLast?, List.getLast?_map]
  cases as.getLast? <;> rfl
theorem StandAt.num {Q : VK} {a : Addr} {s : Std} (h : StandAt K H a s) (CK : ClsK K) (q : Q (.int s.number) H) : FldK K (.ref a) "number" H Q := by
  obtain ⟨dx, h⟩ := h
  exact x_fldV h CK.s (CK.sf _ (by decide)) (by rfl) q
theorem StandAt.nam {Q : VK} {a : Addr} {s : Std} (h : StandAt K H a s) (CK : ClsK K) (q : Q (.str s.name) H) : FldK K (.ref a) "name" H Q := by
  obtain ⟨dx, h⟩ := h
  exact x_fldV h CK.s (CK.sf _ (by decide)) (by rfl) q
theorem StandAt.und {Q : VK} {a : Addr} {s : Std} (h : StandAt K H a s) (CK : ClsK K) (q : Q (nV s.under) H) : FldK K (.ref a) "under" H Q := by
  obtain ⟨dx, h⟩ := h
  exact x_fldV h CK.s (CK.sf _ (by decide)) (by rfl) q
end
theorem StandsAt.take {K : PySem.W.Frag} {H H' : Hp} {p q : Addr} {ss : List Std} {as : List Addr} (h : StandsAt K H p ss) (hp : H p = some (.lst (as.map V.ref))) (e : Ex H H') (n : Nat) (hq : H' q = some (.lst ((as.take n).map V.ref))) : StandsAt K H' q (ss.take n) := by
  obtain ⟨bs, h1, h2⟩ := h.up e
  have hb := e _ _ hp
  rw [h1] at hb
  have eb : bs.map V.ref = as.map V.ref := by
    injection hb with hb
    injection hb
  have : bs = as := by
    have inj : ∀ {l m : List Addr}, l.map V.ref = m.map V.ref → l = m := by
      intro l
      induction l with
      | nil => intro m h; cases m with
        | nil => rfl
        | cons _ _ => cases h
      | cons a l ih => intro m h; cases m with
        | nil => cases h
        | cons b m =>
          rw [List.map_cons, List.map_cons] at h
          injection h with h1 h2
          rw [ih h2, V.ref.inj h1]
    exact inj eb
  subst this
  exact ⟨_, hq, paired_take n h2⟩
theorem overGo_lt {ov : List (Nat × Nat)} {N : Nat} (h : ∀ p ∈ ov, p.2 < N) : ∀ (m n : Nat) (u : Option Nat), n < N → (overGo ov m n u).1 < N
  | 0, n, u, hn => hn
  | m + 1, n, u, hn => by
    unfold overGo
    split
    · exact hn
    · rename_i k hk
      exact overGo_lt h m k _ (h _ (look_mem hk))
theorem stand_lt {W : Wd} (ok : W.Ok) {n : Nat} (name : Str) (h : n < W.nodes.length) : (standOf W n name).number < W.nodes.length := overGo_lt (fun p hp => (ok.ovr p hp).2.1) _ _ _ h
/-! ### the walk ends -/
theorem parts_len {b : Bool} {s : Str} {ps : List Str} (h : partsOf b s = some ps) : ps.length ≤ 12 := (good_all (parts_good h)).1
theorem parts_all {b : Bool} {s : Str} {ps : List Str} (h : partsOf b s = some ps) : ∀ p ∈ ps, isPart p = true := (good_all (parts_good h)).2
theorem Wd.Ok.at {W : Wd} (ok : Wd.Ok W) {i : Nat} (h : i < W.nodes.length) : (W.at i).Ok W := by
  refine ok.nod _ ?_
  unfold Wd.at
  rw [List.getD_eq_getElem?_getD, List.getElem?_eq_getElem h]
  exact List.getElem_mem h
theorem wayGo_ne {W : Wd} {u : Int} {follow : Bool} : ∀ (m : Nat) (ss : List Std) (rest : List Str) (hints : Nat), rest.length + 13 * (8 - hints) < m → wayGo W u follow m ss rest hints ≠ .stuck
  | 0, _, _, _, h => absurd h (Nat.not_lt_zero _)
  | m + 1, ss, [], _, _ => by
    unfold wayGo
    exact fun z => nomatch z
  | m + 1, ss, part :: rest, hints, h => by
    rw [List.length_cons] at h
    have ih := wayGo_ne (W := W) (u := u) (follow := follow) m
    unfold wayGo
    split
    · exact fun z => nomatch z
    · split
      · exact ih _ _ _ (by omega)
      · split
        · exact ih _ _ _ (by omega)
        · split
          · exact fun z => nomatch z
          · rename_i k _
            split
            · split
              · exact fun z => nomatch z
              · refine ih _ _ _ ?_
                have : ((partsOf false (W.at k).text).getD []).length ≤ 12 := by
                  cases hp : partsOf false (W.at k).text with
                  | none => exact Nat.zero_le _
                  | some ps => exact parts_len hp
                rw [List.length_append]
                omega
            · split
              · exact ih _ _ _ (by omega)
              · split
                · exact fun z => nomatch z
                · exact fun z => nomatch z
theorem wayGo_ok {W : Wd} (ok : W.Ok) {u : Int} {follow : Bool} : ∀ (m : Nat) (ss : List Std) (rest : List Str) (hints : Nat) {rs : List Std} {num : Option Nat}, ss ≠ [] → (∀ z ∈ ss, z.number < W.nodes.length) → wayGo W u follow m ss rest hints = .ok rs num → rs ≠ [] ∧ (∀ z ∈ rs, z.number < W.nodes.length) ∧ ∀ k, num = some k → k < W.nodes.length
  | 0, _, _, _, _, _, _, _, h => by
    unfold wayGo at h
    cases h
  | m + 1, ss, [], _, rs, num, hne, hn, h => by
    unfold wayGo at h
    cases h
    exact ⟨hne, hn, fun k z => nomatch z⟩
  | m + 1, ss, part :: rest, hints, rs, num, hne, hn, h => by
    have hpos := List.length_pos_iff.mpr hne
    have hl : (last ss).number < W.nodes.length := by
      refine hn _ ?_
      unfold last
      rw [List.getLastD_eq_getLast?, List.getLast?_eq_some_getLast hne]
      exact List.getLast_mem hne
    have tk : ∀ n, 0 < n → ss.take n ≠ [] := fun n h0 z => by
      have := congrArg List.length z
      rw [List.length_take, List.length_nil] at this
      omega
    unfold wayGo at h
    split at h
    · cases h
    · split at h
      · exact wayGo_ok ok m _ _ _ (tk _ (by omega)) (fun z hz => hn z (List.mem_of_mem_take hz)) h
      · split at h
        · exact wayGo_ok ok m _ _ _ hne hn h
        · split at h
          · cases h
          · rename_i k hk
            have hkl : k < W.nodes.length := ((ok.at hl).nam _ (look_mem hk)).2
            split at h
            · split at h
              · cases h
              · refine wayGo_ok ok m _ _ _ ?_ ?_ h
                · split
                  · exact tk 1 (by omega)
                  · exact hne
                · intro z hz
                  split at hz
                  · exact hn z (List.mem_of_mem_take hz)
                  · exact hn z hz
            · split at h
              · refine wayGo_ok ok m _ _ _ (by simp) (fun z hz => ?_) h
                rcases List.mem_append.mp hz with hz | hz
                · exact hn z hz
                · rw [List.mem_singleton.mp hz]
                  exact stand_lt ok part hkl
              · split at h
                · cases h
                · cases h
                  exact ⟨hne, hn, fun k' z => by cases z; exact hkl⟩
theorem wayOf_ok {W : Wd} (ok : W.Ok) {u : Int} {follow : Bool} {ps : List Str} {ss : List Std} {num : Option Nat} (h : wayOf W u follow ps = .ok ss num) : ss ≠ [] ∧ (∀ z ∈ ss, z.number < W.nodes.length) ∧ ∀ k, num = some k → k < W.nodes.length :=
  wayGo_ok ok _ _ _ _ (by simp) (fun z hz => by rw [List.mem_singleton.mp hz]; exact ok.one) h
/-! ### rights, texts, places -/
def rightsB (H : Hp) (v : V) : Bool := match v with
  | .ref a => match H a with
    | some (.tup xs) => decide (xs.length = 3) && xs.all fun x => smallV x 7
    | _ => false
  | _ => false
def RightsOk (K : PySem.W.Frag) (H : Hp) (v : V) : Prop := (∃ a xs, v = .ref a ∧ H a = some (.tup xs) ∧ xs.length ≤ 1000 ∧ ∀ x ∈ xs, IntOk K H x) ∨ (Kind K H v "tuple" false ∧ ∀ H', Ex H H' → rightsB H' v = false)
theorem RightsOk.ex {K : PySem.W.Frag} {H H' : Hp} {v : V} (h : RightsOk K H v) (e : Ex H H') : RightsOk K H' v := by
  rcases h with ⟨a, xs, h1, h2, h3, h4⟩ | ⟨h1, h2⟩
  · exact .inl ⟨a, xs, h1, e _ _ h2, h3, fun x hx => (h4 x hx).ex e⟩
  · exact .inr ⟨h1.ex e, fun H2 e2 => h2 H2 (e.tr e2)⟩
theorem RightsOk.same {K : PySem.W.Frag} {H H' : Hp} {v : V} (h : RightsOk K H v) (e : Ex H H') : rightsB H' v = rightsB H v := by
  rcases h with ⟨a, xs, rfl, h2, h3, h4⟩ | ⟨h1, h2⟩
  · unfold rightsB
    simp only [h2, e _ _ h2]
  · rw [h2 H' e, h2 H Ex.rfl]
theorem rightsB_tup {H : Hp} {v : V} (h : rightsB H v = true) : ∃ a r0 r1 r2, v = .ref a ∧ H a = some (.tup [.int r0, .int r1, .int r2]) ∧ (0 ≤ r0 ∧ r0 ≤ 7) ∧ (0 ≤ r1 ∧ r1 ≤ 7) ∧ (0 ≤ r2 ∧ r2 ≤ 7) := by
  unfold rightsB at h
  cases v with
  | ref a =>
    dsimp only at h
    split at h
    · rename_i xs hx
      rw [Bool.and_eq_true, decide_eq_true_eq, List.all_eq_true] at h
      obtain ⟨h1, h2⟩ := h
      match xs, h1 with
      | [x, y, z], _ =>
        have sm : ∀ w, smallV w 7 = true → ∃ i, w = .int i ∧ 0 ≤ i ∧ i ≤ 7 := fun w hw => by
          cases w with
          | int i =>
            have hw : (decide (0 ≤ i) && decide (i ≤ 7)) = true := hw
            rw [Bool.and_eq_true, decide_eq_true_eq, decide_eq_true_eq] at hw
            exact ⟨i, rfl, hw⟩
          | _ => cases hw
        obtain ⟨i, rfl, hi⟩ := sm x (h2 x (by simp))
        obtain ⟨j, rfl, hj⟩ := sm y (h2 y (by simp))
        obtain ⟨k, rfl, hk⟩ := sm z (h2 z (by simp))
        exact ⟨a, i, j, k, rfl, hx, hi, hj, hk⟩
    · cases h
  | _ => cases h
def textB (v : V) : Bool := match v with
  | .str s => decide (s.length ≤ 40) && (cs s).all fun c => decide (32 ≤ c) && decide (c ≤ 126)
  | _ => false
inductive PlR where
  | err (e : Err)
  | ok (ss : List Std) (n : Str)
def splitOf (s : Str) : Option (List Str × Str) := match partsOf true s with
  | none => none
  | some ps => match ps.getLast? with
    | none => none
    | some n => if isName n = true then some (ps.dropLast, n) else none
def placeOn (W : Wd) (u : Int) (n : Str) : WayR → PlR
  | .stuck => .err (.no 0)
  | .err e => .err e
  | .ok _ (some _) => .err (.no 6)
  | .ok ss none => if mayOf W u (last ss).number 3 = true then .ok ss n else .err (.right u (last ss).number)
def placeV (W : Wd) (u : Int) (v : V) : PlR := match v with
  | .str s => match splitOf s with
    | none => .err (.no 0)
    | some (ps, n) => placeOn W u n (wayOf W u true ps)
  | _ => .err (.no 0)
def freeV (W : Wd) (u : Int) (v : V) : PlR := match placeV W u v with
  | .err e => .err e
  | .ok ss n => if (look n (W.at (last ss).number).names).isSome = true then .err (.no 9) else .ok ss n
theorem back_none {H H' : Hp} {q : Addr} (e : Ex H H') (z : H' q = none) : H q = none := by
  cases y : H q with
  | none => rfl
  | some o => rw [e _ _ y] at z; cases z
theorem split_good {s : Str} {ps : List Str} {n : Str} (h : splitOf s = some (ps, n)) : goodParts ps = true := by
  unfold splitOf at h
  split at h
  · cases h
  · rename_i qs hq
    split at h
    · cases h
    · split at h
      · cases h
        have g := good_all (parts_good hq)
        refine good_of ?_ fun p hp => g.2 p (List.dropLast_subset _ hp)
        rw [List.length_dropLast]
        omega
      · cases h
theorem place_ok {W : Wd} (ok : W.Ok) {u : Int} {v : V} {ss : List Std} {n : Str} (h : placeV W u v = .ok ss n) : ss ≠ [] ∧ (∀ z ∈ ss, z.number < W.nodes.length) ∧ isName n = true := by
  cases v with
  | str s =>
    unfold placeV at h
    dsimp only at h
    split at h
    · cases h
    · rename_i ps m hs
      have hm : isName m = true := by
        unfold splitOf at hs
        split at hs
        · cases hs
        · split at hs
          · cases hs
          · split at hs
            · cases hs
              assumption
            · cases hs
      generalize hw : wayOf W u true ps = R at h
      cases R with
      | stuck => cases h
      | err e => cases h
      | ok ts num =>
        cases num with
        | some k => cases h
        | none =>
          have h : (if mayOf W u (last ts).number 3 = true then PlR.ok ts m else .err (.right u (last ts).number)) = .ok ss n := h
          split at h
          · cases h
            have := wayOf_ok ok hw
            exact ⟨this.1, this.2.1, hm⟩
          · cases h
  | _ => cases h
theorem last_lt {W : Wd} {ss : List Std} (h0 : ss ≠ []) (h : ∀ z ∈ ss, z.number < W.nodes.length) : (last ss).number < W.nodes.length := by
  refine h _ ?_
  unfold last
  rw [List.getLastD_eq_getLast?, List.getLast?_eq_some_getLast h0]
  exact List.getLast_mem h0
theorem free_place {W : Wd} {u : Int} {v : V} {ss : List Std} {n : Str} (h : freeV W u v = .ok ss n) : placeV W u v = .ok ss n ∧ look n (W.at (last ss).number).names = none := by
  unfold freeV at h
  generalize hp : placeV W u v = R at h
  cases R with
  | err e => cases h
  | ok ts m =>
    dsimp only at h
    split at h
    · cases h
    · rename_i hn
      cases h
      refine ⟨rfl, ?_⟩
      cases hl : look n (W.at (last ss).number).names with
      | none => rfl
      | some k => rw [hl] at hn; exact (hn rfl).elim
/-- not too many nodes, nor names in a room -/
def Wd.Small (W : Wd) (m : Nat) : Prop := W.nodes.length ≤ m ∧ ∀ i, (W.at i).names.length ≤ m
/-- a name put at the end of a room's names -/
def Nd.name (d : Nd) (n : Str) (k : Nat) : Nd := { d with names := d.names ++ [(n, k)] }
def newNd (W : Wd) (kind : Str) (u r0 r1 r2 : Int) : Nd := ⟨kind, u, W.groups.getD u.toNat 0, r0, r1, r2, [], "", 1⟩
def Wd.add (W : Wd) (d : Nd) : Wd := { W with nodes := W.nodes ++ [d] }
def Lay.add (L : Lay) (x nm : Addr) : Lay := { L with as := L.as ++ [x], ns := L.ns ++ [nm] }
/-- a new node, and its name in the room r -/
def madeW (W : Wd) (r : Nat) (n : Str) (d : Nd) : Wd := (W.add d).put r ((W.at r).name n W.nodes.length)
theorem Wd.add_at {W : Wd} {d : Nd} {i : Nat} (h : i < W.nodes.length) : (W.add d).at i = W.at i := by
  unfold Wd.at Wd.add
  show (W.nodes ++ [d]).getD i nd0 = _
  rw [List.getD_eq_getElem?_getD, List.getElem?_append_left h, ← List.getD_eq_getElem?_getD]
theorem Wd.add_new {W : Wd} {d : Nd} : (W.add d).at W.nodes.length = d := by
  unfold Wd.at Wd.add
  show (W.nodes ++ [d]).getD W.nodes.length nd0 = _
  rw [List.getD_eq_getElem?_getD, List.getElem?_concat_length]
  rfl
theorem Wd.add_len {W : Wd} {d : Nd} : (W.add d).nodes.length = W.nodes.length + 1 := by
  show (W.nodes ++ [d]).length = _
  rw [List.length_append]
  rfl
theorem namesV_snoc (l : List (Str × Nat)) (n : Str) (k : Nat) : namesV (l ++ [(n, k)]) = namesV l ++ [(.inr n, .int k)] := by
  unfold namesV
  rw [List.map_append]
  rfl
/-- the names of node i are written -/
theorem HouseAt.names {K : PySem.W.Frag} {H H' : Hp} {h : Addr} {L : Lay} {W : Wd} (hh : HouseAt K H h L W) {i : Nat} {l : List (Str × Nat)} (hi : i < W.nodes.length) (h1 : H' (L.ns.getD i 0) = some (.dK (namesV l))) (off : ∀ b, b ≠ L.ns.getD i 0 → H' b = H b) : HouseAt K H' h L (W.put i { W.at i with names := l }) := by
  obtain ⟨dx, rt, z1, z2⟩ := (hh.nod i hi).ex
  refine hh.set hi ⟨⟨dx, rt, ?_, ?_⟩, h1⟩ fun b _ hb => off b hb
  · rw [off _ (hh.dAN (hh.mA hi) (hh.mN hi))]
    exact z1
  · rw [off]
    · exact z2
    · intro z
      rw [z, (hh.nod i hi).nam] at z2
      cases z2
theorem HouseAt.offN {K : PySem.W.Frag} {H H' : Hp} {h : Addr} {L : Lay} {W : Wd} (hh : HouseAt K H h L W) {i : Nat} (hi : i < W.nodes.length) (off : ∀ b, b ≠ L.ns.getD i 0 → H' b = H b) : Off (fp h L) H H' := fun a o ha hn => by
  rw [off a fun z => hn (by rw [z]; exact List.mem_cons_of_mem _ (List.mem_cons_of_mem _ (List.mem_cons_of_mem _ (List.mem_append_right _ (hh.mN hi)))))]
  exact ha
/-- all that a house writes to stands in the heap -/
theorem HouseAt.there {K : PySem.W.Frag} {H : Hp} {h : Addr} {L : Lay} {W : Wd} (hh : HouseAt K H h L W) {z : Addr} (hz : z ∈ fp h L) : ∃ o, H z = some o := by
  obtain ⟨dx, hoo⟩ := hh.obj
  unfold fp at hz
  simp only [List.mem_cons, List.mem_append] at hz
  rcases hz with rfl | rfl | rfl | hz | hz
  · exact ⟨_, hoo⟩
  · exact ⟨_, hh.nds⟩
  · exact ⟨_, hh.ovr⟩
  · obtain ⟨i, hi, rfl⟩ := List.mem_iff_getElem.mp hz
    obtain ⟨_, _, z1, _⟩ := (hh.nod i (by rw [← hh.la]; exact hi)).ex
    rw [List.getD_eq_getElem?_getD, List.getElem?_eq_getElem hi] at z1
    exact ⟨_, z1⟩
  · obtain ⟨i, hi, rfl⟩ := List.mem_iff_getElem.mp hz
    have z1 := (hh.nod i (by rw [← hh.ln]; exact hi)).nam
    rw [List.getD_eq_getElem?_getD, List.getElem?_eq_getElem hi] at z1
    exact ⟨_, z1⟩
/-- the house grew: what it writes to is old or new -/
def Grew (h : Addr) (L L' : Lay) (H : Hp) : Prop := (L'.nd = L.nd ∧ L'.ov = L.ov ∧ L'.g = L.g) ∧ ∀ a ∈ fp h L', a ∈ fp h L ∨ H a = none
theorem Grew.rfl {h : Addr} {L : Lay} {H : Hp} : Grew h L L H := ⟨⟨.refl _, .refl _, .refl _⟩, fun _ h => .inl h⟩
theorem Grew.back {h : Addr} {L L' : Lay} {H H' : Hp} (g : Grew h L L' H') (e : Ex H H') : Grew h L L' H := ⟨g.1, fun a ha => (g.2 a ha).imp id fun z => by
  cases y : H a with
  | none => rfl
  | some o => rw [e _ _ y] at z; cases z⟩
theorem Grew.add {h : Addr} {L : Lay} {H : Hp} {x nm : Addr} (hx : H x = none) (hn : H nm = none) : Grew h L (L.add x nm) H := ⟨⟨Eq.refl _, Eq.refl _, Eq.refl _⟩, fun a ha => by
  unfold fp Lay.add at ha
  simp only [List.mem_cons, List.mem_append, List.not_mem_nil, or_false] at ha
  unfold fp
  simp only [List.mem_cons, List.mem_append]
  rcases ha with h | h | h | (h | h) | (h | h)
  · exact .inl (.inl h)
  · exact .inl (.inr (.inl h))
  · exact .inl (.inr (.inr (.inl h)))
  · exact .inl (.inr (.inr (.inr (.inl h))))
  · rw [h]; exact .inr hx
  · exact .inl (.inr (.inr (.inr (.inr h))))
  · rw [h]; exact .inr hn⟩
theorem StandAt.out {K : PySem.W.Frag} {H : Hp} {h a : Addr} {L : Lay} {W : Wd} {s : Std} (hs : StandAt K H a s) (hh : HouseAt K H h L W) : a ∉ fp h L := fun hz => by
  obtain ⟨dx, hs⟩ := hs
  obtain ⟨dxh, hoo⟩ := hh.obj
  unfold fp at hz
  simp only [List.mem_cons, List.mem_append] at hz
  rcases hz with rfl | rfl | rfl | hz | hz
  · rw [hoo] at hs
    injection hs with hs
    injection hs with _ _ hs
    exact absurd (congrArg List.length hs) (by simp [houseF])
  · rw [hh.nds] at hs
    cases hs
  · rw [hh.ovr] at hs
    cases hs
  · obtain ⟨i, hi, rfl⟩ := List.mem_iff_getElem.mp hz
    obtain ⟨_, _, z1, _⟩ := (hh.nod i (by rw [← hh.la]; exact hi)).ex
    rw [List.getD_eq_getElem?_getD, List.getElem?_eq_getElem hi] at z1
    have z1 : H L.as[i] = _ := z1
    rw [hs] at z1
    injection z1 with z1
    injection z1 with _ _ z1
    exact absurd (congrArg List.length z1) (by simp [nodeF])
  · obtain ⟨i, hi, rfl⟩ := List.mem_iff_getElem.mp hz
    have z1 := (hh.nod i (by rw [← hh.ln]; exact hi)).nam
    rw [List.getD_eq_getElem?_getD, List.getElem?_eq_getElem hi] at z1
    have z1 : H L.ns[i] = _ := z1
    rw [hs] at z1
    cases z1
/-- stands are not touched by a house's writing -/
theorem StandsAt.off {K : PySem.W.Frag} {H H' : Hp} {h q : Addr} {L : Lay} {W : Wd} {ss : List Std} (hs : StandsAt K H q ss) (hh : HouseAt K H h L W) (hq : q ∉ fp h L) (o : Off (fp h L) H H') : StandsAt K H' q ss := by
  obtain ⟨as, h1, h2⟩ := hs
  refine ⟨as, o _ _ h1 hq, L2.Paired.mapP h2 fun a s z => ?_⟩
  have n := z.out hh
  obtain ⟨dx, z⟩ := z
  exact ⟨dx, o _ _ z n⟩
/-! ### stands are rooms -/
theorem overGo_room {W : Wd} (ok : W.Ok) : ∀ (m n : Nat) (u : Option Nat), (W.at n).kind = "room" → (W.at (overGo W.over m n u).1).kind = "room"
  | 0, n, u, hn => hn
  | m + 1, n, u, hn => by
    unfold overGo
    split
    · exact hn
    · rename_i k hk
      exact overGo_room ok m k _ (ok.ovr _ (look_mem hk)).2.2.2
theorem wayGo_room {W : Wd} (ok : W.Ok) {u : Int} {follow : Bool} : ∀ (m : Nat) (ss : List Std) (rest : List Str) (hints : Nat) {rs : List Std} {num : Option Nat}, (∀ z ∈ ss, (W.at z.number).kind = "room") → wayGo W u follow m ss rest hints = .ok rs num → ∀ z ∈ rs, (W.at z.number).kind = "room"
  | 0, _, _, _, _, _, _, h => by
    unfold wayGo at h
    cases h
  | m + 1, ss, [], _, rs, num, hn, h => by
    unfold wayGo at h
    cases h
    exact hn
  | m + 1, ss, part :: rest, hints, rs, num, hn, h => by
    unfold wayGo at h
    split at h
    · cases h
    · split at h
      · exact wayGo_room ok m _ _ _ (fun z hz => hn z (List.mem_of_mem_take hz)) h
      · split at h
        · exact wayGo_room ok m _ _ _ hn h
        · split at h
          · cases h
          · rename_i k hk
            split at h
            · split at h
              · cases h
              · refine wayGo_room ok m _ _ _ ?_ h
                intro z hz
                split at hz
                · exact hn z (List.mem_of_mem_take hz)
                · exact hn z hz
            · split at h
              · rename_i hr
                refine wayGo_room ok m _ _ _ (fun z hz => ?_) h
                rcases List.mem_append.mp hz with hz | hz
                · exact hn z hz
                · rw [List.mem_singleton.mp hz]
                  exact overGo_room ok _ _ _ hr
              · split at h
                · cases h
                · cases h
                  exact hn
theorem wayOf_room {W : Wd} (ok : W.Ok) {u : Int} {follow : Bool} {ps : List Str} {ss : List Std} {num : Option Nat} (h : wayOf W u follow ps = .ok ss num) : ∀ z ∈ ss, (W.at z.number).kind = "room" :=
  wayGo_room ok _ _ _ _ (fun z hz => by rw [List.mem_singleton.mp hz]; exact ok.top) h
theorem last_mem {ss : List Std} (h0 : ss ≠ []) : last ss ∈ ss := by
  unfold last
  rw [List.getLastD_eq_getLast?, List.getLast?_eq_some_getLast h0]
  exact List.getLast_mem h0
theorem place_room {W : Wd} (ok : W.Ok) {u : Int} {v : V} {ss : List Std} {n : Str} (h : placeV W u v = .ok ss n) : (W.at (last ss).number).kind = "room" := by
  have h0 := (place_ok ok h).1
  cases v with
  | str s =>
    unfold placeV at h
    dsimp only at h
    split at h
    · cases h
    · rename_i ps m hs
      generalize hw : wayOf W u true ps = R at h
      cases R with
      | stuck => cases h
      | err e => cases h
      | ok ts num =>
        cases num with
        | some k => cases h
        | none =>
          have h : (if mayOf W u (last ts).number 3 = true then PlR.ok ts m else .err (.right u (last ts).number)) = .ok ss n := h
          split at h
          · cases h
            exact wayOf_room ok hw _ (last_mem h0)
          · cases h
  | _ => cases h
/-! ### the world stays well -/
theorem look_none {α β : Type} [DecidableEq α] {k : α} : ∀ {l : List (α × β)}, look k l = none → k ∉ l.map (·.1)
  | [], _ => by simp
  | (a, b) :: r, h => by
    unfold look at h
    by_cases e : a = k
    · rw [if_pos e] at h
      cases h
    · rw [if_neg e] at h
      intro z
      rw [List.map_cons] at z
      rcases List.mem_cons.mp z with z | z
      · exact e z.symm
      · exact look_none h z
structure Nd.New (d : Nd) : Prop where
  nam : d.names = []
  hnt : d.kind = "hint" → ∃ ps, partsOf false d.text = some ps
  txt : d.text.length ≤ 200
  rts : (0 ≤ d.r0 ∧ d.r0 ≤ 7) ∧ (0 ≤ d.r1 ∧ d.r1 ≤ 7) ∧ (0 ≤ d.r2 ∧ d.r2 ≤ 7)
  knd : d.kind = "room" ∨ d.kind = "leaf" ∨ d.kind = "hint"
theorem Wd.mem_at {W : Wd} {d : Nd} (h : d ∈ W.nodes) : ∃ i, i < W.nodes.length ∧ W.at i = d := by
  obtain ⟨i, hi, e⟩ := List.mem_iff_getElem.mp h
  refine ⟨i, hi, ?_⟩
  unfold Wd.at
  rw [List.getD_eq_getElem?_getD, List.getElem?_eq_getElem hi]
  exact e
theorem made_ok {W : Wd} (ok : W.Ok) {r : Nat} {n : Str} {d : Nd} (hr : r < W.nodes.length) (hk : (W.at r).kind = "room") (hn : isName n = true) (hl : look n (W.at r).names = none) (hd : d.New) : (madeW W r n d).Ok := by
  have len : (madeW W r n d).nodes.length = W.nodes.length + 1 := by
    unfold madeW
    rw [Wd.len_put, Wd.add_len]
  have hr' : r < (W.add d).nodes.length := by rw [Wd.add_len]; omega
  have at_ : ∀ j, (madeW W r n d).at j = if j = r then (W.at r).name n W.nodes.length else (W.add d).at j := fun j => Wd.at_put hr'
  have atO : ∀ j, j < W.nodes.length → j ≠ r → (madeW W r n d).at j = W.at j := fun j hj hne => by rw [at_, if_neg hne, Wd.add_at hj]
  have kin : ∀ j, j < W.nodes.length → ((madeW W r n d).at j).kind = (W.at j).kind := fun j hj => by
    by_cases e : j = r
    · rw [at_, if_pos e, e]
      rfl
    · rw [atO j hj e]
  refine ⟨ok.grp, by omega, ?_, ?_, ?_, ok.odup, ok.end_⟩
  · rw [kin 0 ok.one]
    exact ok.top
  · intro e he
    obtain ⟨j, hj, rfl⟩ := Wd.mem_at he
    rw [len] at hj
    rw [at_]
    by_cases ej : j = r
    · rw [if_pos ej]
      have o := ok.at hr
      refine ⟨fun p hp => ?_, ?_, o.hnt, o.txt, o.rts, o.knd, fun z => (z hk).elim⟩
      · rcases List.mem_append.mp hp with hp | hp
        · have := o.nam p hp
          exact ⟨this.1, by rw [len]; omega⟩
        · rw [List.mem_singleton.mp hp]
          exact ⟨hn, by rw [len]; show W.nodes.length < _; omega⟩
      · show (((W.at r).names ++ [(n, W.nodes.length)]).map (·.1)).Nodup
        rw [List.map_append]
        refine List.nodup_append.mpr ⟨o.dup, by simp, fun a ha b hb => ?_⟩
        rw [List.map_singleton, List.mem_singleton] at hb
        intro z
        rw [z, hb] at ha
        exact look_none hl ha
    · rw [if_neg ej]
      by_cases e : j < W.nodes.length
      · rw [Wd.add_at e]
        have o := ok.at e
        exact ⟨fun p hp => ⟨(o.nam p hp).1, by have := (o.nam p hp).2; omega⟩, o.dup, o.hnt, o.txt, o.rts, o.knd, o.lf⟩
      · have : j = W.nodes.length := by omega
        subst this
        rw [Wd.add_new]
        exact ⟨fun p hp => (by rw [hd.nam] at hp; cases hp), (by rw [hd.nam]; simp), hd.hnt, hd.txt, hd.rts, hd.knd, fun _ => hd.nam⟩
  · intro p hp
    have := ok.ovr p hp
    exact ⟨by omega, by omega, by rw [kin _ this.1]; exact this.2.2.1, by rw [kin _ this.2.1]; exact this.2.2.2⟩
theorem made_small {W : Wd} {r m : Nat} {n : Str} {d : Nd} (h : W.Small m) (hr : r < W.nodes.length) (hd : d.names = []) : (madeW W r n d).Small (m + 1) := by
  have hr' : r < (W.add d).nodes.length := by rw [Wd.add_len]; omega
  refine ⟨?_, fun i => ?_⟩
  · unfold madeW
    rw [Wd.len_put, Wd.add_len]
    have := h.1
    omega
  · unfold madeW
    rw [Wd.at_put hr']
    split
    · show ((W.at r).names ++ [_]).length ≤ _
      rw [List.length_append]
      have := h.2 r
      simp
      omega
    · by_cases e : i < W.nodes.length
      · rw [Wd.add_at e]
        have := h.2 i
        omega
      · by_cases e2 : i = W.nodes.length
        · rw [e2, Wd.add_new, hd]
          simp
        · have : (W.add d).at i = nd0 := by
            unfold Wd.at
            rw [List.getD_eq_getElem?_getD, List.getElem?_eq_none (by rw [Wd.add_len]; omega)]
            rfl
          rw [this]
          exact Nat.zero_le _
/-- the text of the new node -/
theorem made_text {W : Wd} {r : Nat} {n : Str} {d : Nd} {t : Str} (hr : r < W.nodes.length) : (madeW W r n d).put W.nodes.length { (madeW W r n d).at W.nodes.length with text := t } = madeW W r n { d with text := t } := by
  have hr' : r < (W.add d).nodes.length := by rw [Wd.add_len]; omega
  have ea : (madeW W r n d).at W.nodes.length = d := by
    unfold madeW
    rw [Wd.at_put hr', if_neg (by omega), Wd.add_new]
  rw [ea]
  unfold madeW Wd.put Wd.add
  simp only [Wd.mk.injEq, true_and, and_true]
  rw [List.set_append_left _ _ hr, List.set_append_left _ _ hr, List.set_append_right _ _ (by rw [List.length_set]; omega), List.length_set, Nat.sub_self]
  rfl
/-- what a deed of making asks first: the user, the rights; then the place -/
inductive MkR where
  | err (e : Err)
  | ok (ss : List Std) (n : Str)
def ofPl : PlR → MkR
  | .err e => .err e
  | .ok ss n => .ok ss n
def userB (W : Wd) (v : V) : Bool := smallV v (W.groups.length - 1)
def userI (v : V) : Int := match v with
  | .int i => i
  | _ => 0
def roomV (W : Wd) (H : Hp) (vu vp vr : V) : MkR := if userB W vu = false then .err (.no 3) else if rightsB H vr = false then .err (.no 2) else ofPl (freeV W (userI vu) vp)
theorem userB_int {W : Wd} (ok : W.Ok) {v : V} (h : userB W v = true) : ∃ u, v = .int u ∧ userI v = u ∧ 0 ≤ u ∧ u < W.groups.length := by
  cases v with
  | int i =>
    have h : (decide (0 ≤ i) && decide (i ≤ (W.groups.length : Int) - 1)) = true := h
    rw [Bool.and_eq_true, decide_eq_true_eq, decide_eq_true_eq] at h
    exact ⟨i, rfl, rfl, h.1, by omega⟩
  | _ => cases h
/-- a field of node i is written -/
theorem HouseAt.setF {K : PySem.W.Frag} {H : Hp} {h : Addr} {L : Lay} {W : Wd} {R : Hp → Prop} (hh : HouseAt K H h L W) (CK : ClsK K) {i : Nat} (hi : i < W.nodes.length) {f : Str} {y : V} (d : Nd) (hf : NoAttr K (cNode K) f) (e : ∀ nm rt, putF f y (nodeF (W.at i) nm rt) = nodeF d nm rt) (en : d.names = (W.at i).names) (er : rtsV d = rtsV (W.at i))
    (q : ∀ H', HouseAt K H' h L (W.put i d) → Off (fp h L) H H' → R H') : FSetK K (.ref (L.as.getD i 0)) f y H R := by
  obtain ⟨dx, rt, h1, h2⟩ := (hh.nod i hi).ex
  have h3 := (hh.nod i hi).nam
  refine x_fsetE (nodeF d (L.ns.getD i 0) rt) h1 CK.n hf (fun H' z1 z2 => ?_) (e _ _) (by simp [nodeF])
  have na := hh.dAN (hh.mA hi) (hh.mN hi)
  refine q H' (hh.set hi ⟨⟨dx, rt, z1, ?_⟩, ?_⟩ fun b hb _ => z2 b hb) (fun b o hb hn => ?_)
  · have nr : rt ≠ L.as.getD i 0 := fun z => by
      rw [z, h1] at h2
      cases h2
    rw [z2 rt nr, er]
    exact h2
  · rw [z2 _ na.symm, en]
    exact h3
  · rw [z2 b fun z => hn (by rw [z]; exact List.mem_cons_of_mem _ (List.mem_cons_of_mem _ (List.mem_cons_of_mem _ (List.mem_append_left _ (hh.mA hi)))))]
    exact hb
theorem text_len {b : Bool} {s : Str} {ps : List Str} (h : partsOf b s = some ps) : s.length ≤ 200 := by
  have g := parts_good h
  have r1 : s.length ≤ (restOf s).length + 1 := by
    unfold restOf
    split
    · have h1 : (SX.S ((cs s).drop 1)).length = (cs s).length - 1 := by rw [SX.S_len, List.length_drop]
      have h2 := len_cs s
      rw [slice1', h1]
      omega
    · omega
  unfold partsOf at h
  split at h
  · cases h
  · split at h
    · rename_i hh
      rw [hh.2]
      exact Nat.le_of_lt (by decide +kernel)
    · split at h
      · cases h
        have e : Str.join sl (Txt.split (restOf s) sl) = restOf s := StrLaws.join_split (restOf s) sl
        have e2 : Txt.join sl (Txt.split (restOf s) sl) = Str.join sl (Txt.split (restOf s) sl) := TL.join_eq sl _
        have := join_len g
        rw [e2, e] at this
        omega
      · cases h
def goalOf (v : V) : Option (List Str) := match v with
  | .str s => partsOf false s
  | _ => none
def strS (v : V) : Str := match v with
  | .str s => s
  | _ => ""
def hintV (W : Wd) (vu vp vg : V) : MkR := if userB W vu = false then .err (.no 3) else if (goalOf vg).isSome = false then .err (.no 0) else ofPl (freeV W (userI vu) vp)
def hintNd (W : Wd) (vu vg : V) : Nd := { newNd W "hint" (userI vu) 7 7 7 with text := strS vg }
theorem smalls_ints {m : Int} : ∀ {xs : List V}, (xs.all fun x => smallV x m) = true → ∃ gs : List Int, xs = gs.map V.int
  | [], _ => ⟨[], rfl⟩
  | x :: r, h => by
    rw [List.all_cons, Bool.and_eq_true] at h
    obtain ⟨gs, e⟩ := smalls_ints h.2
    cases x with
    | int i => exact ⟨i :: gs, by rw [e]; rfl⟩
    | _ => cases h.1
/-! ### looks -/
inductive Res (α : Type) where
  | err (e : Err)
  | ok (a : α)
def wayV (W : Wd) (u : Int) (follow : Bool) (v : V) : Res (List Std × Option Nat) := match v with
  | .str s => match partsOf true s with
    | none => .err (.no 0)
    | some ps => match wayOf W u follow ps with
      | .stuck => .err (.no 0)
      | .err e => .err e
      | .ok ss num => .ok (ss, num)
  | _ => .err (.no 0)
def atR (W : Wd) (vu v : V) (follow : Bool) : Res (List Std × Option Nat) := if userB W vu = false then .err (.no 3) else wayV W (userI vu) follow v
/-- where a walk ends -/
def endNum (ss : List Std) (num : Option Nat) : Nat := num.getD (last ss).number
theorem wayV_ok {W : Wd} {u : Int} {follow : Bool} {v : V} {ss : List Std} {num : Option Nat} (h : wayV W u follow v = .ok (ss, num)) : ∃ ps, wayOf W u follow ps = .ok ss num := by
  unfold wayV at h
  split at h
  · split at h
    · cases h
    · rename_i ps _
      split at h
      · cases h
      · cases h
      · rename_i hw
        cases h
        exact ⟨ps, hw⟩
  · cases h
theorem endV_lt {W : Wd} (ok : W.Ok) {u : Int} {follow : Bool} {v : V} {ss : List Std} {num : Option Nat} (h : wayV W u follow v = .ok (ss, num)) : endNum ss num < W.nodes.length := by
  obtain ⟨ps, hw⟩ := wayV_ok h
  have o := wayOf_ok ok hw
  cases num with
  | none => exact last_lt o.1 o.2.1
  | some k => exact o.2.2 k rfl
theorem wayV_str {W : Wd} {u : Int} {follow : Bool} {s : Str} {ps : List Str} (h : partsOf true s = some ps) : (∀ e, wayOf W u follow ps = .err e → wayV W u follow (.str s) = .err e) ∧ ∀ ss num, wayOf W u follow ps = .ok ss num → wayV W u follow (.str s) = .ok (ss, num) := by
  refine ⟨fun e he => ?_, fun ss num he => ?_⟩
  · unfold wayV
    simp only [h, he]
  · unfold wayV
    simp only [h, he]
theorem wayV_no {W : Wd} {u : Int} {follow : Bool} {v : V} (h : ∀ s ps, v = .str s → partsOf true s ≠ some ps) : wayV W u follow v = .err (.no 0) := by
  cases v with
  | str s =>
    unfold wayV
    cases hp : partsOf true s with
    | none => simp only [hp]
    | some ps => exact (h s ps rfl hp).elim
  | _ => rfl
/-! ### fields of a kept error -/
structure XfK5 (K : PySem.W.Frag) : Prop where
  r : XfC K (errC K 4)
  n : XfC K (errC K 5)
  rn : PySem.W.findIn K (.ref (errC K 4)) "number" = some none
  nn : PySem.W.findIn K (.ref (errC K 5)) "name" = some none
theorem xfK5B_ok {K : PySem.W.Frag} (h : xfK5B K = true) : XfK5 K := by
  unfold xfK5B at h
  simp only [Bool.and_eq_true, decide_eq_true_eq] at h
  exact ⟨xfB_ok h.1, xfB_ok h.2.1, h.2.2.1, h.2.2.2⟩
def XfAt (K : PySem.W.Frag) (x : V) (f : Str) (H : Hp) (Q : VK) : Prop := ∃ (a C dd : Addr) (fs : List (Str × V)) (v : V), x = .ref a ∧ H a = some (Caught (.ref C) (some dd) a) ∧ H dd = some (.xd fs) ∧ fs.lookup f = some v ∧ XfC K C ∧ PySem.W.findIn K (.ref C) f = some none ∧ Q v H
def tXfK (K : PySem.W.Frag) (f : Str) (te : TE) : TE := fun σ H Q => te σ H fun x H1 => XfAt K x f H1 Q
theorem pe_xfK {X : Cx} {e : Expr} {te : TE} {pos : Pos} {n : Str} (he : PE X e te) (hb : attributeBase e n X.env (eval e X.env) = eval e X.env := by rfl) : PE X (.Attribute e n pos) (tXfK X.K n te) := by
  refine ⟨fun pins s σ H Q I h => ?_⟩
  refine attr_of hb (thn (he.run pins s σ H _ I h) fun u s1 hh => ?_)
  obtain ⟨x, H1, I1, rx, a, C, dd, fs, v, ex, ea, ed, l, T, hno, q⟩ := hh
  subst ex
  obtain rfl : u = Value.ref a := rx
  obtain ⟨oe, vs, ha, hz, hf⟩ := caught_at I1.hok ea
  have hx : ObjOk X.prog X.w H1 s1.heap dd (.xd fs) := I1.hok dd _ ed
  obtain ⟨mA, hns, hr⟩ := hx
  obtain ⟨od, ho, hl⟩ := lookIn_ns hns
  obtain ⟨u, hu, ru⟩ := RelO.some_of (v := v) (o := mA n) (by rw [← l]; exact hr n)
  have J : PySem.W.InstAt s1.heap a oe C (some od) := ⟨ha, hz.1, by unfold PySem.W.notCls; rw [hf] <;> rfl, by rw [hz.2]; exact ho⟩
  exact HandSPX.exc_get I1.kIn J T.ga T.gg T.exC (PySem.W.findObj_own T.hdC hno rfl (by rw [hl, hu])) (handed_of ru) ⟨v, H1, I1.tok _, ru, q⟩
theorem x_xf {K : PySem.W.Frag} {f : Str} {te : TE} {σ : L2.St} {H : Hp} {Q : VK} (q : te σ H fun x H1 => XfAt K x f H1 Q) : tXfK K f te σ H Q := q
/-- what the laws tell of an error -/
def errIx : Err → Nat
  | .no i => i
  | .right _ _ => 4
  | .name _ => 5
def errV : Err → V
  | .no _ => .non
  | .right _ n => .int n
  | .name s => .str s
def Err.Plain : Err → Prop
  | .no i => i < 13 ∧ i ≠ 4 ∧ i ≠ 5
  | _ => True
theorem errAt_cls {K : PySem.W.Frag} {e : Err} {cls : Value} {d : Option Addr} {H : Hp} (h : ErrAt K e cls d H) : cls = .ref (errC K (errIx e)) ∧ Dct H d := by
  cases e with
  | no i => exact ⟨h.1, .inl h.2⟩
  | right u n =>
    obtain ⟨h1, dd, h2, h3⟩ := h
    exact ⟨h1, .inr ⟨dd, _, h2, h3⟩⟩
  | name s =>
    obtain ⟨h1, dd, h2, h3⟩ := h
    exact ⟨h1, .inr ⟨dd, _, h2, h3⟩⟩
theorem ErrAt.up {K : PySem.W.Frag} {e : Err} {cls : Value} {d : Option Addr} {H H' : Hp} (h : ErrAt K e cls d H) (x : Ex H H') : ErrAt K e cls d H' := by
  cases e with
  | no i => exact h
  | right u n =>
    obtain ⟨h1, dd, h2, h3⟩ := h
    exact ⟨h1, dd, h2, x _ _ h3⟩
  | name s =>
    obtain ⟨h1, dd, h2, h3⟩ := h
    exact ⟨h1, dd, h2, x _ _ h3⟩
theorem errIx_lt {e : Err} (h : e.Plain) : errIx e < 13 := by
  cases e with
  | no i => exact h.1
  | right u n => exact (show (4 : Nat) < 13 by decide)
  | name s => exact (show (5 : Nat) < 13 by decide)
theorem Dct.ex {H H' : Hp} {d : Option Addr} (h : Dct H d) (e : Ex H H') : Dct H' d := by
  rcases h with h | ⟨dd, fs, h1, h2⟩
  · exact .inl h
  · exact .inr ⟨dd, fs, h1, e _ _ h2⟩
/-! ### errors are plain -/
theorem wayGo_plain {W : Wd} {u : Int} {follow : Bool} : ∀ (m : Nat) (ss : List Std) (rest : List Str) (hints : Nat) {e : Err}, wayGo W u follow m ss rest hints = .err e → e.Plain
  | 0, _, _, _, _, h => by
    unfold wayGo at h
    cases h
  | m + 1, ss, [], _, _, h => by
    unfold wayGo at h
    cases h
  | m + 1, ss, part :: rest, hints, e, h => by
    unfold wayGo at h
    split at h
    · cases h
      exact trivial
    · split at h
      · exact wayGo_plain m _ _ _ h
      · split at h
        · exact wayGo_plain m _ _ _ h
        · split at h
          · cases h
            exact trivial
          · split at h
            · split at h
              · cases h
                exact (show (10 : Nat) < 13 ∧ (10 : Nat) ≠ 4 ∧ (10 : Nat) ≠ 5 by decide)
              · exact wayGo_plain m _ _ _ h
            · split at h
              · exact wayGo_plain m _ _ _ h
              · split at h
                · cases h
                  exact (show (6 : Nat) < 13 ∧ (6 : Nat) ≠ 4 ∧ (6 : Nat) ≠ 5 by decide)
                · cases h
theorem plain0 : (Err.no 0).Plain := (show (0 : Nat) < 13 ∧ (0 : Nat) ≠ 4 ∧ (0 : Nat) ≠ 5 by decide)
theorem place_plain {W : Wd} {u : Int} {v : V} {e : Err} (h : placeV W u v = .err e) : e.Plain := by
  cases v with
  | str s =>
    unfold placeV at h
    dsimp only at h
    split at h
    · cases h
      exact plain0
    · rename_i ps m hs
      generalize hw : wayOf W u true ps = R at h
      cases R with
      | stuck =>
        cases h
        exact plain0
      | err e' =>
        cases h
        exact wayGo_plain _ _ _ _ hw
      | ok ts num =>
        cases num with
        | some k =>
          cases h
          exact (show (6 : Nat) < 13 ∧ (6 : Nat) ≠ 4 ∧ (6 : Nat) ≠ 5 by decide)
        | none =>
          have h : (if mayOf W u (last ts).number 3 = true then PlR.ok ts m else .err (.right u (last ts).number)) = .err e := h
          split at h
          · cases h
          · cases h
            exact trivial
  | _ => cases h; exact plain0
theorem free_plain {W : Wd} {u : Int} {v : V} {e : Err} (h : freeV W u v = .err e) : e.Plain := by
  unfold freeV at h
  generalize hp : placeV W u v = R at h
  cases R with
  | err e' =>
    cases h
    exact place_plain hp
  | ok ts m =>
    dsimp only at h
    split at h
    · cases h
      exact (show (9 : Nat) < 13 ∧ (9 : Nat) ≠ 4 ∧ (9 : Nat) ≠ 5 by decide)
    · cases h
theorem ofPl_err {r : PlR} {e : Err} (h : ofPl r = .err e) : r = .err e := by
  cases r with
  | err e' => cases h; rfl
  | ok _ _ => cases h
theorem plain1 : (Err.no 1).Plain := (show (1 : Nat) < 13 ∧ (1 : Nat) ≠ 4 ∧ (1 : Nat) ≠ 5 by decide)
theorem plain2 : (Err.no 2).Plain := (show (2 : Nat) < 13 ∧ (2 : Nat) ≠ 4 ∧ (2 : Nat) ≠ 5 by decide)
theorem plain3 : (Err.no 3).Plain := (show (3 : Nat) < 13 ∧ (3 : Nat) ≠ 4 ∧ (3 : Nat) ≠ 5 by decide)
def leafV (W : Wd) (H : Hp) (vu vp vt vr : V) : MkR := if userB W vu = false then .err (.no 3) else if textB vt = false then .err (.no 1) else if rightsB H vr = false then .err (.no 2) else ofPl (freeV W (userI vu) vp)
def leafNd (W : Wd) (vu vt : V) (r0 r1 r2 : Int) : Nd := { newNd W "leaf" (userI vu) r0 r1 r2 with text := strS vt }
def makeR (W : Wd) (H : Hp) (kind : Str) (vu vp vr vt : V) : MkR := if kind = "room" then roomV W H vu vp vr else if kind = "leaf" then leafV W H vu vp vt vr else hintV W vu vp vt
def rtOf (H : Hp) (v : V) : List Int := match v with
  | .ref a => match H a with
    | some (.tup [.int a, .int b, .int c]) => [a, b, c]
    | _ => []
  | _ => []
def makeNd (W : Wd) (H : Hp) (kind : Str) (vu vr vt : V) : Nd := let r := rtOf H vr; if kind = "room" then newNd W "room" (userI vu) (r.getD 0 0) (r.getD 1 0) (r.getD 2 0) else if kind = "leaf" then leafNd W vu vt (r.getD 0 0) (r.getD 1 0) (r.getD 2 0) else hintNd W vu vt
theorem make_plain {W : Wd} {H : Hp} {kind : Str} {vu vp vr vt : V} {e : Err} (h : makeR W H kind vu vp vr vt = .err e) : e.Plain := by
  unfold makeR at h
  split at h
  · unfold roomV at h
    split at h
    · cases h; exact plain3
    · split at h
      · cases h; exact plain2
      · exact free_plain (ofPl_err h)
  · split at h
    · unfold leafV at h
      split at h
      · cases h; exact plain3
      · split at h
        · cases h; exact plain1
        · split at h
          · cases h; exact plain2
          · exact free_plain (ofPl_err h)
    · unfold hintV at h
      split at h
      · cases h; exact plain3
      · split at h
        · cases h; exact plain0
        · exact free_plain (ofPl_err h)
end Tm

/-! the least of texts -/
namespace Tm
open PySem PySem.Spec PyProof.Rows L2 PySem.SeqAt
theorem minD_strs : ∀ (xs : List Str) (x : Str), ∃ y, PySem.W.minD (.str x) (xs.map PyData.str) = .str y ∧ y ∈ x :: xs
  | [], x => ⟨x, rfl, List.mem_cons_self ..⟩
  | z :: r, x => by
    unfold PySem.W.minD
    rw [List.map_cons, List.foldl_cons]
    cases h : PySem.W.dataLt (.str z) (.str x) with
    | true =>
      obtain ⟨y, h1, h2⟩ := minD_strs r z
      exact ⟨y, h1, List.mem_cons_of_mem _ h2⟩
    | false =>
      obtain ⟨y, h1, h2⟩ := minD_strs r x
      refine ⟨y, h1, ?_⟩
      rcases List.mem_cons.mp h2 with e | e
      · rw [e]
        exact List.mem_cons_self ..
      · exact List.mem_cons_of_mem _ (List.mem_cons_of_mem _ e)
theorem depth_strs : ∀ xs : List Str, PyData.depthAll (xs.map PyData.str) ≤ 1
  | [] => by simp [PyData.depthAll]
  | x :: r => by
    have := depth_strs r
    simp [PyData.depthAll, PyData.depth]
    omega
def rMinS (K : PySem.W.Frag) : List V → Hp → VK → Prop := fun vs H Q => ∃ (a : Addr) (x : Str) (xs : List Str), vs = [V.ref a] ∧ SqL K H a ((x :: xs).map V.str) ∧ ∀ y, PySem.W.minD (.str x) (xs.map PyData.str) = .str y → y ∈ x :: xs → Q (.str y) H
theorem cr_minS {X : Cx} (hc : X.calm = true) (hu : X.A.units + 64 < cLine) : CallR X (.builtin "min") (rMinS X.K) := by
  intro pins s σ H vs us Q I r h
  obtain ⟨a, x, xs, rfl, hs, q⟩ := h
  obtain ⟨its, rv, hl, hz⟩ := I.list hs
  rw [Vals.ref1 r]
  obtain ⟨as, hr⟩ := Dp.readsAll I ((x :: xs).map PyData.str) _ its (dp_strs _) rv
  obtain ⟨y, hy, hm⟩ := minD_strs xs x
  have hd := depth_strs (x :: xs)
  refine PySem.W.min_list_data (I.ok.hd hc) hl.isList (x := .str x) (xs := xs.map PyData.str) hr ⟨fun u hu v hv => ?_, fun u hu => ?_⟩ (by show X.A.units + 1 + PyData.depthAll ((x :: xs).map PyData.str) < cLine; omega) fun i v h' tk bs hv hR hk => ?_
  · obtain ⟨u', _, rfl⟩ := List.mem_map.mp (show u ∈ (x :: xs).map PyData.str from hu)
    obtain ⟨v', _, rfl⟩ := List.mem_map.mp (show v ∈ (x :: xs).map PyData.str from hv)
    rfl
  · obtain ⟨u', _, rfl⟩ := List.mem_map.mp (show u ∈ (x :: xs).map PyData.str from hu)
    exact fun z => nomatch z
  · rw [hy] at hR
    cases hR with
    | str => exact ⟨.str y, H, I.kept hk, ⟨_, rfl⟩, q y hy hm⟩
/-! ### a comprehension over a dict's keys -/
theorem x_lcK {td : TE} {tt : TT} {tel : TE} {j : Nat} {vs : List Nat} {σ : L2.St} {H : Hp} {Q : VK} {d : Addr} {kvs : List (Key × V)} (hv : ∀ H' (R : VK), R (.ref d) H' → td σ H' R) (hd : H d = some (.dK kvs)) (hw : ∀ x, wipe ((wipe σ vs).set j (some x)) vs = wipe σ vs) (hz : kvs.length ≤ 100000) (p : V → Bool) (f : V → V)
    (ht : ∀ x ∈ kvs.map (fun kv => kV kv.1), ∀ H', Rd H' d (.dK kvs) → ∀ R : Bool → Hp → Prop, (∀ H2, Ex H' H2 → R (p x) H2) → tt ((wipe σ vs).set j (some x)) H' R)
    (he : ∀ x ∈ kvs.map (fun kv => kV kv.1), p x = true → ∀ H', Rd H' d (.dK kvs) → ∀ R : VK, (∀ H2, Ex H' H2 → R (f x) H2) → tel ((wipe σ vs).set j (some x)) H' R)
    (q : ∀ D H', H D = none → Ex H H' → H' D = some (.lst (((kvs.map fun kv => kV kv.1).filter p).map f)) → Q (.ref D) H') : tLockE (tLc (iKeys td) (gName j) tt tel vs) σ H Q := by
  refine ⟨d, .dK kvs, hd, trivial, fun od => ?_⟩
  have hf : upd H d (.frz od (.dK kvs)) d = some (.frz od (.dK kvs)) := upd_same
  refine hv _ _ ⟨d, od, rfl, .inl ⟨kvs, hf, ?_⟩⟩
  have hl : (kvs.map fun kv => kV kv.1).length = kvs.length := List.length_map ..
  refine lc_cmp (J := Itk d od kvs) (Q := fun v H' => H' d = some (.frz od (.dK kvs)) ∧ Q v (upd H' d (.dK kvs))) (G := fun H' => H' d = some (.frz od (.dK kvs))) (xs := kvs.map fun kv => kV kv.1) ?_ (fun H' e => e _ _ hf) ⟨hw, by rw [hl]; exact hz, p, f, fun x hx H' e R k => ht x hx H' (.inr ⟨od, e _ _ hf⟩) R k, fun x hx hp H' e R k => he x hx hp H' (.inr ⟨od, e _ _ hf⟩) R k, fun D H' hD e hD' => ?_⟩
  · rw [hl]
    refine walk_keys.mono (fun _ h => h) fun i H x H' _ _ h => ⟨h.1, ?_⟩
    obtain ⟨_, k, v, h1, rfl⟩ := h
    rw [List.getElem?_map, h1]
    rfl
  · have nD : D ≠ d := fun z => by rw [z, hf] at hD; cases hD
    refine ⟨e _ _ hf, q D _ (by rw [upd_ne nD] at hD; exact hD) (fun b o hb => ?_) (by rw [upd_ne nD]; exact hD')⟩
    by_cases hbd : b = d
    · subst hbd
      rw [hd] at hb
      cases hb
      exact upd_same
    · rw [upd_ne hbd]
      exact e _ _ (by rw [upd_ne hbd]; exact hb)
/-! ### names of stands; what is found at the end -/
theorem wayGo_names {W : Wd} (ok : W.Ok) {u : Int} {follow : Bool} : ∀ (m : Nat) (ss : List Std) (rest : List Str) (hints : Nat) {rs : List Std} {num : Option Nat}, ss ≠ [] → (∀ z ∈ ss, z.number < W.nodes.length) → (∀ z ∈ ss.tail, isName z.name = true) → wayGo W u follow m ss rest hints = .ok rs num →
    (∀ z ∈ rs.tail, isName z.name = true) ∧ ∀ k, num = some k → ∃ part, look part (W.at (last rs).number).names = some k
  | 0, _, _, _, _, _, _, _, _, h => by
    unfold wayGo at h
    cases h
  | m + 1, ss, [], _, rs, num, _, _, hn, h => by
    unfold wayGo at h
    cases h
    exact ⟨hn, fun k z => nomatch z⟩
  | m + 1, ss, part :: rest, hints, rs, num, hne, hlt, hn, h => by
    have hpos := List.length_pos_iff.mpr hne
    have hl := last_lt hne hlt
    have tk : ∀ n, 0 < n → ss.take n ≠ [] := fun n h0 z => by
      have := congrArg List.length z
      rw [List.length_take, List.length_nil] at this
      omega
    have tl : ∀ n, ∀ z ∈ (ss.take n).tail, isName z.name = true := fun n z hz => by
      refine hn z ?_
      cases ss with
      | nil => exact (hne rfl).elim
      | cons a r =>
        cases n with
        | zero => cases hz
        | succ n => exact List.mem_of_mem_take (show z ∈ r.take n from hz)
    unfold wayGo at h
    split at h
    · cases h
    · split at h
      · exact wayGo_names ok m _ _ _ (tk _ (by omega)) (fun z hz => hlt z (List.mem_of_mem_take hz)) (tl _) h
      · split at h
        · exact wayGo_names ok m _ _ _ hne hlt hn h
        · split at h
          · cases h
          · rename_i k hk
            have hm := (ok.at hl).nam _ (look_mem hk)
            split at h
            · split at h
              · cases h
              · refine wayGo_names ok m _ _ _ ?_ ?_ ?_ h
                · split
                  · exact tk 1 (by omega)
                  · exact hne
                · intro z hz
                  split at hz
                  · exact hlt z (List.mem_of_mem_take hz)
                  · exact hlt z hz
                · intro z hz
                  split at hz
                  · exact tl 1 z hz
                  · exact hn z hz
            · split at h
              · refine wayGo_names ok m _ _ _ (by simp) (fun z hz => ?_) (fun z hz => ?_) h
                · rcases List.mem_append.mp hz with hz | hz
                  · exact hlt z hz
                  · rw [List.mem_singleton.mp hz]
                    exact stand_lt ok part hm.2
                · cases ss with
                  | nil => exact (hne rfl).elim
                  | cons a r =>
                    have hz : z ∈ r ++ [standOf W k part] := hz
                    rcases List.mem_append.mp hz with hz | hz
                    · exact hn z hz
                    · rw [List.mem_singleton.mp hz]
                      exact hm.1
              · split at h
                · cases h
                · cases h
                  exact ⟨hn, fun k' z => by cases z; exact ⟨part, hk⟩⟩
theorem wayOf_names {W : Wd} (ok : W.Ok) {u : Int} {follow : Bool} {ps : List Str} {ss : List Std} {num : Option Nat} (h : wayOf W u follow ps = .ok ss num) : (∀ z ∈ ss.tail, isName z.name = true) ∧ ∀ k, num = some k → ∃ part, look part (W.at (last ss).number).names = some k :=
  wayGo_names ok _ _ _ _ (by simp) (fun z hz => by rw [List.mem_singleton.mp hz]; exact ok.one) (fun z hz => by cases hz) h
/-- the least of some texts -/
def minName : List Str → Str
  | [] => ""
  | x :: xs => match PySem.W.minD (.str x) (xs.map PyData.str) with
    | .str y => y
    | _ => ""
/-- the names of k in a room, as they stand -/
def namesOf (l : List (Str × Nat)) (k : Nat) : List Str := (l.map (·.1)).filter fun n => decide (look n l = some k)
def trueR (W : Wd) (vu v : V) : Res (List Str) := match atR W vu v true with
  | .err e => .err e
  | .ok (ss, none) => .ok (ss.tail.map (·.name))
  | .ok (ss, some k) => .ok (ss.tail.map (·.name) ++ [minName (namesOf (W.at (last ss).number).names k)])
/-- within a comprehension: the written part named outright -/
theorem pe_fldX {X : Cx} {K : PySem.W.Frag} {e : Expr} {ta : TE} {f : Str} {pos : Pos} (he : PE X e ta) (hb : attributeBase e f X.env (eval e X.env) = eval e X.env) (hK : X.K = K) : PE X (.Attribute e f pos) (tFld K ta f) := by
  subst hK
  exact pe_fld he hb
theorem wayGo_len {W : Wd} {u : Int} {follow : Bool} : ∀ (m : Nat) (ss : List Std) (rest : List Str) (hints : Nat) {rs : List Std} {num : Option Nat}, wayGo W u follow m ss rest hints = .ok rs num → rs.length ≤ ss.length + m
  | 0, _, _, _, _, _, h => by
    unfold wayGo at h
    cases h
  | m + 1, ss, [], _, rs, num, h => by
    unfold wayGo at h
    cases h
    omega
  | m + 1, ss, part :: rest, hints, rs, num, h => by
    unfold wayGo at h
    split at h
    · cases h
    · split at h
      · have := wayGo_len m _ _ _ h
        rw [List.length_take] at this
        omega
      · split at h
        · have := wayGo_len m _ _ _ h
          omega
        · split at h
          · cases h
          · split at h
            · split at h
              · cases h
              · have := wayGo_len m _ _ _ h
                split at this
                · rw [List.length_take] at this
                  omega
                · omega
            · split at h
              · have := wayGo_len m _ _ _ h
                rw [List.length_append] at this
                simp at this
                omega
              · split at h
                · cases h
                · cases h
                  omega
theorem wayOf_len {W : Wd} {u : Int} {follow : Bool} {ps : List Str} {ss : List Std} {num : Option Nat} (h : wayOf W u follow ps = .ok ss num) : ss.length ≤ 201 := by
  have := wayGo_len _ _ _ _ h
  simp at this
  omega
end Tm

/-! looks as data -/
namespace Tm
open PySem PySem.Spec PyProof.Rows L2
/-! ### texts in order -/
def leS (a b : Str) : Bool := !ltCps (cs b) (cs a)
def insS (x : Str) : List Str → List Str
  | [] => [x]
  | y :: r => if leS x y = true then x :: y :: r else y :: insS x r
def sortS : List Str → List Str
  | [] => []
  | x :: r => insS x (sortS r)
theorem leS_iff (a b : Str) : leS a b = true ↔ cs a ≤ cs b := by
  unfold leS
  rw [ltCps_eq]
  simp
theorem leS_trans {a b c : Str} (h1 : leS a b = true) (h2 : leS b c = true) : leS a c = true := by
  rw [leS_iff] at *
  exact List.le_trans h1 h2
theorem leS_total (a b : Str) : leS a b = true ∨ leS b a = true := by
  rw [leS_iff, leS_iff]
  exact List.le_total _ _
theorem leS_anti {a b : Str} (h1 : leS a b = true) (h2 : leS b a = true) : a = b := by
  rw [leS_iff] at *
  exact ext_cs (List.le_antisymm h1 h2)
theorem insS_perm (x : Str) : ∀ l : List Str, (insS x l).Perm (x :: l)
  | [] => .refl _
  | y :: r => by
    unfold insS
    split
    · exact .refl _
    · exact ((insS_perm x r).cons y).trans (.swap ..)
theorem sortS_perm : ∀ l : List Str, (sortS l).Perm l
  | [] => .refl _
  | x :: r => (insS_perm x _).trans ((sortS_perm r).cons x)
theorem insS_sorted (x : Str) : ∀ {l : List Str}, l.Pairwise (fun a b => leS a b = true) → (insS x l).Pairwise (fun a b => leS a b = true)
  | [], _ => by simp [insS]
  | y :: r, h => by
    unfold insS
    have h' := List.pairwise_cons.mp h
    split
    · rename_i hx
      refine List.pairwise_cons.mpr ⟨fun z hz => ?_, h⟩
      rcases List.mem_cons.mp hz with rfl | hz
      · exact hx
      · exact leS_trans hx (h'.1 z hz)
    · rename_i hx
      refine List.pairwise_cons.mpr ⟨fun z hz => ?_, insS_sorted x h'.2⟩
      rcases List.mem_cons.mp ((insS_perm x r).mem_iff.mp hz) with rfl | hz
      · exact (leS_total z y).resolve_left hx
      · exact h'.1 z hz
theorem sortS_sorted : ∀ l : List Str, (sortS l).Pairwise (fun a b => leS a b = true)
  | [] => .nil
  | x :: r => insS_sorted x (sortS_sorted r)
theorem risingS_pw : ∀ {r : List Str} {p : Str}, risingS p r = true → (p :: r).Pairwise (fun a b => leS a b = true)
  | [], p, _ => by simp
  | x :: r, p, h => by
    have h : (!ltCps x.cps.toList p.cps.toList && risingS x r) = true := h
    rw [Bool.and_eq_true] at h
    have h1 : leS p x = true := h.1
    have ih := risingS_pw h.2
    refine List.pairwise_cons.mpr ⟨fun z hz => ?_, ih⟩
    rcases List.mem_cons.mp hz with rfl | hz
    · exact h1
    · exact leS_trans h1 ((List.pairwise_cons.mp ih).1 z hz)
theorem sortS_of {ys xs : List Str} (p : ys.Perm xs) (h : sortedS ys = true) : ys = sortS xs := by
  have h1 : ys.Pairwise (fun a b => leS a b = true) := by
    cases ys with
    | nil => exact .nil
    | cons x r => exact risingS_pw h
  exact List.Perm.eq_of_pairwise (fun a b _ _ x y => leS_anti x y) h1 (sortS_sorted xs) (p.trans (sortS_perm xs).symm)
theorem sortS_mem {x : Str} {l : List Str} : x ∈ sortS l ↔ x ∈ l := (sortS_perm l).mem_iff
/-! ### data in the heap -/
theorem sq_up {K : PySem.W.Frag} {H H' : Hp} {a : Addr} {xs : List V} (e : Ex H H') (h : SqL K H a xs) : SqL K H' a xs := e.sq h
mutual
theorem dp_up {K : PySem.W.Frag} {H H' : Hp} (e : Ex H H') : ∀ {v : V} {d : PyData}, Dp K H v d → Dp K H' v d
  | _, _, .non => .non
  | _, _, .bl b => .bl b
  | _, _, .int i => .int i
  | _, _, .str x => .str x
  | _, _, .lst h t => .lst (e.sq h) (dps_up e t)
  | _, _, .tup h t => .tup (e.st h) (dps_up e t)
theorem dps_up {K : PySem.W.Frag} {H H' : Hp} (e : Ex H H') : ∀ {vs : List V} {ds : List PyData}, DpAll K H vs ds → DpAll K H' vs ds
  | _, _, .nil => .nil
  | _, _, .cons h t => .cons (dp_up e h) (dps_up e t)
end
/-- a list or a tuple lies at none of the places S -/
def Clear (H : Hp) (S : List Addr) : Prop := ∀ a ∈ S, ∀ xs, ¬ Rd H a (.lst xs) ∧ ¬ Rd H a (.tup xs)
theorem HouseAt.clear {K : PySem.W.Frag} {H : Hp} {h : Addr} {L : Lay} {W : Wd} (hh : HouseAt K H h L W) : Clear H (fp h L) := fun a hz xs => by
  have key : (∃ C dx fs, H a = some (.ins C dx fs)) ∨ ∃ kvs, H a = some (.dK kvs) := by
    obtain ⟨dxh, hoo⟩ := hh.obj
    unfold fp at hz
    simp only [List.mem_cons, List.mem_append] at hz
    rcases hz with rfl | rfl | rfl | hz | hz
    · exact .inl ⟨_, _, _, hoo⟩
    · exact .inr ⟨_, hh.nds⟩
    · exact .inr ⟨_, hh.ovr⟩
    · obtain ⟨i, hi, rfl⟩ := List.mem_iff_getElem.mp hz
      obtain ⟨_, _, z1, _⟩ := (hh.nod i (by rw [← hh.la]; exact hi)).ex
      rw [List.getD_eq_getElem?_getD, List.getElem?_eq_getElem hi] at z1
      exact .inl ⟨_, _, _, z1⟩
    · obtain ⟨i, hi, rfl⟩ := List.mem_iff_getElem.mp hz
      have z1 := (hh.nod i (by rw [← hh.ln]; exact hi)).nam
      rw [List.getD_eq_getElem?_getD, List.getElem?_eq_getElem hi] at z1
      exact .inr ⟨_, z1⟩
  constructor
  · rintro (z | ⟨o, z⟩) <;> rcases key with ⟨_, _, _, k⟩ | ⟨_, k⟩ <;> rw [k] at z <;> cases z
  · rintro (z | ⟨o, z⟩) <;> rcases key with ⟨_, _, _, k⟩ | ⟨_, k⟩ <;> rw [k] at z <;> cases z
theorem rd_off {H H' : Hp} {S : List Addr} {a : Addr} {u : HO} (o : Off S H H') (n : a ∉ S) (h : Rd H a u) : Rd H' a u := by
  rcases h with h | ⟨ob, h⟩
  · exact .inl (o _ _ h n)
  · exact .inr ⟨ob, o _ _ h n⟩
mutual
theorem dp_off {K : PySem.W.Frag} {H H' : Hp} {S : List Addr} (c : Clear H S) (o : Off S H H') : ∀ {v : V} {d : PyData}, Dp K H v d → Dp K H' v d
  | _, _, .non => .non
  | _, _, .bl b => .bl b
  | _, _, .int i => .int i
  | _, _, .str x => .str x
  | _, _, .lst (a := a) (xs := xs) h t => .lst (h.imp (fun h => rd_off o (fun z => (c a z xs).1 h) h) id) (dps_off c o t)
  | _, _, .tup (a := a) (xs := xs) h t => .tup (h.imp (fun h => rd_off o (fun z => (c a z xs).2 h) h) id) (dps_off c o t)
theorem dps_off {K : PySem.W.Frag} {H H' : Hp} {S : List Addr} (c : Clear H S) (o : Off S H H') : ∀ {vs : List V} {ds : List PyData}, DpAll K H vs ds → DpAll K H' vs ds
  | _, _, .nil => .nil
  | _, _, .cons h t => .cons (dp_off c o h) (dps_off c o t)
end
/-! ### what looks tell, as data -/
def errD (e : Err) : PyData := .tuple [.str (errWords.getD (errIx e) ""), match e with
  | .no _ => .none
  | .right _ n => .int n
  | .name s => .str s]
def toldD (d : PyData) : PyData := .tuple [.str "told", d]
def seenD : Res PyData → PyData
  | .err e => errD e
  | .ok d => toldD d
def Res.get {α : Type} (f : α → PyData) : Res α → Res PyData
  | .err e => .err e
  | .ok a => .ok (f a)
def aboutD (d : Nd) : PyData := .tuple [.int d.owner, .int d.group, .tuple [.int d.r0, .int d.r1, .int d.r2], .int d.count]
def kindR (W : Wd) (vu v : V) : Res PyData := (atR W vu v false).get fun p => .str (W.at (endNum p.1 p.2)).kind
def aboutR (W : Wd) (vu v : V) : Res PyData := (atR W vu v true).get fun p => aboutD (W.at (endNum p.1 p.2))
def trueD (W : Wd) (vu v : V) : Res PyData := match trueR W vu v with
  | .err e => .err e
  | .ok ns => if goodParts ns = true then .ok (.str (pathOf ns)) else .err (.no 0)
def goalR (W : Wd) (vu v : V) : Res Nat := match atR W vu v false with
  | .err e => .err e
  | .ok (ss, num) => if (W.at (endNum ss num)).kind = "hint" then .ok (endNum ss num) else .err (.no 8)
def readR (W : Wd) (vu v : V) : Res Nat := match atR W vu v true with
  | .err e => .err e
  | .ok (ss, num) => if (W.at (endNum ss num)).kind = "leaf" then if mayOf W (userI vu) (endNum ss num) 4 = true then .ok (endNum ss num) else .err (.right (userI vu) (endNum ss num)) else .err (.no 7)
def namesR (W : Wd) (vu v : V) : Res Nat := match atR W vu v true with
  | .err e => .err e
  | .ok (_, some _) => .err (.no 6)
  | .ok (ss, none) => if mayOf W (userI vu) (last ss).number 4 = true then .ok (last ss).number else .err (.right (userI vu) (last ss).number)
def textD (W : Wd) (n : Nat) : PyData := .str (W.at n).text
def namesD (W : Wd) (n : Nat) : PyData := .list ((sortS ((W.at n).names.map (·.1))).map PyData.str)
theorem errV_dp {K : PySem.W.Frag} {H : Hp} {e : Err} {p : Addr} (h : H p = some (.tup [.str (errWords.getD (errIx e) ""), errV e])) : Dp K H (.ref p) (errD e) := by
  refine .tup (SqT.of h) (.cons (.str _) (.cons ?_ .nil))
  cases e with
  | no i => exact .non
  | right u n => exact .int n
  | name s => exact .str s
theorem wayV_plain {W : Wd} {u : Int} {follow : Bool} {v : V} {e : Err} (h : wayV W u follow v = .err e) : e.Plain := by
  unfold wayV at h
  split at h
  · split at h
    · cases h; exact plain0
    · split at h
      · cases h; exact plain0
      · rename_i hw
        cases h
        exact wayGo_plain _ _ _ _ hw
      · cases h
  · cases h; exact plain0
theorem atR_plain {W : Wd} {vu v : V} {follow : Bool} {e : Err} (h : atR W vu v follow = .err e) : e.Plain := by
  unfold atR at h
  split at h
  · cases h; exact plain3
  · exact wayV_plain h
theorem plain6 : (Err.no 6).Plain := (show (6 : Nat) < 13 ∧ (6 : Nat) ≠ 4 ∧ (6 : Nat) ≠ 5 by decide)
theorem plain7 : (Err.no 7).Plain := (show (7 : Nat) < 13 ∧ (7 : Nat) ≠ 4 ∧ (7 : Nat) ≠ 5 by decide)
theorem plain8 : (Err.no 8).Plain := (show (8 : Nat) < 13 ∧ (8 : Nat) ≠ 4 ∧ (8 : Nat) ≠ 5 by decide)
theorem get_plain {α : Type} {f : α → PyData} {r : Res α} {e : Err} (p : ∀ e, r = .err e → e.Plain) (h : r.get f = .err e) : e.Plain := by
  cases r with
  | err x => cases h; exact p _ rfl
  | ok a => cases h
theorem trueR_plain {W : Wd} {vu v : V} {e : Err} (h : trueR W vu v = .err e) : e.Plain := by
  unfold trueR at h
  split at h
  · rename_i hx
    cases h
    exact atR_plain hx
  · cases h
  · cases h
theorem trueD_plain {W : Wd} {vu v : V} {e : Err} (h : trueD W vu v = .err e) : e.Plain := by
  unfold trueD at h
  split at h
  · rename_i hx
    cases h
    exact trueR_plain hx
  · split at h
    · cases h
    · cases h; exact plain0
theorem goalR_plain {W : Wd} {vu v : V} {e : Err} (h : goalR W vu v = .err e) : e.Plain := by
  unfold goalR at h
  split at h
  · rename_i hx
    cases h
    exact atR_plain hx
  · split at h
    · cases h
    · cases h; exact plain8
theorem readR_plain {W : Wd} {vu v : V} {e : Err} (h : readR W vu v = .err e) : e.Plain := by
  unfold readR at h
  split at h
  · rename_i hx
    cases h
    exact atR_plain hx
  · split at h
    · split at h
      · cases h
      · cases h; trivial
    · cases h; exact plain7
theorem namesR_plain {W : Wd} {vu v : V} {e : Err} (h : namesR W vu v = .err e) : e.Plain := by
  unfold namesR at h
  split at h
  · rename_i hx
    cases h
    exact atR_plain hx
  · cases h; exact plain6
  · split at h
    · cases h
    · cases h; trivial
/-- a look, by its kind -/
def lookD (W : Wd) (kind : Int) (vu v : V) : Res PyData :=
  if kind = 0 then kindR W vu v else if kind = 1 then (goalR W vu v).get (textD W) else if kind = 2 then aboutR W vu v else if kind = 3 then trueD W vu v
  else if kind = 4 then (namesR W vu v).get (namesD W) else (readR W vu v).get (textD W)
theorem lookD_plain {W : Wd} {kind : Int} {vu v : V} {e : Err} (h : lookD W kind vu v = .err e) : e.Plain := by
  unfold lookD at h
  split at h
  · exact get_plain (fun _ => atR_plain) h
  split at h
  · exact get_plain (fun _ => goalR_plain) h
  split at h
  · exact get_plain (fun _ => atR_plain) h
  split at h
  · exact trueD_plain h
  split at h
  · exact get_plain (fun _ => namesR_plain) h
  · exact get_plain (fun _ => readR_plain) h
/-! ### frames: what stands outside the places S -/
def mask (S : List Addr) (H : Hp) : Hp := fun a => if a ∈ S then none else H a
theorem mask_at {S : List Addr} {H : Hp} {a : Addr} {o : HO} : mask S H a = some o ↔ a ∉ S ∧ H a = some o := by
  unfold mask
  split
  · rename_i h
    exact ⟨(fun z => by cases z), fun z => (z.1 h).elim⟩
  · rename_i h
    exact ⟨fun z => ⟨h, z⟩, fun z => z.2⟩
theorem mask_ex {S : List Addr} {H : Hp} : Ex (mask S H) H := fun a o h => (mask_at.mp h).2
/-- new places of S were free -/
def Gr (S S' : List Addr) (H : Hp) : Prop := ∀ a ∈ S', a ∈ S ∨ H a = none
theorem Gr.rfl {S : List Addr} {H : Hp} : Gr S S H := fun _ h => .inl h
theorem mask_step {S S' : List Addr} {H H' : Hp} (o : Off S H H') (g : Gr S S' H) : Ex (mask S H) (mask S' H') := fun a x h => by
  obtain ⟨h1, h2⟩ := mask_at.mp h
  refine mask_at.mpr ⟨fun z => ?_, o a x h2 h1⟩
  rcases g a z with z | z
  · exact h1 z
  · rw [h2] at z
    cases z
theorem Off.sub {S S' : List Addr} {H H' : Hp} (o : Off S H H') (h : ∀ a ∈ S, a ∈ S') : Off S' H H' := fun a x e n => o a x e fun z => n (h a z)
/-- a new thing stands outside -/
theorem mask_new {S : List Addr} {H H' : Hp} {p : Addr} {o : HO} (hs : ∀ a ∈ S, ∃ o, H a = some o) (hp : H p = none) (h : H' p = some o) : mask S H' p = some o := by
  refine mask_at.mpr ⟨fun z => ?_, h⟩
  obtain ⟨u, hu⟩ := hs p z
  rw [hp] at hu
  cases hu
theorem HouseAt.off {K : PySem.W.Frag} {H H' : Hp} {h : Addr} {L : Lay} {W : Wd} {S : List Addr} (hh : HouseAt K H h L W) (o : Off S H H') (d : ∀ a ∈ S, a ∉ L.g :: fp h L) (t : ∀ a ∈ S, ∀ xs, H a ≠ some (.tup xs)) : HouseAt K H' h L W := by
  obtain ⟨dx, ho⟩ := hh.obj
  have nf : ∀ {a}, a ∈ L.g :: fp h L → a ∉ S := fun {a} ha z => d a z ha
  have nt : ∀ {a xs}, H a = some (.tup xs) → a ∉ S := fun {a xs} ha z => t a z xs ha
  refine ⟨⟨dx, o _ _ ho (nf (by simp [fp]))⟩, o _ _ hh.grp (nf (by simp)), o _ _ hh.nds (nf (by simp [fp])), o _ _ hh.ovr (nf (by simp [fp])), hh.la, hh.ln, fun i hi => ?_, hh.dis⟩
  obtain ⟨dx2, rt, z1, z2⟩ := (hh.nod i hi).ex
  exact ⟨⟨dx2, rt, o _ _ z1 (nf (List.mem_cons_of_mem _ (List.mem_cons_of_mem _ (List.mem_cons_of_mem _ (List.mem_cons_of_mem _ (List.mem_append_left _ (hh.mA hi))))))), o _ _ z2 (nt z2)⟩, o _ _ (hh.nod i hi).nam (nf (List.mem_cons_of_mem _ (List.mem_cons_of_mem _ (List.mem_cons_of_mem _ (List.mem_cons_of_mem _ (List.mem_append_right _ (hh.mN hi)))))))⟩
/-- a law's town and its house -/
structure LawSt (K : PySem.W.Frag) (H : Hp) (t c h : Addr) (L : Lay) (W : Wd) : Prop where
  tw : Town H t c
  hh : HouseAt K H h L W
  tf : t ∉ fp h L
  cf : c ∉ fp h L
  gc : L.g ≠ c
  ok : W.Ok
def lawS (t c h : Addr) (L : Lay) : List Addr := t :: c :: fp h L
theorem town_lst {H : Hp} {t c a : Addr} (T : Town H t c) (h : a ∈ [t, c]) : ∃ xs, H a = some (.lst xs) := by
  obtain ⟨ns, n, h1, h2, _⟩ := T
  rcases List.mem_cons.mp h with rfl | h
  · exact ⟨_, h1⟩
  · rw [List.mem_singleton.mp h]
    exact ⟨_, h2⟩
theorem LawSt.there {K : PySem.W.Frag} {H : Hp} {t c h : Addr} {L : Lay} {W : Wd} (s : LawSt K H t c h L W) : ∀ a ∈ lawS t c h L, ∃ o, H a = some o := fun a ha => by
  unfold lawS at ha
  rcases List.mem_cons.mp ha with rfl | ha
  · exact s.tw.t
  · rcases List.mem_cons.mp ha with rfl | ha
    · exact s.tw.c
    · exact s.hh.there ha
theorem LawSt.gt {K : PySem.W.Frag} {H : Hp} {t c h : Addr} {L : Lay} {W : Wd} (s : LawSt K H t c h L W) : L.g ≠ t := fun z => by
  obtain ⟨ns, n, h1, h2, _⟩ := s.tw
  have h3 := s.hh.grp
  rw [z, h1] at h3
  have h3 := HO.lst.inj (Option.some.inj h3)
  cases hg : W.groups with
  | nil => rw [hg] at h3; cases h3
  | cons x r => rw [hg] at h3; cases h3
/-- the heap grew -/
theorem LawSt.up {K : PySem.W.Frag} {H H' : Hp} {t c h : Addr} {L : Lay} {W : Wd} (s : LawSt K H t c h L W) (e : Ex H H') : LawSt K H' t c h L W ∧ Ex (mask (lawS t c h L) H) (mask (lawS t c h L) H') :=
  ⟨⟨s.tw.ex e, s.hh.up e, s.tf, s.cf, s.gc, s.ok⟩, mask_step e.off .rfl⟩
/-- a draw -/
theorem LawSt.draw {K : PySem.W.Frag} {H H' : Hp} {t c h : Addr} {L : Lay} {W : Wd} (s : LawSt K H t c h L W) (T : Town H' t c) (o : Off [t, c] H H') : LawSt K H' t c h L W ∧ Ex (mask (lawS t c h L) H) (mask (lawS t c h L) H') := by
  refine ⟨⟨T, s.hh.off o (fun a ha z => ?_) (fun a ha xs z => ?_), s.tf, s.cf, s.gc, s.ok⟩, mask_step (o.sub fun a ha => ?_) .rfl⟩
  · rcases List.mem_cons.mp ha with rfl | ha
    · rcases List.mem_cons.mp z with z | z
      · exact s.gt z.symm
      · exact s.tf z
    · rw [List.mem_singleton.mp ha] at z
      rcases List.mem_cons.mp z with z | z
      · exact s.gc z.symm
      · exact s.cf z
  · obtain ⟨ys, hy⟩ := town_lst s.tw ha
    rw [hy] at z
    cases z
  · unfold lawS
    rcases List.mem_cons.mp ha with rfl | ha
    · exact List.mem_cons_self ..
    · rw [List.mem_singleton.mp ha]
      exact List.mem_cons_of_mem _ (List.mem_cons_self ..)
/-- a deed of the house -/
theorem LawSt.deed {K : PySem.W.Frag} {H H' : Hp} {t c h : Addr} {L L' : Lay} {W W' : Wd} (s : LawSt K H t c h L W) (hh : HouseAt K H' h L' W') (ok : W'.Ok) (o : Off (fp h L) H H') (g : Grew h L L' H) : LawSt K H' t c h L' W' ∧ Ex (mask (lawS t c h L) H) (mask (lawS t c h L') H') := by
  have nt : t ∉ fp h L' := fun z => by
    rcases g.2 t z with z | z
    · exact s.tf z
    · obtain ⟨x, hx⟩ := s.tw.t
      rw [z] at hx
      cases hx
  have nc : c ∉ fp h L' := fun z => by
    rcases g.2 c z with z | z
    · exact s.cf z
    · obtain ⟨x, hx⟩ := s.tw.c
      rw [z] at hx
      cases hx
  refine ⟨⟨s.tw.off o s.tf s.cf, hh, nt, nc, by rw [g.1.2.2]; exact s.gc, ok⟩, mask_step (o.sub fun a ha => List.mem_cons_of_mem _ (List.mem_cons_of_mem _ ha)) fun a ha => ?_⟩
  unfold lawS at ha ⊢
  rcases List.mem_cons.mp ha with rfl | ha
  · exact .inl (List.mem_cons_self ..)
  · rcases List.mem_cons.mp ha with rfl | ha
    · exact .inl (List.mem_cons_of_mem _ (List.mem_cons_self ..))
    · rcases g.2 a ha with z | z
      · exact .inl (List.mem_cons_of_mem _ (List.mem_cons_of_mem _ z))
      · exact .inr z
/-! ### deeds with plain arguments -/
def groupsB (xs : List V) : Bool := decide (1 ≤ xs.length) && (decide (xs.length ≤ 8) && xs.all fun x => smallV x 99)
/-- a house's users, told by their groups -/
def w0 (gs : List Int) : Wd := ⟨gs, [⟨"room", 0, gs.getD 0 0, 7, 5, 5, [], "", 1⟩], []⟩
theorem rightsB_ints {H : Hp} {rt : Addr} {r0 r1 r2 : Int} (h : H rt = some (.tup [.int r0, .int r1, .int r2])) (h0 : 0 ≤ r0 ∧ r0 ≤ 7) (h1 : 0 ≤ r1 ∧ r1 ≤ 7) (h2 : 0 ≤ r2 ∧ r2 ≤ 7) : rightsB H (.ref rt) = true := by
  unfold rightsB
  simp only [h]
  simp [smallV, h0, h1, h2]
theorem rightsOk_ints {K : PySem.W.Frag} {H : Hp} {rt : Addr} {r0 r1 r2 : Int} (h : H rt = some (.tup [.int r0, .int r1, .int r2])) : RightsOk K H (.ref rt) := .inl ⟨rt, _, rfl, h, by simp, fun x hx => by
  simp only [List.mem_cons, List.not_mem_nil, or_false] at hx
  rcases hx with rfl | rfl | rfl <;> exact .inl ⟨_, rfl⟩⟩
abbrev R8 (r : Int) : Prop := 0 ≤ r ∧ r ≤ 7
theorem userB_of {W : Wd} {u : Int} (h0 : 0 ≤ u) (h1 : u < W.groups.length) : userB W (.int u) = true := by
  show (decide (0 ≤ u) && decide (u ≤ (W.groups.length : Int) - 1)) = true
  rw [decide_eq_true h0, decide_eq_true (by omega)]
  rfl
/-- something made, in plain words -/
def makeP (W : Wd) (u : Int) (p : Str) (d : Nd) : Res Wd := match freeV W u (.str p) with
  | .err e => .err e
  | .ok ss n => .ok (madeW W (last ss).number n d)
def roomN (W : Wd) (u r0 r1 r2 : Int) : Nd := newNd W "room" u r0 r1 r2
def leafN (W : Wd) (u : Int) (t : Str) (r0 r1 r2 : Int) : Nd := { newNd W "leaf" u r0 r1 r2 with text := t }
def hintN (W : Wd) (u : Int) (t : Str) : Nd := { newNd W "hint" u 7 7 7 with text := t }
def textOkB (t : Str) : Bool := textB (.str t)
/-! ### one step of a walk -/
theorem may0 (W : Wd) (n : Nat) (r : Int) : mayOf W 0 n r = true := rfl
section
variable {W : Wd} {u : Int} {f : Bool} {m : Nat} {ss : List Std} {part : Str} {rest : List Str} {hints k : Nat}
theorem go_end : wayGo W u f (m + 1) ss [] hints = .ok ss none := rfl
theorem go_no (hm : mayOf W u (last ss).number 1 = false) : wayGo W u f (m + 1) ss (part :: rest) hints = .err (.right u (last ss).number) := by
  conv => lhs; unfold wayGo
  rw [if_pos hm]
theorem go_up (hm : mayOf W u (last ss).number 1 = true) : wayGo W u f (m + 1) ss (".." :: rest) hints = wayGo W u f m (ss.take (max 1 (ss.length - 1))) rest hints := by
  conv => lhs; unfold wayGo
  rw [if_neg (by rw [hm]; decide), if_pos rfl]
theorem go_here (hm : mayOf W u (last ss).number 1 = true) : wayGo W u f (m + 1) ss ("." :: rest) hints = wayGo W u f m ss rest hints := by
  conv => lhs; unfold wayGo
  rw [if_neg (by rw [hm]; decide), if_neg (by decide +kernel), if_pos rfl]
theorem go_name (hm : mayOf W u (last ss).number 1 = true) (h1 : part ≠ "..") (h2 : part ≠ ".") (hl : look part (W.at (last ss).number).names = none) : wayGo W u f (m + 1) ss (part :: rest) hints = .err (.name part) := by
  conv => lhs; unfold wayGo
  rw [if_neg (by rw [hm]; decide), if_neg h1, if_neg h2, hl]
theorem go_room (hm : mayOf W u (last ss).number 1 = true) (h1 : part ≠ "..") (h2 : part ≠ ".") (hl : look part (W.at (last ss).number).names = some k) (hk : (W.at k).kind = "room") : wayGo W u f (m + 1) ss (part :: rest) hints = wayGo W u f m (ss ++ [standOf W k part]) rest hints := by
  conv => lhs; unfold wayGo
  rw [if_neg (by rw [hm]; decide), if_neg h1, if_neg h2, hl]
  dsimp only
  rw [if_neg (fun z => absurd (hk.symm.trans z.1) (by decide +kernel)), if_pos hk]
theorem go_leaf (hm : mayOf W u (last ss).number 1 = true) (h1 : part ≠ "..") (h2 : part ≠ ".") (hl : look part (W.at (last ss).number).names = some k) (hk : (W.at k).kind = "leaf") : wayGo W u f (m + 1) ss (part :: rest) hints = if rest ≠ [] then .err (.no 6) else .ok ss (some k) := by
  conv => lhs; unfold wayGo
  rw [if_neg (by rw [hm]; decide), if_neg h1, if_neg h2, hl]
  dsimp only
  rw [if_neg (fun z => absurd (hk.symm.trans z.1) (by decide +kernel)), if_neg (by rw [hk]; decide +kernel)]
theorem go_hint (hm : mayOf W u (last ss).number 1 = true) (h1 : part ≠ "..") (h2 : part ≠ ".") (hl : look part (W.at (last ss).number).names = some k) (hk : (W.at k).kind = "hint") (hf : rest ≠ [] ∨ f = true) : wayGo W u f (m + 1) ss (part :: rest) hints =
    if 8 < hints + 1 then .err (.no 10) else wayGo W u f m (if Txt.slice (W.at k).text none (some 1) = sl then ss.take 1 else ss) ((partsOf false (W.at k).text).getD [] ++ rest) (hints + 1) := by
  conv => lhs; unfold wayGo
  rw [if_neg (by rw [hm]; decide), if_neg h1, if_neg h2, hl]
  dsimp only
  rw [if_pos ⟨hk, hf⟩]
theorem go_hintE (hm : mayOf W u (last ss).number 1 = true) (h1 : part ≠ "..") (h2 : part ≠ ".") (hl : look part (W.at (last ss).number).names = some k) (hk : (W.at k).kind = "hint") : wayGo W u false (m + 1) ss [part] hints = .ok ss (some k) := by
  conv => lhs; unfold wayGo
  rw [if_neg (by rw [hm]; decide), if_neg h1, if_neg h2, hl]
  dsimp only
  rw [if_neg (by simp), if_neg (by rw [hk]; decide +kernel), if_neg (by simp)]
end
/-! ### comparing data -/
theorem x_neDY {K : PySem.W.Frag} {H : Hp} {Q : VK} {x y : V} {d e : PyData} (hx : Dp K H x d) (hy : Dp K H y e) (sx : SeqAt.shaped d = true) (sy : SeqAt.shaped e = true) (b : PyData.eqv d e = true) (q : Q (.bl false) H) : rNeD K x y H Q := ⟨d, e, hx, hy, sx, sy, by rw [b]; exact q⟩
theorem x_eqDY {K : PySem.W.Frag} {H : Hp} {Q : VK} {x y : V} {d e : PyData} (hx : Dp K H x d) (hy : Dp K H y e) (sx : SeqAt.shaped d = true) (sy : SeqAt.shaped e = true) (b : PyData.eqv d e = true) (q : Q (.bl true) H) : rEqD K x y H Q := ⟨d, e, hx, hy, sx, sy, by rw [b]; exact q⟩
theorem intOk {K : PySem.W.Frag} {H : Hp} (i : Int) : IntOk K H (.int i) := .inl ⟨i, rfl⟩
theorem textOk_of {K : PySem.W.Frag} {H : Hp} {s : Str} (h : s.length ≤ 1000) : TextOk K H (.str s) := textOk_lit h
/-- x_newT, told to the new place only -/
theorem x_tup2 {H : Hp} {Q : VK} {K : PySem.W.Frag} {a b : V} {da db : PyData} (ha : Dp K H a da) (hb : Dp K H b db) (q : ∀ p H1, H p = none → Ex H H1 → Dp K H1 (.ref p) (.tuple [da, db]) → Q (.ref p) H1) : NewT [a, b] H Q :=
  x_newT fun p H1 hp e h => q p H1 hp e (.tup (SqT.of h) (.cons (dp_up e ha) (.cons (dp_up e hb) .nil)))
theorem look0 {W : Wd} {vu v : V} : lookD W 0 vu v = kindR W vu v := if_pos rfl
theorem look1 {W : Wd} {vu v : V} : lookD W 1 vu v = (goalR W vu v).get (textD W) := by
  unfold lookD
  rw [if_neg (by decide), if_pos rfl]
theorem look2 {W : Wd} {vu v : V} : lookD W 2 vu v = aboutR W vu v := by
  unfold lookD
  rw [if_neg (by decide), if_neg (by decide), if_pos rfl]
theorem look3 {W : Wd} {vu v : V} : lookD W 3 vu v = trueD W vu v := by
  unfold lookD
  rw [if_neg (by decide), if_neg (by decide), if_neg (by decide), if_pos rfl]
theorem look4 {W : Wd} {vu v : V} : lookD W 4 vu v = (namesR W vu v).get (namesD W) := by
  unfold lookD
  rw [if_neg (by decide), if_neg (by decide), if_neg (by decide), if_neg (by decide), if_pos rfl]
theorem look5 {W : Wd} {vu v : V} : lookD W 5 vu v = (readR W vu v).get (textD W) := by
  unfold lookD
  rw [if_neg (by decide), if_neg (by decide), if_neg (by decide), if_neg (by decide), if_neg (by decide)]
def ofWay : WayR → Res (List Std × Option Nat)
  | .stuck => .err (.no 0)
  | .err e => .err e
  | .ok ss num => .ok (ss, num)
theorem atR_way {W : Wd} {u : Int} {f : Bool} {s : Str} {ps : List Str} (u0 : 0 ≤ u) (u1 : u < W.groups.length) (hp : partsOf true s = some ps) : atR W (.int u) (.str s) f = ofWay (wayOf W u f ps) := by
  have : userB W (.int u) = true := userB_of u0 u1
  unfold atR wayV
  rw [if_neg (by rw [this]; decide)]
  simp only [hp]
  show (match wayOf W u f ps with
    | .stuck => Res.err (Err.no 0)
    | .err e => .err e
    | .ok ss num => .ok (ss, num)) = _
  cases wayOf W u f ps <;> rfl
theorem placeV_way {W : Wd} {u : Int} {s : Str} {ps : List Str} {n : Str} (hp : splitOf s = some (ps, n)) : placeV W u (.str s) = placeOn W u n (wayOf W u true ps) := by
  unfold placeV
  simp only [hp]
theorem free_of {W : Wd} {u : Int} {v : V} {ss : List Std} {n : Str} (h : placeV W u v = .ok ss n) (hl : look n (W.at (last ss).number).names = none) : freeV W u v = .ok ss n := by
  unfold freeV
  simp only [h, hl]
  rfl
theorem place0 {W : Wd} {ss : List Std} {n : Str} : placeOn W 0 n (.ok ss none) = .ok ss n := by
  show (if mayOf W 0 (last ss).number 3 = true then PlR.ok ss n else .err (.right 0 (last ss).number)) = _
  rw [if_pos (may0 _ _ _)]
def deedNd (W : Wd) (kind : Str) (u r0 r1 r2 : Int) (t : Str) : Nd := if kind = "room" then roomN W u r0 r1 r2 else if kind = "leaf" then leafN W u t r0 r1 r2 else hintN W u t
structure DeedOk (kind : Str) (r0 r1 r2 : Int) (t : Str) : Prop where
  r0 : R8 r0
  r1 : R8 r1
  r2 : R8 r2
  l : t.length ≤ 1000
  k : kind = "room" ∨ (kind = "leaf" ∧ textB (.str t) = true) ∨ (kind = "hint" ∧ (partsOf false t).isSome = true)
theorem Small.le {W : Wd} {m n : Nat} (h : W.Small m) (l : m ≤ n) : W.Small n := ⟨Nat.le_trans h.1 l, fun i => Nat.le_trans (h.2 i) l⟩
theorem LawSt.start {K : PySem.W.Frag} {H H' : Hp} {t c h : Addr} {L : Lay} {W : Wd} (T : Town H t c) (e : Ex H H') (hh : HouseAt K H' h L W) (ok : W.Ok) (f : ∀ b ∈ L.g :: fp h L, H b = none) : LawSt K H' t c h L W := by
  have nf : ∀ {b o}, H b = some o → b ∉ L.g :: fp h L := fun {b o} hb z => by
    rw [f b z] at hb
    cases hb
  obtain ⟨o1, ht⟩ := T.t
  obtain ⟨o2, hc⟩ := T.c
  exact ⟨T.ex e, hh, fun z => nf ht (List.mem_cons_of_mem _ z), fun z => nf hc (List.mem_cons_of_mem _ z), fun z => nf hc (by rw [← z]; exact List.mem_cons_self ..), ok⟩
def Wd.smallB (W : Wd) (m : Nat) : Bool := decide (W.nodes.length ≤ m) && W.nodes.all fun d => decide (d.names.length ≤ m)
theorem smallB_ok {W : Wd} {m : Nat} (h : W.smallB m = true) : W.Small m := by
  unfold Wd.smallB at h
  simp only [Bool.and_eq_true, decide_eq_true_eq, List.all_eq_true] at h
  refine ⟨h.1, fun i => ?_⟩
  by_cases hi : i < W.nodes.length
  · refine h.2 _ ?_
    unfold Wd.at
    rw [List.getD_eq_getElem?_getD, List.getElem?_eq_getElem hi]
    exact List.getElem_mem hi
  · unfold Wd.at
    rw [List.getD_eq_getElem?_getD, List.getElem?_eq_none (by omega)]
    exact Nat.zero_le _
theorem log_small {i : Int} (h0 : 0 ≤ i) (h1 : i < 1000000) : i.natAbs.log2 < 1920 := by
  by_cases hz : i.natAbs = 0
  · rw [hz]
    decide
  · have : i.natAbs < 2 ^ 20 := by omega
    have := (Nat.log2_lt hz).mpr this
    omega
theorem small_line {n : Nat} (h : n ≤ 100000) : n ≤ sizeLine := Nat.le_trans h (by decide)
/-- the parts of a pair -/
theorem dp_pair {K : PySem.W.Frag} {H : Hp} {x : V} {d e : PyData} (h : Dp K H x (.tuple [d, e])) : ∃ p y z, x = .ref p ∧ SqT K H p [y, z] ∧ Dp K H y d ∧ Dp K H z e := by
  cases h with
  | tup hs ha =>
    cases ha with
    | cons h1 t =>
      cases t with
      | cons h2 t =>
        cases t
        exact ⟨_, _, _, rfl, hs, h1, h2⟩
theorem dp_str {K : PySem.W.Frag} {H : Hp} {x : V} {s : Str} (h : Dp K H x (.str s)) : x = .str s := by
  cases h
  rfl
theorem dp_int {K : PySem.W.Frag} {H : Hp} {x : V} {i : Int} (h : Dp K H x (.int i)) : x = .int i := by
  cases h
  rfl
def getW : Res Wd → Wd
  | .ok W => W
  | .err _ => w0 []
def isOkR {α : Type} : Res α → Bool
  | .ok _ => true
  | .err _ => false
theorem okR {r : Res Wd} (h : isOkR r = true) : r = .ok (getW r) := by
  cases r with
  | ok W => rfl
  | err e => cases h
theorem flat_strs (ss : List Str) : (ss.map V.str).all flatV = true := by
  rw [List.all_eq_true]
  intro x hx
  obtain ⟨s, _, rfl⟩ := List.mem_map.mp hx
  rfl
def sameR (W : Wd) (vu v w : V) : Res Bool := match atR W vu v true with
  | .err e => .err e
  | .ok (ss, num) => match atR W vu w true with
    | .err e => .err e
    | .ok (ss', num') => .ok (decide (endNum ss num = endNum ss' num'))
theorem shaped_tupS {a b : Str} (ha : PyData.strOk a = true) (hb : PyData.strOk b = true) : SeqAt.shaped (.tuple [.str a, .str b]) = true := shaped_pair ha hb
theorem paired_tail {α β : Type} {F : α → β → Prop} : ∀ {l : List α} {m : List β}, Paired F l m → Paired F l.tail m.tail
  | _, _, .nil => .nil
  | _, _, .cons _ t => t
theorem paired_mem {α β : Type} {F : α → β → Prop} : ∀ {l : List α} {m : List β}, Paired F l m → ∀ a ∈ l, ∃ b ∈ m, F a b
  | _, _, .nil, a, h => by cases h
  | _, _, .cons h t, a, hm => by
    rcases List.mem_cons.mp hm with rfl | hm
    · exact ⟨_, List.mem_cons_self .., h⟩
    · obtain ⟨b, h1, h2⟩ := paired_mem t a hm
      exact ⟨b, List.mem_cons_of_mem _ h1, h2⟩
end Tm

/-! the laws' own world, in lists and dicts, by the same mirror -/
namespace Tm
open PySem PySem.Spec PyProof.Rows L2
def ownF (d : Nd) (nm rt : Addr) : List V := [.str d.kind, .int d.owner, .int d.group, .ref rt, .ref nm, .str d.text]
structure ONodeAt (H : Hp) (a nm : Addr) (d : Nd) : Prop where
  ex : ∃ rt, H a = some (.lst (ownF d nm rt)) ∧ H rt = some (.tup (rtsV d))
  nam : H nm = some (.dK (namesV d.names))
structure OwnAt (H : Hp) (o : Addr) (L : Lay) (W : Wd) : Prop where
  obj : H o = some (.lst [.ref L.g, .ref L.nd, .ref L.ov])
  grp : H L.g = some (.lst (W.groups.map V.int))
  nds : H L.nd = some (.lst (L.as.map V.ref))
  ovr : H L.ov = some (.dK (overV W.over))
  la : L.as.length = W.nodes.length
  ln : L.ns.length = W.nodes.length
  nod : ∀ i, i < W.nodes.length → ONodeAt H (L.as.getD i 0) (L.ns.getD i 0) (W.at i)
  dis : (o :: L.g :: L.nd :: L.ov :: (L.as ++ L.ns)).Nodup
/-- all of it -/
def fo (o : Addr) (L : Lay) : List Addr := o :: L.g :: L.nd :: L.ov :: (L.as ++ L.ns)
section
variable {H H' : Hp} {o : Addr} {L : Lay} {W : Wd} {K : PySem.W.Frag} {Q : VK}
theorem ONodeAt.up {a nm : Addr} {d : Nd} (h : ONodeAt H a nm d) (e : Ex H H') : ONodeAt H' a nm d := by
  obtain ⟨rt, h1, h2⟩ := h.ex
  exact ⟨⟨rt, e _ _ h1, e _ _ h2⟩, e _ _ h.nam⟩
theorem OwnAt.up (h : OwnAt H o L W) (e : Ex H H') : OwnAt H' o L W := ⟨e _ _ h.obj, e _ _ h.grp, e _ _ h.nds, e _ _ h.ovr, h.la, h.ln, fun i hi => (h.nod i hi).up e, h.dis⟩
theorem OwnAt.mA (h : OwnAt H o L W) {i : Nat} (hi : i < W.nodes.length) : L.as.getD i 0 ∈ L.as := getD_mem (by rw [h.la]; exact hi)
theorem OwnAt.mN (h : OwnAt H o L W) {i : Nat} (hi : i < W.nodes.length) : L.ns.getD i 0 ∈ L.ns := getD_mem (by rw [h.ln]; exact hi)
theorem fo_as {a : Addr} (h : a ∈ L.as) : a ∈ fo o L := List.mem_cons_of_mem _ (List.mem_cons_of_mem _ (List.mem_cons_of_mem _ (List.mem_cons_of_mem _ (List.mem_append_left _ h))))
theorem fo_ns {a : Addr} (h : a ∈ L.ns) : a ∈ fo o L := List.mem_cons_of_mem _ (List.mem_cons_of_mem _ (List.mem_cons_of_mem _ (List.mem_cons_of_mem _ (List.mem_append_right _ h))))
theorem OwnAt.off {S : List Addr} (h : OwnAt H o L W) (f : Off S H H') (d : ∀ a ∈ S, a ∉ fo o L) (t : ∀ a ∈ S, ∀ xs, H a ≠ some (.tup xs)) : OwnAt H' o L W := by
  have nf : ∀ {a}, a ∈ fo o L → a ∉ S := fun {a} ha z => d a z ha
  have nt : ∀ {a xs}, H a = some (.tup xs) → a ∉ S := fun {a xs} ha z => t a z xs ha
  refine ⟨f _ _ h.obj (nf (by simp [fo])), f _ _ h.grp (nf (by simp [fo])), f _ _ h.nds (nf (by simp [fo])), f _ _ h.ovr (nf (by simp [fo])), h.la, h.ln, fun i hi => ?_, h.dis⟩
  obtain ⟨rt, z1, z2⟩ := (h.nod i hi).ex
  exact ⟨⟨rt, f _ _ z1 (nf (fo_as (h.mA hi))), f _ _ z2 (nt z2)⟩, f _ _ (h.nod i hi).nam (nf (fo_ns (h.mN hi)))⟩
theorem OwnAt.there (h : OwnAt H o L W) {z : Addr} (hz : z ∈ fo o L) : (∃ xs, H z = some (.lst xs)) ∨ ∃ kvs, H z = some (.dK kvs) := by
  unfold fo at hz
  simp only [List.mem_cons, List.mem_append] at hz
  rcases hz with rfl | rfl | rfl | rfl | hz | hz
  · exact .inl ⟨_, h.obj⟩
  · exact .inl ⟨_, h.grp⟩
  · exact .inl ⟨_, h.nds⟩
  · exact .inr ⟨_, h.ovr⟩
  · obtain ⟨i, hi, rfl⟩ := List.mem_iff_getElem.mp hz
    obtain ⟨_, z1, _⟩ := (h.nod i (by rw [← h.la]; exact hi)).ex
    rw [List.getD_eq_getElem?_getD, List.getElem?_eq_getElem hi] at z1
    exact .inl ⟨_, z1⟩
  · obtain ⟨i, hi, rfl⟩ := List.mem_iff_getElem.mp hz
    have z1 := (h.nod i (by rw [← h.ln]; exact hi)).nam
    rw [List.getD_eq_getElem?_getD, List.getElem?_eq_getElem hi] at z1
    exact .inr ⟨_, z1⟩
/-! reading it -/
theorem OwnAt.r0 (h : OwnAt H o L W) (q : Q (.ref L.g) H) : rIxL K (.ref o) (.int 0) H Q := x_ixL (SqL.of h.obj) (by rfl) q
theorem OwnAt.r1 (h : OwnAt H o L W) (q : Q (.ref L.nd) H) : rIxL K (.ref o) (.int 1) H Q := x_ixL (SqL.of h.obj) (by rfl) q
theorem OwnAt.r2 (h : OwnAt H o L W) (q : Q (.ref L.ov) H) : rIxL K (.ref o) (.int 2) H Q := x_ixL (SqL.of h.obj) (by rfl) q
theorem atI_refs {as : List Addr} {n : Nat} (h : n < as.length) : atI (as.map V.ref) (n : Int) = some (.ref (as.getD n 0)) := by
  unfold atI ixN
  rw [List.length_map, if_pos (by omega), if_pos (by omega)]
  show (as.map V.ref)[((n : Int)).toNat]? = _
  rw [Int.toNat_natCast, List.getElem?_map, List.getElem?_eq_getElem h, List.getD_eq_getElem?_getD, List.getElem?_eq_getElem h]
  rfl
theorem OwnAt.node (h : OwnAt H o L W) {n : Nat} (hn : n < W.nodes.length) (q : Q (.ref (L.as.getD n 0)) H) : rIxL K (.ref L.nd) (.int n) H Q := x_ixL (SqL.of h.nds) (atI_refs (by rw [h.la]; exact hn)) q
theorem ONodeAt.f0 {a nm : Addr} {d : Nd} (h : ONodeAt H a nm d) (q : Q (.str d.kind) H) : rIxL K (.ref a) (.int 0) H Q := by
  obtain ⟨rt, h1, _⟩ := h.ex
  exact x_ixL (SqL.of h1) (by rfl) q
theorem ONodeAt.f1 {a nm : Addr} {d : Nd} (h : ONodeAt H a nm d) (q : Q (.int d.owner) H) : rIxL K (.ref a) (.int 1) H Q := by
  obtain ⟨rt, h1, _⟩ := h.ex
  exact x_ixL (SqL.of h1) (by rfl) q
theorem ONodeAt.f2 {a nm : Addr} {d : Nd} (h : ONodeAt H a nm d) (q : Q (.int d.group) H) : rIxL K (.ref a) (.int 2) H Q := by
  obtain ⟨rt, h1, _⟩ := h.ex
  exact x_ixL (SqL.of h1) (by rfl) q
theorem ONodeAt.f3 {a nm : Addr} {d : Nd} (h : ONodeAt H a nm d) (q : ∀ rt, H rt = some (.tup (rtsV d)) → Q (.ref rt) H) : rIxL K (.ref a) (.int 3) H Q := by
  obtain ⟨rt, h1, h2⟩ := h.ex
  exact x_ixL (SqL.of h1) (by rfl) (q rt h2)
theorem ONodeAt.f4 {a nm : Addr} {d : Nd} (h : ONodeAt H a nm d) (q : Q (.ref nm) H) : rIxL K (.ref a) (.int 4) H Q := by
  obtain ⟨rt, h1, _⟩ := h.ex
  exact x_ixL (SqL.of h1) (by rfl) q
theorem ONodeAt.f5 {a nm : Addr} {d : Nd} (h : ONodeAt H a nm d) (q : Q (.str d.text) H) : rIxL K (.ref a) (.int 5) H Q := by
  obtain ⟨rt, h1, _⟩ := h.ex
  exact x_ixL (SqL.of h1) (by rfl) q
end
/-! ### stands as tuples -/
def StandT (H : Hp) (a : Addr) (s : Std) : Prop := H a = some (.tup [.int s.number, .str s.name, nV s.under])
def StandsT (H : Hp) (p : Addr) (ss : List Std) : Prop := ∃ as, H p = some (.lst (as.map V.ref)) ∧ Paired (StandT H) as ss
theorem StandsT.up {H H' : Hp} {p : Addr} {ss : List Std} (h : StandsT H p ss) (e : Ex H H') : StandsT H' p ss := by
  obtain ⟨as, h1, h2⟩ := h
  exact ⟨as, e _ _ h1, L2.Paired.mapP h2 fun a s z => e _ _ z⟩
/-! ### rights by figures -/
theorem may_figs : ∀ m < 8, ∀ r ∈ [1, 2, 4], decide (Builtin.bitAnd ((m : Nat) : Int) ((r : Nat) : Int) = (r : Int)) = decide (((m : Nat) : Int) / (r : Int) % 2 = 1) := by decide +kernel
/-! ### a def without arguments -/
theorem pe_fn0 {X : Cx} {k : Nat} {ps : List Str} {sp : Sp} {E : L2.St → XK} {x : Str} {p pos : Pos} (F : Fn X.prog X.w X.K X.mg X.base k x ps sp) (hr : Room k X.A) (hg : Gl X x) (hx : ∀ σ, PassesAt (L2.CX X.prog X.w) X σ (E σ)) (hdb : (x == ("__debug__" : Str)) = false := by decide) :
    PE X (.Call (.Name x p) [] [] pos) (tFn sp E tNil) := by
  obtain ⟨f, fd, hm, ok, hb, hk⟩ := F.ex
  refine ⟨fun pins s σ H Q I h => ?_⟩
  refine wpAny_Call_Name_kw (ld_glob I hg hm ?_ hdb)
  exact PySem.W.callWith_K0 I.kIn hk (run_fnS (us := []) ok hr hb (hx σ) I .nil h)
/-- three at once -/
theorem x_par3 {σ : L2.St} {H : Hp} {ta : TA} {D : Ends} {i j l : Nat} (q : ta σ H fun vs H1 => ∃ u v w, vs = [u, v, w] ∧ D.nx (((σ.set i (some u)).set j (some v)).set l (some w)) H1) : tPar3 i j l ta D σ H := q
theorem x_ixS {H : Hp} {Q : VK} {z : Str} {i : Int} {c : Nat} (hz : z.length ≤ sizeLine) (h : atI z.cps.toList i = some c) (q : Q (.str ⟨#[c]⟩) H) : rIxS (.str z) (.int i) H Q := ⟨z, i, c, rfl, rfl, hz, h, q⟩
section
variable {H H' : Hp} {p q : Addr} {ss : List Std} {K : PySem.W.Frag} {Q : VK}
theorem paired_lastT {F : Addr → Std → Prop} : ∀ {as : List Addr} {ss : List Std}, Paired F as ss → ss ≠ [] → F (as.getLastD 0) (Tm.last ss)
  | _, _, .nil, h => (h rfl).elim
  | _, _, .cons (a := a) (b := b) h .nil, _ => h
  | _, _, .cons h (.cons h2 t), _ => by
    have := paired_lastT (.cons h2 t) (by simp)
    simpa [Tm.last, List.getLastD] using this
theorem StandsT.last (h : StandsT H p ss) (hne : ss ≠ []) : ∃ (as : List Addr) (a : Addr), H p = some (.lst (as.map V.ref)) ∧ as.length = ss.length ∧ atI (as.map V.ref) (-1) = some (.ref a) ∧ StandT H a (Tm.last ss) := by
  obtain ⟨as, h1, h2⟩ := h
  have hne' : as ≠ [] := fun z => by
    rw [z] at h2
    cases h2
    exact hne rfl
  refine ⟨as, as.getLastD 0, h1, h2.length, ?_, paired_lastT h2 hne⟩
  rw [atI_neg1 (d := V.ref 0) (by simpa using hne')]
  congr 1
  rw [List.getLastD_eq_getLast?, List.getLastD_eq_getLast?, List.getLast?_map]
  cases as.getLast? <;> rfl
theorem refs_inj : ∀ {l m : List Addr}, l.map V.ref = m.map V.ref → l = m := by
  intro l
  induction l with
  | nil => intro m h; cases m with
    | nil => rfl
    | cons _ _ => cases h
  | cons a l ih => intro m h; cases m with
    | nil => cases h
    | cons b m =>
      rw [List.map_cons, List.map_cons] at h
      injection h with h1 h2
      injection h1 with h1
      rw [h1, ih h2]
theorem StandsT.same (h : StandsT H p ss) {as : List Addr} (hp : H p = some (.lst (as.map V.ref))) : Paired (StandT H) as ss := by
  obtain ⟨bs, h1, h2⟩ := h
  rw [h1] at hp
  injection hp with hp
  injection hp with hp
  rw [refs_inj hp] at h2
  exact h2
theorem StandsT.take {as : List Addr} (h : StandsT H p ss) (hp : H p = some (.lst (as.map V.ref))) (e : Ex H H') (n : Nat) (hq : H' q = some (.lst ((as.take n).map V.ref))) : StandsT H' q (ss.take n) :=
  ⟨as.take n, hq, paired_take n ((h.up e).same (e _ _ hp))⟩
end
/-! ### a text's parts -/
theorem first_stroke {s : Str} (h : Txt.slice s none (some 1) = sl) : s = sl ++ Txt.slice s (some 1) none := by
  rw [slice1'] at *
  rw [slice1, sl_S] at h
  have h1 : (cs s).take 1 = [47] := SX.S_inj h
  refine ext_cs ?_
  rw [cs_cat, cs_sl, show cs (SX.S ((cs s).drop 1)) = (cs s).drop 1 from by simp [SX.S], ← h1, List.take_append_drop]
theorem parts_text {b : Bool} {s : Str} {ps : List Str} (h : partsOf b s = some ps) : (Txt.slice s none (some 1) = sl → s = pathOf ps) ∧ (¬ Txt.slice s none (some 1) = sl → s = Txt.join sl ps ∧ ps ≠ []) := by
  have hj : ∀ r : Str, Txt.join sl (Txt.split r sl) = r := fun r => by
    rw [TL.join_eq sl _]
    exact StrLaws.join_split r sl
  unfold partsOf at h
  split at h
  · cases h
  · split at h
    · rename_i hh
      cases h
      refine ⟨fun _ => by rw [hh.2, path_nil], fun z => (z (by rw [hh.2]; decide +kernel)).elim⟩
    · split at h
      · rename_i hg
        cases h
        refine ⟨fun z => ?_, fun z => ?_⟩
        · unfold pathOf
          rw [hj]
          unfold restOf
          rw [if_pos z]
          exact first_stroke z
        · unfold restOf at hg ⊢
          rw [if_neg z] at hg ⊢
          exact ⟨(hj s).symm, fun e => by
            have := hj s
            rw [e, join_nil] at this
            rw [← this] at e
            exact absurd e (by decide +kernel)⟩
      · cases h
theorem parts_segs {b : Bool} {s : Str} {ps : List Str} (h : partsOf b s = some ps) : segs s = ps := by
  have hp := (good_all (parts_good h)).2
  have ht := parts_text h
  by_cases hz : Txt.slice s none (some 1) = sl
  · rw [ht.1 hz, segs_path hp]
  · obtain ⟨h1, h2⟩ := ht.2 hz
    rw [h1, segs_rel h2 hp]
theorem parts_first {b : Bool} {s : Str} {ps : List Str} (h : partsOf b s = some ps) : ∃ c, atI s.cps.toList 0 = some c ∧ decide (V.str ⟨#[c]⟩ = V.str sl) = decide (Txt.slice s none (some 1) = sl) := by
  cases hc : cs s with
  | nil =>
    have : s = "" := ext_cs (by rw [hc]; decide +kernel)
    subst this
    cases b
    · exact absurd h (by rw [show partsOf false "" = none by decide +kernel]; exact fun z => nomatch z)
    · exact absurd h (by rw [show partsOf true "" = none by decide +kernel]; exact fun z => nomatch z)
  | cons c r =>
    refine ⟨c, ?_, ?_⟩
    · show atI (cs s) 0 = some c
      rw [hc]
      unfold atI ixN
      rw [if_pos (by decide), if_pos (by simp)]
      rfl
    · rw [dec_str, slice1, hc]
      rfl
/-! ### the parts of a text that are not empty -/
theorem x_segs {K : PySem.W.Frag} {σ : L2.St} {H : Hp} {Q : VK} {s : Str} {j : Nat} {vs : List Nat} (hw : ∀ x, wipe ((wipe σ vs).set j (some x)) vs = wipe σ vs) (hv : ∀ x, ((wipe σ vs).set j (some x))[j]? = some (some x)) (hz : s.length ≤ 1000) (q : ∀ D H', H D = none → Ex H H' → H' D = some (.lst ((segs s).map V.str)) → Q (.ref D) H') :
    rNewStrs (Txt.split s sl) H fun x H1 => ∃ a, x = .ref a ∧ (∃ xs, SqL K H1 a xs) ∧ LcK (Itl K a) (gName j) (tTest (tOp rNe (tVar j) (tC (V.str (Str.ofString ""))))) (tVar j) vs σ Q H1 := by
  intro p hp
  have hsz : (Txt.split s sl).length ≤ 100000 := by
    have := split_count s
    omega
  refine x_lcLV (SqL.of upd_same) ⟨hw, by rw [List.length_map]; exact hsz, fun v => !decide (v = .str nn), id, fun x hx H' e R k => ?_, fun x hx _ H' e R k => ?_, fun D H' hD e hl => ?_⟩
  · obtain ⟨y, hy, rfl⟩ := List.mem_map.mp hx
    exact x_test (x_op (x_var (hv _) (x_c (x_ne rfl (x_bl (k H' Ex.rfl))))))
  · exact x_var (hv _) (k H' Ex.rfl)
  · have hse : (((Txt.split s sl).map V.str).filter fun v => !decide (v = .str nn)).map id = (segs s).map V.str := by
      unfold segs
      rw [List.map_id, List.filter_map]
      congr 2
      funext y
      show (!decide (V.str y = V.str nn)) = !decide (y = nn)
      rw [dec_str]
    rw [hse] at hl
    exact q D H' (back_none (Ex.new hp) hD) ((Ex.new hp).tr e) hl
/-! ### the last stroke -/
theorem rfind_sl {x : Str} {a b : List Nat} (h : cs x = a ++ 47 :: b) (hb : 47 ∉ b) : Txt.rfind x sl = (a.length : Int) := by
  have hat : ∀ i, StrLaws.At x sl x.length i ↔ i + 1 ≤ x.length ∧ ((cs x).drop i).take 1 = [47] := fun i => by
    unfold StrLaws.At
    rw [StrLaws.subAt_eq, sl_len, show sl.cps.toList = [47] from cs_sl]
    simp
  have hl : x.length = a.length + 1 + b.length := by
    rw [len_cs, h, List.length_append, List.length_cons]
    omega
  have hA : StrLaws.At x sl x.length a.length := (hat _).mpr ⟨by omega, by rw [h, List.drop_left]; rfl⟩
  rcases StrLaws.last_spec x sl with ⟨_, h2⟩ | ⟨i, h1, h2, h3⟩
  · exact (h2 _ hA).elim
  · have hi : i = a.length := by
      by_cases c1 : i < a.length
      · exact (h3 _ c1 hA).elim
      · by_cases c2 : i = a.length
        · exact c2
        · have h4 := ((hat i).mp h2).2
          rw [h, List.drop_append, List.drop_eq_nil_of_le (by omega), List.nil_append] at h4
          have e : i - a.length = i - a.length - 1 + 1 := by omega
          rw [e, List.drop_succ_cons] at h4
          have : 47 ∈ (b.drop (i - a.length - 1)).take 1 := by rw [h4]; simp
          exact (hb (List.mem_of_mem_drop (List.mem_of_mem_take this))).elim
    unfold Txt.rfind
    rw [h1, hi]
/-- the text ahead of the last stroke -/
def headT (qs : List Str) : Str := if qs = [] then nn else pathOf qs
theorem path_snoc (qs : List Str) (n : Str) : pathOf (qs ++ [n]) = headT qs ++ sl ++ n := by
  unfold headT
  have one : Txt.join sl [n] = n := by
    exact ext_cs (by rw [cs_join]; rfl)
  by_cases h : qs = []
  · subst h
    rw [if_pos rfl, nn_cat]
    show sl ++ Txt.join sl [n] = sl ++ n
    rw [one]
  · rw [if_neg h]
    unfold pathOf
    rw [join_app h (by simp), one, str_assoc, str_assoc, str_assoc]
theorem seg_head {qs : List Str} (h : ∀ p ∈ qs, isPart p = true) : segs (headT qs) = qs := by
  unfold headT
  split
  · rename_i e
    rw [e]
    decide +kernel
  · exact segs_path h
theorem path_last {qs : List Str} {n : Str} (h : isPart n = true) : Txt.rfind (pathOf (qs ++ [n])) sl = ((headT qs).length : Int) ∧ Txt.slice (pathOf (qs ++ [n])) (some ((headT qs).length + 1)) none = n ∧ Txt.slice (pathOf (qs ++ [n])) none (some ((headT qs).length : Int)) = headT qs := by
  have e : cs (pathOf (qs ++ [n])) = cs (headT qs) ++ 47 :: cs n := by
    rw [path_snoc, cs_cat, cs_cat, cs_sl]
    simp
  have l := len_cs (headT qs)
  refine ⟨?_, ?_, ?_⟩
  · rw [rfind_sl e (part_facts h).2.1, l]
  · rw [← S_cs (pathOf (qs ++ [n])), SX.slice_from (by omega), e, show ((headT qs).length + 1 : Int).toNat = (cs (headT qs)).length + 1 by omega, List.drop_append, List.drop_eq_nil_of_le (by omega)]
    rw [show (cs (headT qs)).length + 1 - (cs (headT qs)).length = 1 by omega, List.nil_append, List.drop_succ_cons, List.drop_zero, S_cs]
  · rw [← S_cs (pathOf (qs ++ [n])), SX.slice_to (by omega), e, show ((headT qs).length : Int).toNat = (cs (headT qs)).length by omega, List.take_left]
theorem path_top : Txt.rfind (pathOf []) sl = 0 ∧ Txt.slice (pathOf []) (some 1) none = nn := by decide +kernel
/-! ### rooms, places -/
def roomW (W : Wd) (u : Int) (ps : List Str) : Res (List Std) := match wayOf W u true ps with
  | .stuck => .err (.no 0)
  | .err e => .err e
  | .ok ss none => .ok ss
  | .ok _ (some _) => .err (.no 6)
theorem wayGo_leaf {W : Wd} {u : Int} {follow : Bool} : ∀ (m : Nat) (ss : List Std) (rest : List Str) (hints : Nat) {rs : List Std} {k : Nat}, wayGo W u follow m ss rest hints = .ok rs (some k) → (W.at k).kind ≠ "room"
  | 0, _, _, _, _, _, h => by
    unfold wayGo at h
    cases h
  | m + 1, ss, [], _, rs, k, h => by
    unfold wayGo at h
    cases h
  | m + 1, ss, part :: rest, hints, rs, k, h => by
    unfold wayGo at h
    split at h
    · cases h
    · split at h
      · exact wayGo_leaf m _ _ _ h
      · split at h
        · exact wayGo_leaf m _ _ _ h
        · split at h
          · cases h
          · split at h
            · split at h
              · cases h
              · exact wayGo_leaf m _ _ _ h
            · split at h
              · exact wayGo_leaf m _ _ _ h
              · rename_i hr
                split at h
                · cases h
                · cases h
                  exact hr
theorem wayOf_leaf {W : Wd} {u : Int} {follow : Bool} {ps : List Str} {ss : List Std} {k : Nat} (h : wayOf W u follow ps = .ok ss (some k)) : (W.at k).kind ≠ "room" := wayGo_leaf _ _ _ _ h
theorem roomW_place {W : Wd} {u : Int} {ps : List Str} {n : Str} : placeOn W u n (wayOf W u true ps) = match roomW W u ps with
    | .err e => .err e
    | .ok ss => if mayOf W u (last ss).number 3 = true then .ok ss n else .err (.right u (last ss).number) := by
  unfold roomW
  cases wayOf W u true ps with
  | stuck => rfl
  | err e => rfl
  | ok ss num => cases num <;> rfl
theorem bit3 : ∀ m < 8, decide (Builtin.bitAnd ((m : Nat) : Int) 3 = 3) = (decide (Builtin.bitAnd ((m : Nat) : Int) 2 = 2) && decide (Builtin.bitAnd ((m : Nat) : Int) 1 = 1)) := by decide +kernel
theorem bit5 : ∀ m < 8, decide (Builtin.bitAnd ((m : Nat) : Int) 5 = 5) = (decide (Builtin.bitAnd ((m : Nat) : Int) 4 = 4) && decide (Builtin.bitAnd ((m : Nat) : Int) 1 = 1)) := by decide +kernel
theorem mine_ok {W : Wd} (ok : W.Ok) {u : Int} {n : Nat} (hn : n < W.nodes.length) : ∃ m : Nat, mine W u n = m ∧ m < 8 := by
  have okn := ok.at hn
  have hm : 0 ≤ mine W u n ∧ mine W u n ≤ 7 := by
    unfold mine
    dsimp only
    split
    · exact okn.rts.1
    · split
      · exact okn.rts.2.1
      · exact okn.rts.2.2
  exact ⟨(mine W u n).toNat, by omega, by omega⟩
theorem may3 {W : Wd} (ok : W.Ok) {u : Int} {n : Nat} (hn : n < W.nodes.length) : mayOf W u n 3 = (mayOf W u n 2 && mayOf W u n 1) := by
  obtain ⟨m, h1, h2⟩ := mine_ok ok (u := u) hn
  unfold mayOf
  rw [h1, bit3 m h2]
  cases decide (u = 0) <;> rfl
theorem may5 {W : Wd} (ok : W.Ok) {u : Int} {n : Nat} (hn : n < W.nodes.length) : mayOf W u n 5 = (mayOf W u n 4 && mayOf W u n 1) := by
  obtain ⟨m, h1, h2⟩ := mine_ok ok (u := u) hn
  unfold mayOf
  rw [h1, bit5 m h2]
  cases decide (u = 0) <;> rfl
/-- the place of a path from the top -/
theorem place_snoc {W : Wd} {u : Int} {qs : List Str} {n : Str} (hg : goodParts (qs ++ [n]) = true) (hn : isName n = true) : placeV W u (.str (pathOf (qs ++ [n]))) = placeOn W u n (wayOf W u true qs) := by
  refine placeV_way ?_
  unfold splitOf
  rw [parts_path true hg]
  simp only [List.getLast?_concat, List.dropLast_concat]
  rw [if_pos hn]
theorem place_bad {W : Wd} {u : Int} {qs : List Str} {n : Str} (hg : goodParts (qs ++ [n]) = true) (hn : isName n = false) : placeV W u (.str (pathOf (qs ++ [n]))) = .err (.no 0) := by
  unfold placeV splitOf
  simp only [parts_path true hg, List.getLast?_concat, List.dropLast_concat]
  rw [if_neg (by rw [hn]; decide)]
theorem place_top {W : Wd} {u : Int} : placeV W u (.str (pathOf [])) = .err (.no 0) := by
  unfold placeV splitOf
  simp only [parts_path true (show goodParts [] = true by rfl)]
  rfl
theorem part_cases {n : Str} (h : isPart n = true) : (isName n = false ∧ (n = "." ∨ n = "..")) ∨ (isName n = true ∧ n ≠ "." ∧ n ≠ ".." ∧ n ≠ nn) := by
  have hnn := part_nn h
  unfold isPart at h
  simp only [Bool.or_eq_true, decide_eq_true_eq] at h
  rcases h with h | h | h
  · exact .inl ⟨by rw [h]; exact not_name_dot, .inl h⟩
  · exact .inl ⟨by rw [h]; exact not_name_dots, .inr h⟩
  · refine .inr ⟨h, fun z => ?_, fun z => ?_, hnn⟩
    · rw [z, not_name_dot] at h
      cases h
    · rw [z, not_name_dots] at h
      cases h
theorem in_dots {n : Str} (h1 : n ≠ ".") (h2 : n ≠ "..") (h3 : n ≠ nn) : inV (.str n) [.str (Str.ofString ""), .str (Str.ofString "."), .str (Str.ofString "..")] = false := by
  have hd : ∀ b : Str, n ≠ b → eqV (.str b) (.str n) = false := fun b hb => beq_eq_false_iff_ne.mpr fun z => hb z.symm
  unfold inV
  rw [List.any_cons, List.any_cons, List.any_cons, hd _ h3, hd _ h1, hd _ h2]
  rfl
/-! ### writing it -/
section
variable {H H' : Hp} {o : Addr} {L : Lay} {W : Wd}
theorem OwnAt.dN (h : OwnAt H o L W) : L.ns.Nodup := (List.nodup_append.mp (List.nodup_cons.mp (List.nodup_cons.mp (List.nodup_cons.mp (List.nodup_cons.mp h.dis).2).2).2).2).2.1
theorem OwnAt.dA (h : OwnAt H o L W) : L.as.Nodup := (List.nodup_append.mp (List.nodup_cons.mp (List.nodup_cons.mp (List.nodup_cons.mp (List.nodup_cons.mp h.dis).2).2).2).2).1
theorem OwnAt.dAN (h : OwnAt H o L W) {a b : Addr} (ha : a ∈ L.as) (hb : b ∈ L.ns) : a ≠ b := (List.nodup_append.mp (List.nodup_cons.mp (List.nodup_cons.mp (List.nodup_cons.mp (List.nodup_cons.mp h.dis).2).2).2).2).2.2 a ha b hb
theorem OwnAt.dO (h : OwnAt H o L W) {a : Addr} (ha : a ∈ L.as ∨ a ∈ L.ns) : o ≠ a ∧ L.g ≠ a ∧ L.nd ≠ a ∧ L.ov ≠ a := by
  have h1 := List.nodup_cons.mp h.dis
  have h2 := List.nodup_cons.mp h1.2
  have h3 := List.nodup_cons.mp h2.2
  have h4 := List.nodup_cons.mp h3.2
  have m : a ∈ L.as ++ L.ns := List.mem_append.mpr ha
  exact ⟨fun z => h1.1 (by rw [z]; exact List.mem_cons_of_mem _ (List.mem_cons_of_mem _ (List.mem_cons_of_mem _ m))), fun z => h2.1 (by rw [z]; exact List.mem_cons_of_mem _ (List.mem_cons_of_mem _ m)), fun z => h3.1 (by rw [z]; exact List.mem_cons_of_mem _ m), fun z => h4.1 (by rw [z]; exact m)⟩
theorem OwnAt.dF (h : OwnAt H o L W) : o ≠ L.nd ∧ L.g ≠ L.nd ∧ L.ov ≠ L.nd ∧ o ≠ L.ov ∧ L.g ≠ L.ov := by
  have h1 := List.nodup_cons.mp h.dis
  have h2 := List.nodup_cons.mp h1.2
  have h3 := List.nodup_cons.mp h2.2
  exact ⟨fun z => h1.1 (by rw [z]; simp), fun z => h2.1 (by rw [z]; simp), fun z => h3.1 (by rw [z]; simp), fun z => h1.1 (by rw [z]; simp), fun z => h2.1 (by rw [z]; simp)⟩
/-- the names of node i are written -/
theorem OwnAt.names (h : OwnAt H o L W) {i : Nat} {l : List (Str × Nat)} (hi : i < W.nodes.length) (h1 : H' (L.ns.getD i 0) = some (.dK (namesV l))) (off : ∀ b, b ≠ L.ns.getD i 0 → H' b = H b) : OwnAt H' o L (W.put i { W.at i with names := l }) := by
  have mn := h.mN hi
  obtain ⟨n1, n2, n3, n4⟩ := h.dO (.inr mn)
  refine ⟨by rw [off _ n1]; exact h.obj, by rw [off _ n2]; exact h.grp, by rw [off _ n3]; exact h.nds, by rw [off _ n4]; exact h.ovr, by rw [Wd.len_put]; exact h.la, by rw [Wd.len_put]; exact h.ln, fun j hj => ?_, h.dis⟩
  rw [Wd.len_put] at hj
  rw [Wd.at_put hi]
  obtain ⟨rt, z1, z2⟩ := (h.nod j hj).ex
  have nt : rt ≠ L.ns.getD i 0 := fun z => by
    rw [z, (h.nod i hi).nam] at z2
    cases z2
  have na : L.as.getD j 0 ≠ L.ns.getD i 0 := h.dAN (h.mA hj) mn
  by_cases e : j = i
  · subst e
    rw [if_pos rfl]
    exact ⟨⟨rt, by rw [off _ na]; exact z1, by rw [off _ nt]; exact z2⟩, h1⟩
  · rw [if_neg e]
    refine ⟨⟨rt, by rw [off _ na]; exact z1, by rw [off _ nt]; exact z2⟩, ?_⟩
    rw [off _ fun z => e (getD_inj h.dN (by rw [h.ln]; exact hj) (by rw [h.ln]; exact hi) z)]
    exact (h.nod j hj).nam
/-- one node more -/
theorem OwnAt.add (h : OwnAt H o L W) {a nm rt : Addr} {d : Nd} (e : ∀ b u, H b = some u → b ≠ L.nd → H' b = some u) (h1 : H' L.nd = some (.lst ((L.as ++ [a]).map V.ref))) (ha : H' a = some (.lst (ownF d nm rt))) (hn : H' nm = some (.dK (namesV d.names))) (hr : H' rt = some (.tup (rtsV d))) (fa : a ∉ fo o L) (fn : nm ∉ fo o L) (ne : a ≠ nm) : OwnAt H' o (L.add a nm) (W.add d) := by
  obtain ⟨d1, d2, d3, _⟩ := h.dF
  refine ⟨e _ _ h.obj d1, e _ _ h.grp d2, h1, e _ _ h.ovr d3, ?_, ?_, fun i hi => ?_, ?_⟩
  · rw [Wd.add_len, ← h.la]
    simp [Lay.add]
  · rw [Wd.add_len, ← h.ln]
    simp [Lay.add]
  · rw [Wd.add_len] at hi
    by_cases c : i < W.nodes.length
    · rw [Wd.add_at c]
      have ga : (L.add a nm).as.getD i 0 = L.as.getD i 0 := by
        show (L.as ++ [a]).getD i 0 = _
        rw [List.getD_eq_getElem?_getD, List.getElem?_append_left (by rw [h.la]; exact c), ← List.getD_eq_getElem?_getD]
      have gn : (L.add a nm).ns.getD i 0 = L.ns.getD i 0 := by
        show (L.ns ++ [nm]).getD i 0 = _
        rw [List.getD_eq_getElem?_getD, List.getElem?_append_left (by rw [h.ln]; exact c), ← List.getD_eq_getElem?_getD]
      rw [ga, gn]
      obtain ⟨r, z1, z2⟩ := (h.nod i c).ex
      refine ⟨⟨r, e _ _ z1 (h.dO (.inl (h.mA c))).2.2.1.symm, e _ _ z2 fun z => ?_⟩, e _ _ (h.nod i c).nam (h.dO (.inr (h.mN c))).2.2.1.symm⟩
      rw [z, h.nds] at z2
      cases z2
    · have ei : i = W.nodes.length := by omega
      subst ei
      rw [Wd.add_new]
      have ga : (L.add a nm).as.getD W.nodes.length 0 = a := by
        show (L.as ++ [a]).getD _ 0 = a
        rw [List.getD_eq_getElem?_getD, ← h.la, List.getElem?_concat_length]
        rfl
      have gn : (L.add a nm).ns.getD W.nodes.length 0 = nm := by
        show (L.ns ++ [nm]).getD _ 0 = nm
        rw [List.getD_eq_getElem?_getD, ← h.ln, List.getElem?_concat_length]
        rfl
      rw [ga, gn]
      exact ⟨⟨rt, ha, hr⟩, hn⟩
  · show (o :: L.g :: L.nd :: L.ov :: ((L.as ++ [a]) ++ (L.ns ++ [nm]))).Nodup
    have p : List.Perm (o :: L.g :: L.nd :: L.ov :: ((L.as ++ [a]) ++ (L.ns ++ [nm]))) (a :: nm :: fo o L) := by
      have e : o :: L.g :: L.nd :: L.ov :: ((L.as ++ [a]) ++ (L.ns ++ [nm])) = (o :: L.g :: L.nd :: L.ov :: L.as) ++ a :: (L.ns ++ [nm]) := by simp
      rw [e]
      refine List.perm_middle.trans (List.Perm.cons a ?_)
      have e2 : (o :: L.g :: L.nd :: L.ov :: L.as) ++ (L.ns ++ [nm]) = ((o :: L.g :: L.nd :: L.ov :: L.as) ++ L.ns) ++ nm :: [] := by simp
      rw [e2]
      refine List.perm_middle.trans (List.Perm.cons nm ?_)
      rw [List.append_nil]
      exact List.Perm.refl _
    rw [p.nodup_iff]
    refine List.nodup_cons.mpr ⟨fun z => ?_, List.nodup_cons.mpr ⟨fn, h.dis⟩⟩
    rcases List.mem_cons.mp z with z | z
    · exact ne z
    · exact fa z
end
def ownNd (W : Wd) (kind : Str) (u r0 r1 r2 : Int) (t : Str) : Nd := ⟨kind, u, W.groups.getD u.toNat 0, r0, r1, r2, [], t, 1⟩
theorem ownNd_deed {W : Wd} {kind : Str} {u r0 r1 r2 : Int} {t : Str} (hk : kind = "room" ∨ kind = "leaf" ∨ kind = "hint") (h1 : kind = "room" → t = "") (h2 : kind = "hint" → r0 = 7 ∧ r1 = 7 ∧ r2 = 7) : deedNd W kind u r0 r1 r2 t = ownNd W kind u r0 r1 r2 t := by
  unfold deedNd
  rcases hk with rfl | rfl | rfl
  · rw [if_pos rfl, h1 rfl]
    rfl
  · rw [if_neg (by decide +kernel), if_pos rfl]
    rfl
  · obtain ⟨rfl, rfl, rfl⟩ := h2 rfl
    rw [if_neg (by decide +kernel), if_neg (by decide +kernel)]
    rfl
theorem put_add {W : Wd} {r : Nat} {x d : Nd} (hr : r < W.nodes.length) : (W.put r x).add d = (W.add d).put r x := by
  unfold Wd.put Wd.add
  simp only [Wd.mk.injEq, true_and, and_true]
  rw [List.set_append_left _ _ hr]
theorem fo_add {o a nm : Addr} {L : Lay} {H : Hp} (ha : H a = none) (hn : H nm = none) : Gr (fo o L) (fo o (L.add a nm)) H := fun b hb => by
  unfold fo Lay.add at hb
  simp only [List.mem_cons, List.mem_append, List.not_mem_nil, or_false] at hb
  unfold fo
  simp only [List.mem_cons, List.mem_append]
  rcases hb with h | h | h | h | (h | h) | (h | h)
  · exact .inl (.inl h)
  · exact .inl (.inr (.inl h))
  · exact .inl (.inr (.inr (.inl h)))
  · exact .inl (.inr (.inr (.inr (.inl h))))
  · exact .inl (.inr (.inr (.inr (.inr (.inl h)))))
  · rw [h]; exact .inr ha
  · exact .inl (.inr (.inr (.inr (.inr (.inr h)))))
  · rw [h]; exact .inr hn
/-! ### a law's town, its house and its own world -/
structure GenSt (K : PySem.W.Frag) (H : Hp) (t c h : Addr) (L : Lay) (W : Wd) (o : Addr) (M : Lay) (V : Wd) : Prop where
  ls : LawSt K H t c h L W
  ow : OwnAt H o M V
  tf : t ∉ fo o M
  cf : c ∉ fo o M
  df : ∀ a ∈ fo o M, a ∉ L.g :: fp h L
def genS (t c h : Addr) (L : Lay) (o : Addr) (M : Lay) : List Addr := L.g :: (lawS t c h L ++ fo o M)
section
variable {K : PySem.W.Frag} {H H' : Hp} {t c h o : Addr} {L L' M M' : Lay} {W W' V V' : Wd}
theorem GenSt.there (s : GenSt K H t c h L W o M V) : ∀ a ∈ genS t c h L o M, ∃ x, H a = some x := fun a ha => by
  rcases List.mem_cons.mp ha with rfl | ha
  · exact ⟨_, s.ls.hh.grp⟩
  rcases List.mem_append.mp ha with z | z
  · exact s.ls.there a z
  · rcases s.ow.there z with ⟨_, y⟩ | ⟨_, y⟩ <;> exact ⟨_, y⟩
theorem GenSt.up (s : GenSt K H t c h L W o M V) (e : Ex H H') : GenSt K H' t c h L W o M V ∧ Ex (mask (genS t c h L o M) H) (mask (genS t c h L o M) H') :=
  ⟨⟨(s.ls.up e).1, s.ow.up e, s.tf, s.cf, s.df⟩, mask_step e.off .rfl⟩
theorem GenSt.draw (s : GenSt K H t c h L W o M V) (T : Town H' t c) (f : Off [t, c] H H') : GenSt K H' t c h L W o M V ∧ Ex (mask (genS t c h L o M) H) (mask (genS t c h L o M) H') := by
  refine ⟨⟨(s.ls.draw T f).1, s.ow.off f (fun a ha z => ?_) (fun a ha xs z => ?_), s.tf, s.cf, s.df⟩, mask_step (f.sub fun a ha => ?_) .rfl⟩
  · rcases List.mem_cons.mp ha with rfl | ha
    · exact s.tf z
    · rw [List.mem_singleton.mp ha] at z
      exact s.cf z
  · obtain ⟨ys, hy⟩ := town_lst s.ls.tw ha
    rw [hy] at z
    cases z
  · refine List.mem_cons_of_mem _ (List.mem_append_left _ ?_)
    unfold lawS
    rcases List.mem_cons.mp ha with rfl | ha
    · exact List.mem_cons_self ..
    · rw [List.mem_singleton.mp ha]
      exact List.mem_cons_of_mem _ (List.mem_cons_self ..)
theorem house_tup (hh : HouseAt K H h L W) : ∀ a ∈ fp h L, ∀ xs, H a ≠ some (.tup xs) := fun a ha xs z => (hh.clear a ha xs).2 (.inl z)
theorem own_tup (ow : OwnAt H o M V) : ∀ a ∈ fo o M, ∀ xs, H a ≠ some (.tup xs) := fun a ha xs z => by
  rcases ow.there ha with ⟨_, y⟩ | ⟨_, y⟩ <;> rw [z] at y <;> cases y
theorem GenSt.house (s : GenSt K H t c h L W o M V) (hh : HouseAt K H' h L' W') (ok : W'.Ok) (f : Off (fp h L) H H') (g : Grew h L L' H) : GenSt K H' t c h L' W' o M V ∧ Ex (mask (genS t c h L o M) H) (mask (genS t c h L' o M) H') := by
  have ls := s.ls.deed hh ok f g
  refine ⟨⟨ls.1, s.ow.off f (fun a ha z => s.df a z (List.mem_cons_of_mem _ ha)) (house_tup s.ls.hh), s.tf, s.cf, fun a ha z => ?_⟩, mask_step (f.sub fun a ha => List.mem_cons_of_mem _ (List.mem_append_left _ (List.mem_cons_of_mem _ (List.mem_cons_of_mem _ ha)))) fun a ha => ?_⟩
  · have nn : H a ≠ none := by
      rcases s.ow.there ha with ⟨_, y⟩ | ⟨_, y⟩ <;> rw [y] <;> exact fun z => nomatch z
    rcases List.mem_cons.mp z with z | z
    · exact s.df a ha (by rw [z, g.1.2.2]; exact List.mem_cons_self ..)
    · rcases g.2 a z with z | z
      · exact s.df a ha (List.mem_cons_of_mem _ z)
      · exact nn z
  · rcases List.mem_cons.mp ha with rfl | ha
    · rw [g.1.2.2]
      exact .inl (List.mem_cons_self ..)
    rcases List.mem_append.mp ha with ha | ha
    · unfold lawS at ha
      rcases List.mem_cons.mp ha with rfl | ha
      · exact .inl (List.mem_cons_of_mem _ (List.mem_append_left _ (List.mem_cons_self ..)))
      · rcases List.mem_cons.mp ha with rfl | ha
        · exact .inl (List.mem_cons_of_mem _ (List.mem_append_left _ (List.mem_cons_of_mem _ (List.mem_cons_self ..))))
        · rcases g.2 a ha with z | z
          · exact .inl (List.mem_cons_of_mem _ (List.mem_append_left _ (List.mem_cons_of_mem _ (List.mem_cons_of_mem _ z))))
          · exact .inr z
    · exact .inl (List.mem_cons_of_mem _ (List.mem_append_right _ ha))
theorem GenSt.own (s : GenSt K H t c h L W o M V) (ow : OwnAt H' o M' V') (f : Off (fo o M) H H') (g : Gr (fo o M) (fo o M') H) : GenSt K H' t c h L W o M' V' ∧ Ex (mask (genS t c h L o M) H) (mask (genS t c h L o M') H') := by
  have nt : ∀ {a x}, H a = some x → a ∉ fo o M → a ∉ fo o M' := fun {a x} ha hn z => by
    rcases g a z with z | z
    · exact hn z
    · rw [ha] at z
      cases z
  obtain ⟨x1, ht⟩ := s.ls.tw.t
  obtain ⟨x2, hc⟩ := s.ls.tw.c
  refine ⟨⟨⟨s.ls.tw.off f s.tf s.cf, s.ls.hh.off f s.df (own_tup s.ow), s.ls.tf, s.ls.cf, s.ls.gc, s.ls.ok⟩, ow, nt ht s.tf, nt hc s.cf, fun a ha z => ?_⟩, mask_step (f.sub fun a ha => List.mem_cons_of_mem _ (List.mem_append_right _ ha)) fun a ha => ?_⟩
  · rcases g a ha with y | y
    · exact s.df a y z
    · have : ∃ x, H a = some x := by
        rcases List.mem_cons.mp z with z | z
        · rw [z]
          exact ⟨_, s.ls.hh.grp⟩
        · exact s.ls.hh.there z
      obtain ⟨x, hx⟩ := this
      rw [y] at hx
      cases hx
  · rcases List.mem_cons.mp ha with rfl | ha
    · exact .inl (List.mem_cons_self ..)
    rcases List.mem_append.mp ha with ha | ha
    · exact .inl (List.mem_cons_of_mem _ (List.mem_append_left _ ha))
    · rcases g a ha with z | z
      · exact .inl (List.mem_cons_of_mem _ (List.mem_append_right _ z))
      · exact .inr z
theorem GenSt.start (s : LawSt K H t c h L W) (e : Ex H H') (ow : OwnAt H' o M V) (f : ∀ b ∈ fo o M, H b = none) : GenSt K H' t c h L W o M V := by
  have nf : ∀ {b x}, H b = some x → b ∉ fo o M := fun {b x} hb z => by
    rw [f b z] at hb
    cases hb
  obtain ⟨x1, ht⟩ := s.tw.t
  obtain ⟨x2, hc⟩ := s.tw.c
  refine ⟨(s.up e).1, ow, nf ht, nf hc, fun a ha z => ?_⟩
  have : ∃ x, H a = some x := by
    rcases List.mem_cons.mp z with z | z
    · rw [z]
      exact ⟨_, s.hh.grp⟩
    · exact s.hh.there z
  obtain ⟨x, hx⟩ := this
  rw [f a ha] at hx
  cases hx
end
/-- a hint of one or two parts -/
def hintB (tx : Str) : Bool := match partsOf false tx with
  | some qs => decide (qs.length ≤ 2)
  | none => false
def AllL (ps : List Str) : Prop := ∀ p ∈ ps, LPart p
/-- a deed of the laws -/
structure GDeed (kind : Str) (u : Int) (ps : List Str) (r0 r1 r2 : Int) (tx : Str) : Prop where
  d : DeedOk kind r0 r1 r2 tx
  k : kind = "room" ∨ kind = "leaf" ∨ kind = "hint"
  t0 : kind = "room" → tx = ""
  r7 : kind = "hint" → r0 = 7 ∧ r1 = 7 ∧ r2 = 7
  u0 : 0 ≤ u
  u3 : u < 3
  p3 : ps.length ≤ 3
  lp : AllL ps
  ps : goodParts ps = true
  so : PyData.strOk tx = true
  h2 : kind = "hint" → hintB tx = true
def lpB (ps : List Str) : Bool := ps.all fun p => decide (p = "." ∨ p = ".." ∨ p ∈ lnames)
theorem lpB_ok {ps : List Str} (h : lpB ps = true) : AllL ps := fun p hp => (of_decide_eq_true (List.all_eq_true.mp h p hp) : p = "." ∨ p = ".." ∨ p ∈ lnames)
def DeedAt (H : Hp) (dp : Addr) (kind : Str) (u : Int) (ps : List Str) (r0 r1 r2 : Int) (tx : Str) : Prop := ∃ rt, H dp = some (.tup [.str kind, .int u, .str (pathOf ps), .ref rt, .str tx]) ∧ H rt = some (.tup [.int r0, .int r1, .int r2]) ∧ GDeed kind u ps r0 r1 r2 tx
theorem DeedAt.up {H H' : Hp} {dp : Addr} {kind : Str} {u : Int} {ps : List Str} {r0 r1 r2 : Int} {tx : Str} (h : DeedAt H dp kind u ps r0 r1 r2 tx) (e : Ex H H') : DeedAt H' dp kind u ps r0 r1 r2 tx := by
  obtain ⟨rt, h1, h2, h3⟩ := h
  exact ⟨rt, e _ _ h1, e _ _ h2, h3⟩
/-- a tuple stands through a draw -/
theorem Off.tup {H H' : Hp} {t c p : Addr} {xs : List V} (e : Off [t, c] H H') (T : Town H t c) (h : H p = some (.tup xs)) : H' p = some (.tup xs) := e p _ h fun z => by
  obtain ⟨ys, hy⟩ := town_lst T z
  rw [hy] at h
  cases h
/-- a list of the law's own is written -/
theorem GenSt.priv {K : PySem.W.Frag} {H H' : Hp} {t c h o p : Addr} {L M : Lay} {W V : Wd} {xs : List L2.V} (s : GenSt K H t c h L W o M V) (hp : p ∉ genS t c h L o M) (hx : H p = some (.lst xs)) (f : Off [p] H H') : GenSt K H' t c h L W o M V := by
  have np : ∀ a ∈ [p], a ∉ genS t c h L o M := fun a ha => by
    rw [List.mem_singleton.mp ha]
    exact hp
  have nt : ∀ a ∈ [p], ∀ ys, H a ≠ some (.tup ys) := fun a ha ys z => by
    rw [List.mem_singleton.mp ha, hx] at z
    cases z
  have m1 : ∀ a, a ∈ L.g :: fp h L → a ∈ genS t c h L o M := fun a ha => by
    rcases List.mem_cons.mp ha with rfl | ha
    · exact List.mem_cons_self ..
    · exact List.mem_cons_of_mem _ (List.mem_append_left _ (List.mem_cons_of_mem _ (List.mem_cons_of_mem _ ha)))
  have m2 : ∀ a, a ∈ fo o M → a ∈ genS t c h L o M := fun a ha => List.mem_cons_of_mem _ (List.mem_append_right _ ha)
  have mt : t ∈ genS t c h L o M := List.mem_cons_of_mem _ (List.mem_append_left _ (List.mem_cons_self ..))
  have mc : c ∈ genS t c h L o M := List.mem_cons_of_mem _ (List.mem_append_left _ (List.mem_cons_of_mem _ (List.mem_cons_self ..)))
  exact ⟨⟨s.ls.tw.off f (fun z => np _ z mt) (fun z => np _ z mc), s.ls.hh.off f (fun a ha z => np a ha (m1 a z)) nt, s.ls.tf, s.ls.cf, s.ls.gc, s.ls.ok⟩, s.ow.off f (fun a ha z => np a ha (m2 a z)) nt, s.tf, s.cf, s.df⟩
def GD (H : Hp) (d : Addr) : Prop := ∃ kind u ps r0 r1 r2 tx, DeedAt H d kind u ps r0 r1 r2 tx
theorem GD.up {H H' : Hp} {d : Addr} (h : GD H d) (e : Ex H H') : GD H' d := by
  obtain ⟨k, u, ps, r0, r1, r2, tx, h⟩ := h
  exact ⟨k, u, ps, r0, r1, r2, tx, h.up e⟩
theorem gd_of {H : Hp} {d rt : Addr} {kind s tx : Str} {u r0 r1 r2 : Int} (ps : List Str) (h1 : H d = some (.tup [.str kind, .int u, .str s, .ref rt, .str tx])) (h2 : H rt = some (.tup [.int r0, .int r1, .int r2])) (hs : s = pathOf ps)
    (g : R8 r0 ∧ R8 r1 ∧ R8 r2 ∧ tx.length ≤ 1000 ∧ (kind = "room" ∨ (kind = "leaf" ∧ textB (.str tx) = true) ∨ (kind = "hint" ∧ (partsOf false tx).isSome = true)) ∧ (kind = "room" → tx = "") ∧ (kind = "hint" → r0 = 7 ∧ r1 = 7 ∧ r2 = 7) ∧ 0 ≤ u ∧ u < 3 ∧ goodParts ps = true ∧ PyData.strOk tx = true ∧ (kind = "hint" → hintB tx = true) ∧ ps.length ≤ 3) (lp : lpB ps = true := by decide +kernel) : GD H d := by
  obtain ⟨g0, g1, g2, g3, g4, g5, g6, g7, g8, g9, g10, g11, g12⟩ := g
  refine ⟨kind, u, ps, r0, r1, r2, tx, rt, by rw [h1, hs], h2, ⟨g0, g1, g2, g3, g4⟩, ?_, g5, g6, g7, g8, g12, lpB_ok lp, g9, g10, g11⟩
  rcases g4 with h | h | h
  · exact .inl h
  · exact .inr (.inl h.1)
  · exact .inr (.inr h.1)
/-- the worlds that the laws build -/
inductive Reach : Wd → Nat → Prop
  | start : Reach (w0 [7, 7, 9]) 0
  | make {W : Wd} {k : Nat} {kind : Str} {u : Int} {ps : List Str} {r0 r1 r2 : Int} {tx : Str} {ss : List Std} {n : Str} : Reach W k → W.Ok → freeV W u (.str (pathOf ps)) = .ok ss n → GDeed kind u ps r0 r1 r2 tx → Reach (madeW W (last ss).number n (ownNd W kind u r0 r1 r2 tx)) (k + 1)
theorem Reach.small {W : Wd} {k : Nat} (h : Reach W k) : W.Small (k + 1) ∧ W.groups = [7, 7, 9] ∧ W.over = [] := by
  induction h with
  | start => exact ⟨smallB_ok (by decide +kernel), rfl, rfl⟩
  | make h ok hf hd ih =>
    obtain ⟨h1, h2, h3⟩ := ih
    obtain ⟨hp, _⟩ := free_place hf
    obtain ⟨p1, p2, _⟩ := place_ok ok hp
    exact ⟨made_small h1 (last_lt p1 p2) rfl, h2, h3⟩
theorem GD.offS {H H' : Hp} {d : Addr} {S : List Addr} (h : GD H d) (f : Off S H H') (n : ∀ a ∈ S, ∃ xs, H a = some (.lst xs)) : GD H' d := by
  obtain ⟨k, u, ps, r0, r1, r2, tx, rt, h1, h2, g⟩ := h
  have nt : ∀ {b ys}, H b = some (.tup ys) → b ∉ S := fun {b ys} hb z => by
    obtain ⟨xs, hx⟩ := n b z
    rw [hx] at hb
    cases hb
  exact ⟨k, u, ps, r0, r1, r2, tx, rt, f _ _ h1 (nt h1), f _ _ h2 (nt h2), g⟩
theorem fresh_out {S : List Addr} {H : Hp} {p : Addr} (hs : ∀ a ∈ S, ∃ x, H a = some x) (hp : H p = none) : p ∉ S := fun z => by
  obtain ⟨x, hx⟩ := hs p z
  rw [hp] at hx
  cases hx
theorem one_lst {H : Hp} {p : Addr} {xs : List V} (h : H p = some (.lst xs)) : ∀ a ∈ [p], ∃ xs, H a = some (.lst xs) := fun a ha => by
  rw [List.mem_singleton.mp ha]
  exact ⟨xs, h⟩
theorem GenSt.tn {K : PySem.W.Frag} {H : Hp} {t c h o p : Addr} {L M : Lay} {W V : Wd} (s : GenSt K H t c h L W o M V) (hp : p ∉ genS t c h L o M) : p ≠ t ∧ p ≠ c := by
  refine ⟨fun z => hp ?_, fun z => hp ?_⟩
  · rw [z]
    exact List.mem_cons_of_mem _ (List.mem_append_left _ (List.mem_cons_self ..))
  · rw [z]
    exact List.mem_cons_of_mem _ (List.mem_append_left _ (List.mem_cons_of_mem _ (List.mem_cons_self ..)))
theorem Wd.at_mem {W : Wd} {i : Nat} (hi : i < W.nodes.length) : W.at i ∈ W.nodes := by
  unfold Wd.at
  rw [List.getD_eq_getElem?_getD, List.getElem?_eq_getElem hi]
  exact List.getElem_mem hi
/-- what holds of all nodes -/
theorem Reach.nodes {P : Nd → Prop} (h0 : ∀ d ∈ (w0 [7, 7, 9]).nodes, P d) (h1 : ∀ W kind u ps r0 r1 r2 tx, GDeed kind u ps r0 r1 r2 tx → P (ownNd W kind u r0 r1 r2 tx)) (h2 : ∀ d n k, P d → P (d.name n k)) {W : Wd} {k : Nat} (h : Reach W k) : ∀ d ∈ W.nodes, P d := by
  induction h with
  | start => exact h0
  | @make W' k' kind u ps r0 r1 r2 tx ss n h ok hf hd ih =>
    obtain ⟨hp, _⟩ := free_place hf
    obtain ⟨p1, p2, _⟩ := place_ok ok hp
    have hl := last_lt p1 p2
    intro d hd'
    obtain ⟨j, hj, rfl⟩ := Wd.mem_at hd'
    unfold madeW at hj ⊢
    rw [Wd.len_put, Wd.add_len] at hj
    rw [Wd.at_put (by rw [Wd.add_len]; omega)]
    have old : ∀ i, i < W'.nodes.length → P (W'.at i) := fun i hi => ih _ (Wd.at_mem hi)
    split
    · exact h2 _ _ _ (old _ hl)
    · by_cases e : j < W'.nodes.length
      · rw [Wd.add_at e]
        exact old _ e
      · rw [show j = W'.nodes.length by omega, Wd.add_new]
        exact h1 _ _ _ _ _ _ _ _ hd
theorem Reach.at_ {P : Nd → Prop} {W : Wd} (h : ∀ d ∈ W.nodes, P d) {i : Nat} (hi : i < W.nodes.length) : P (W.at i) := h _ (Wd.at_mem hi)
theorem Reach.cnt {W : Wd} {k : Nat} (h : Reach W k) : ∀ d ∈ W.nodes, d.count = 1 ∧ PyData.strOk d.text = true := h.nodes (fun d hd => by rw [List.mem_singleton.mp hd]; exact ⟨rfl, (show PyData.strOk "" = true by decide +kernel)⟩) (fun _ _ _ _ _ _ _ _ g => ⟨rfl, g.so⟩) (fun _ _ _ h => h)
/-- a path from the top, walked -/
theorem atR_path {W : Wd} {u : Int} {f : Bool} {ps : List Str} (u0 : 0 ≤ u) (u1 : u < W.groups.length) (hg : goodParts ps = true) : atR W (.int u) (.str (pathOf ps)) f = ofWay (wayOf W u f ps) := atR_way u0 u1 (parts_path true hg)
theorem wayOf_ne {W : Wd} {u : Int} {f : Bool} {ps : List Str} (hg : goodParts ps = true) : wayOf W u f ps ≠ .stuck := wayGo_ne _ _ _ _ (by have := (good_all hg).1; omega)
/-! ### within a comprehension: the written part named outright -/
theorem ix_listX {X : Cx} {K : PySem.W.Frag} (hK : X.K = K) : IxR X (rIxL K) := by
  subst hK
  exact ix_list
theorem ix_tupX {X : Cx} {K : PySem.W.Frag} (hK : X.K = K) : IxR X (rIxT K) := by
  subst hK
  exact ix_tup
theorem call_isiX {X : Cx} {K : PySem.W.Frag} (hK : X.K = K) : CallR X (.builtin "isinstance") (rIsi K) := by
  subst hK
  exact call_isi
/-- a pair, as data -/
theorem dp_tup {K : PySem.W.Frag} {H : Hp} {p : Addr} {xs : List V} {ds : List PyData} (h : H p = some (.tup xs)) (hd : DpAll K H xs ds) : Dp K H (.ref p) (.tuple ds) := .tup (SqT.of h) hd
theorem users4 {v : V} (h : v ∈ [V.int 0, V.int 0, V.int 1, V.int 2]) : ∃ u : Int, v = .int u ∧ 0 ≤ u ∧ u < 3 := by
  simp only [List.mem_cons, List.not_mem_nil, or_false] at h
  rcases h with rfl | rfl | rfl | rfl
  all_goals exact ⟨_, rfl, by decide, by decide⟩
theorem lparts_good {ps : List Str} {m : Int} (h : (ps.length : Int) ≤ m) (hm : m ≤ 12) (hp : ∀ p ∈ ps, LPart p) : goodParts ps = true := good_of (by omega) fun p hp' => (hp p hp').ok
theorem shaped_err {e : Err} (h : e.Plain) (hs : ∀ s, e = .name s → PyData.strOk s = true) : SeqAt.shaped (errD e) = true := by
  have hw : ∀ i < 13, PyData.strOk (errWords.getD i "") = true := by decide +kernel
  have h1 := hw (errIx e) (errIx_lt h)
  rw [List.getD_eq_getElem?_getD] at h1
  cases e with
  | no i => simp [SeqAt.shaped, errD, PyData.canLay0, PyData.canLayAll0, PyData.depth, PyData.depthAll, h1]
  | right u n => simp [SeqAt.shaped, errD, PyData.canLay0, PyData.canLayAll0, PyData.depth, PyData.depthAll, h1]
  | name s => simp [SeqAt.shaped, errD, PyData.canLay0, PyData.canLayAll0, PyData.depth, PyData.depthAll, h1, hs s rfl]
/-- a name that is not there is a part of the path, or of a hint's -/
theorem wayGo_name {W : Wd} (ok : W.Ok) {u : Int} {follow : Bool} : ∀ (m : Nat) (ss : List Std) (rest : List Str) (hints : Nat) {s : Str}, ss ≠ [] → (∀ z ∈ ss, z.number < W.nodes.length) → (∀ p ∈ rest, isPart p = true) → wayGo W u follow m ss rest hints = .err (.name s) → isPart s = true
  | 0, _, _, _, _, _, _, _, h => by
    unfold wayGo at h
    cases h
  | m + 1, ss, [], _, _, _, _, _, h => by
    unfold wayGo at h
    cases h
  | m + 1, ss, part :: rest, hints, s, hne, hlt, hp, h => by
    have hpos := List.length_pos_iff.mpr hne
    have hl := last_lt hne hlt
    have hp' : ∀ p ∈ rest, isPart p = true := fun p z => hp p (List.mem_cons_of_mem _ z)
    have tk : ∀ n, 0 < n → ss.take n ≠ [] := fun n h0 z => by
      have := congrArg List.length z
      rw [List.length_take, List.length_nil] at this
      omega
    unfold wayGo at h
    split at h
    · cases h
    · split at h
      · exact wayGo_name ok m _ _ _ (tk _ (by omega)) (fun z hz => hlt z (List.mem_of_mem_take hz)) hp' h
      · split at h
        · exact wayGo_name ok m _ _ _ hne hlt hp' h
        · split at h
          · cases h
            exact hp _ (List.mem_cons_self ..)
          · rename_i k hk
            have hkl : k < W.nodes.length := ((ok.at hl).nam _ (look_mem hk)).2
            split at h
            · rename_i hh
              split at h
              · cases h
              · refine wayGo_name ok m _ _ _ ?_ ?_ ?_ h
                · split
                  · exact tk 1 (by omega)
                  · exact hne
                · intro z hz
                  split at hz
                  · exact hlt z (List.mem_of_mem_take hz)
                  · exact hlt z hz
                · intro p hz
                  rcases List.mem_append.mp hz with hz | hz
                  · obtain ⟨qs, hq⟩ := (ok.at hkl).hnt hh.1
                    rw [hq] at hz
                    exact (good_all (parts_good hq)).2 p hz
                  · exact hp' p hz
            · split at h
              · refine wayGo_name ok m _ _ _ (by simp) (fun z hz => ?_) hp' h
                rcases List.mem_append.mp hz with hz | hz
                · exact hlt z hz
                · rw [List.mem_singleton.mp hz]
                  exact stand_lt ok part hkl
              · split at h
                · cases h
                · cases h
theorem shaped_way {W : Wd} (ok : W.Ok) {u : Int} {follow : Bool} {ps : List Str} {e : Err} (hp : ∀ p ∈ ps, isPart p = true) (h : wayOf W u follow ps = .err e) : SeqAt.shaped (errD e) = true := shaped_err (wayGo_plain _ _ _ _ h) fun s hs => by
  subst hs
  exact part_ok (wayGo_name ok _ _ _ _ (by simp) (fun z hz => by rw [List.mem_singleton.mp hz]; exact ok.one) hp h)
theorem Reach.top {W : Wd} {k : Nat} (h : Reach W k) : (W.at 0).owner = 0 ∧ (W.at 0).group = 7 ∧ (W.at 0).r0 = 7 ∧ (W.at 0).r1 = 5 ∧ (W.at 0).r2 = 5 ∧ (W.at 0).count = 1 := by
  induction h with
  | start => exact ⟨rfl, rfl, rfl, rfl, rfl, rfl⟩
  | @make W' k' kind u ps r0 r1 r2 tx ss n h ok hf hd ih =>
    obtain ⟨hp, _⟩ := free_place hf
    obtain ⟨p1, p2, _⟩ := place_ok ok hp
    have hl := last_lt p1 p2
    unfold madeW
    rw [Wd.at_put (by rw [Wd.add_len]; omega)]
    split
    · rename_i e
      rw [← e]
      exact ih
    · rw [Wd.add_at ok.one]
      exact ih
theorem dp_cons {K : PySem.W.Frag} {H : Hp} {vs : List V} {d : PyData} {ds : List PyData} (h : DpAll K H vs (d :: ds)) : ∃ v ws, vs = v :: ws ∧ Dp K H v d ∧ DpAll K H ws ds := by
  cases h with
  | cons h t => exact ⟨_, _, rfl, h, t⟩
theorem dp_tuple {K : PySem.W.Frag} {H : Hp} {x : V} {ds : List PyData} (h : Dp K H x (.tuple ds)) : ∃ p xs, x = .ref p ∧ SqT K H p xs ∧ DpAll K H xs ds := by
  cases h with
  | tup h t => exact ⟨_, _, rfl, h, t⟩
theorem tyX_tup {K : PySem.W.Frag} {H : Hp} {a : Addr} {xs : List V} (h : SqT K H a xs) : TyX K H (.ref a) (.type "tuple") := by
  rcases h with (h | ⟨o, h⟩) | ⟨o, its, n, h, hc, _⟩
  · exact .base (.tup h)
  · exact .fTuple h
  · exact .kTuple h hc
theorem x_slA {K : PySem.W.Frag} {H : Hp} {Q : VK} {a : Addr} {xs : List V} {lo hi : Option Int} (h : SqT K H a xs) (n : ¬ (HT.sIx xs.length 0 lo = 0 ∧ HT.sIx xs.length xs.length hi = xs.length)) (q : ∀ p H1, H p = none → Ex H H1 → H1 p = some (.tup (cutV xs lo hi)) → Q (.ref p) H1) : rSlA K (.ref a) lo hi H Q :=
  ⟨a, xs, rfl, h, fun z => (n z).elim, fun _ p hp => q p _ hp (Ex.new hp) upd_same⟩
theorem dp_about {K : PySem.W.Frag} {H : Hp} {x : V} {d : Nd} (h : Dp K H x (aboutD d)) : ∃ p y, x = .ref p ∧ SqT K H p [.int d.owner, .int d.group, y, .int d.count] ∧ Dp K H y (.tuple [.int d.r0, .int d.r1, .int d.r2]) := by
  obtain ⟨p, xs, rfl, hp, hx⟩ := dp_tuple h
  obtain ⟨v1, r1, rfl, h1, hx⟩ := dp_cons hx
  obtain ⟨v2, r2, rfl, h2, hx⟩ := dp_cons hx
  obtain ⟨v3, r3, rfl, h3, hx⟩ := dp_cons hx
  obtain ⟨v4, r4, rfl, h4, hx⟩ := dp_cons hx
  cases hx
  cases dp_int h1
  cases dp_int h2
  cases dp_int h4
  exact ⟨p, v3, rfl, hp, h3⟩
/-- an item of a tuple, read off the heap -/
def tupAt (H : Hp) (v : V) (i : Nat) : V := match v with
  | .ref d => match H d with
    | some (.tup xs) => xs.getD i .non
    | _ => .non
  | _ => .non
theorem tupAt_of {H : Hp} {d : Addr} {xs : List V} {i : Nat} (h : H d = some (.tup xs)) : tupAt H (.ref d) i = xs.getD i .non := by
  unfold tupAt
  simp only [h]
theorem same_path {W : Wd} {u : Int} {ps qs : List Str} {ss ss' : List Std} {num num' : Option Nat} (u0 : 0 ≤ u) (u1 : u < W.groups.length) (hp : goodParts ps = true) (hq : goodParts qs = true) (h1 : wayOf W u true ps = .ok ss num) (h2 : wayOf W u true qs = .ok ss' num') : sameR W (.int u) (.str (pathOf ps)) (.str (pathOf qs)) = .ok (decide (endNum ss num = endNum ss' num')) := by
  unfold sameR
  rw [atR_path u0 u1 hp, atR_path u0 u1 hq, h1, h2]
  rfl
/-! ### walks by names alone -/
inductive Chain (W : Wd) : List Std → Prop
  | top : Chain W [std0]
  | step {ss : List Std} {n : Str} {k : Nat} : Chain W ss → look n (W.at (last ss).number).names = some k → (W.at k).kind = "room" → isName n = true → Chain W (ss ++ [standOf W k n])
theorem Chain.ne {W : Wd} {ss : List Std} (h : Chain W ss) : ss ≠ [] := by
  cases h <;> simp
theorem Chain.take {W : Wd} {ss : List Std} (h : Chain W ss) : ∀ n, 0 < n → Chain W (ss.take n) := by
  induction h with
  | top =>
    intro n hn
    rw [List.take_of_length_le (by simp; omega)]
    exact .top
  | @step ss n' k h hl hk hn ih =>
    intro n h0
    by_cases c : n ≤ ss.length
    · rw [List.take_append_of_le_length c]
      exact ih n h0
    · rw [List.take_of_length_le (by simp; omega)]
      exact .step h hl hk hn
theorem name_ne {n : Str} (h : isName n = true) : n ≠ ".." ∧ n ≠ "." := by
  refine ⟨fun z => ?_, fun z => ?_⟩
  · rw [z, not_name_dots] at h
    cases h
  · rw [z, not_name_dot] at h
    cases h
theorem tail_snoc {ss : List Std} (h : ss ≠ []) (x : Std) : (ss ++ [x]).tail = ss.tail ++ [x] := by
  cases ss with
  | nil => exact (h rfl).elim
  | cons a r => rfl
/-- the names of a chain, walked by the keeper -/
theorem Chain.walk {W : Wd} {f : Bool} {ss : List Std} (h : Chain W ss) : ∀ (m : Nat) (rest : List Str) (hints : Nat), wayGo W 0 f (m + ss.tail.length) [std0] (ss.tail.map (·.name) ++ rest) hints = wayGo W 0 f m ss rest hints := by
  induction h with
  | top => intro m rest hints; rfl
  | @step ss n k h hl hk hn ih =>
    intro m rest hints
    obtain ⟨n1, n2⟩ := name_ne hn
    rw [tail_snoc h.ne, List.map_append, List.length_append, List.append_assoc]
    show wayGo W 0 f (m + (ss.tail.length + 1)) [std0] (ss.tail.map (·.name) ++ (n :: rest)) hints = _
    rw [show m + (ss.tail.length + 1) = m + 1 + ss.tail.length by omega, ih (m + 1) (n :: rest) hints, go_room rfl n1 n2 hl hk]
theorem wayGo_chain {W : Wd} (ok : W.Ok) {u : Int} {follow : Bool} : ∀ (m : Nat) (ss : List Std) (rest : List Str) (hints : Nat) {rs : List Std} {num : Option Nat}, Chain W ss → (∀ z ∈ ss, z.number < W.nodes.length) → wayGo W u follow m ss rest hints = .ok rs num → Chain W rs ∧ (∀ k, num = some k → ∃ part, look part (W.at (last rs).number).names = some k ∧ (follow = true → (W.at k).kind = "leaf"))
  | 0, _, _, _, _, _, _, _, h => by
    unfold wayGo at h
    cases h
  | m + 1, ss, [], _, rs, num, hc, _, h => by
    unfold wayGo at h
    cases h
    exact ⟨hc, fun k z => nomatch z⟩
  | m + 1, ss, part :: rest, hints, rs, num, hc, hlt, h => by
    have hne := hc.ne
    have hpos := List.length_pos_iff.mpr hne
    have hl := last_lt hne hlt
    unfold wayGo at h
    split at h
    · cases h
    · split at h
      · exact wayGo_chain ok m _ _ _ (hc.take _ (by omega)) (fun z hz => hlt z (List.mem_of_mem_take hz)) h
      · split at h
        · exact wayGo_chain ok m _ _ _ hc hlt h
        · split at h
          · cases h
          · rename_i k hk
            have hm := (ok.at hl).nam _ (look_mem hk)
            split at h
            · split at h
              · cases h
              · refine wayGo_chain ok m _ _ _ ?_ ?_ h
                · split
                  · exact hc.take 1 (by omega)
                  · exact hc
                · intro z hz
                  split at hz
                  · exact hlt z (List.mem_of_mem_take hz)
                  · exact hlt z hz
            · rename_i hh
              split at h
              · rename_i hr
                refine wayGo_chain ok m _ _ _ (.step hc hk hr hm.1) (fun z hz => ?_) h
                rcases List.mem_append.mp hz with hz | hz
                · exact hlt z hz
                · rw [List.mem_singleton.mp hz]
                  exact stand_lt ok part hm.2
              · rename_i hr
                split at h
                · cases h
                · cases h
                  refine ⟨hc, fun k' z => ?_⟩
                  cases z
                  refine ⟨part, hk, fun hf => ?_⟩
                  rcases (ok.at hm.2).knd with z | z | z
                  · exact (hr z).elim
                  · exact z
                  · exact (hh ⟨z, .inr hf⟩).elim
theorem wayOf_chain {W : Wd} (ok : W.Ok) {u : Int} {follow : Bool} {ps : List Str} {ss : List Std} {num : Option Nat} (h : wayOf W u follow ps = .ok ss num) : Chain W ss ∧ ∀ k, num = some k → ∃ part, look part (W.at (last ss).number).names = some k ∧ (follow = true → (W.at k).kind = "leaf") :=
  wayGo_chain ok _ _ _ _ .top (fun z hz => by rw [List.mem_singleton.mp hz]; exact ok.one) h
/-- hints of at most two parts: the walk is short -/
def Two (W : Wd) : Prop := ∀ d ∈ W.nodes, d.kind = "hint" → hintB d.text = true
theorem wayGo_short {W : Wd} (ok : W.Ok) (tw : Two W) {u : Int} {follow : Bool} : ∀ (m : Nat) (ss : List Std) (rest : List Str) (hints : Nat) {rs : List Std} {num : Option Nat}, ss ≠ [] → (∀ z ∈ ss, z.number < W.nodes.length) → hints ≤ 8 → wayGo W u follow m ss rest hints = .ok rs num → rs.length + (if num.isSome = true then 1 else 0) ≤ ss.length + rest.length + (8 - hints)
  | 0, _, _, _, _, _, _, _, _, h => by
    unfold wayGo at h
    cases h
  | m + 1, ss, [], _, rs, num, _, _, _, h => by
    unfold wayGo at h
    cases h
    simp
  | m + 1, ss, part :: rest, hints, rs, num, hne, hlt, h8, h => by
    have hpos := List.length_pos_iff.mpr hne
    have hl := last_lt hne hlt
    have tk : ∀ n, 0 < n → ss.take n ≠ [] := fun n h0 z => by
      have := congrArg List.length z
      rw [List.length_take, List.length_nil] at this
      omega
    rw [List.length_cons]
    unfold wayGo at h
    split at h
    · cases h
    · split at h
      · have := wayGo_short ok tw m _ _ _ (tk _ (by omega)) (fun z hz => hlt z (List.mem_of_mem_take hz)) h8 h
        rw [List.length_take] at this
        omega
      · split at h
        · have := wayGo_short ok tw m _ _ _ hne hlt h8 h
          omega
        · split at h
          · cases h
          · rename_i k hk
            have hm := (ok.at hl).nam _ (look_mem hk)
            split at h
            · rename_i hh
              split at h
              · cases h
              · have h2 := tw _ (Wd.at_mem hm.2) hh.1
                unfold hintB at h2
                split at h2
                · rename_i qs hq
                  have h2 := of_decide_eq_true h2
                  rw [hq] at h
                  have := wayGo_short ok tw m _ _ _ (by split; exact tk 1 (by omega); exact hne) (fun z hz => by
                    split at hz
                    · exact hlt z (List.mem_of_mem_take hz)
                    · exact hlt z hz) (by omega) h
                  rw [List.length_append] at this
                  have e : (some qs : Option (List Str)).getD [] = qs := rfl
                  rw [e] at this
                  have hle : (if Txt.slice (W.at k).text none (some 1) = sl then ss.take 1 else ss).length ≤ ss.length := by
                    split
                    · rw [List.length_take]
                      omega
                    · exact Nat.le_refl _
                  omega
                · cases h2
            · split at h
              · have := wayGo_short ok tw m _ _ _ (by simp) (fun z hz => by
                  rcases List.mem_append.mp hz with hz | hz
                  · exact hlt z hz
                  · rw [List.mem_singleton.mp hz]
                    exact stand_lt ok part hm.2) h8 h
                rw [List.length_append, List.length_singleton] at this
                omega
              · split at h
                · cases h
                · cases h
                  simp
                  omega
theorem wayOf_short {W : Wd} (ok : W.Ok) (tw : Two W) {u : Int} {follow : Bool} {ps : List Str} {ss : List Std} {num : Option Nat} (h : wayOf W u follow ps = .ok ss num) : ss.length + (if num.isSome = true then 1 else 0) ≤ ps.length + 9 := by
  have := wayGo_short ok tw _ _ _ _ (by simp) (fun z hz => by rw [List.mem_singleton.mp hz]; exact ok.one) (Nat.zero_le 8) h
  simp at this ⊢
  omega
theorem Reach.two {W : Wd} {k : Nat} (h : Reach W k) : Two W := h.nodes (fun d hd z => by rw [List.mem_singleton.mp hd] at z; exact absurd (show Str.ofString "room" = Str.ofString "hint" from z) (by decide +kernel)) (fun _ _ _ _ _ _ _ _ g z => g.h2 z) (fun _ _ _ h => h)
/-! ### comprehensions with targets of any kind -/
theorem lc_cmpG {J : It} {G : Hp → Prop} {xs : List V} {g : TG} {s2 : V → L2.St} {tt : TT} {te : TE} {vs : List Nat} {σ : L2.St} {H1 : Hp} {Q : VK} (w : Walk J xs.length G (YAt xs)) (hG : ∀ H', Ex H1 H' → G H') (hw : ∀ x, wipe (s2 x) vs = wipe σ vs) (hz : xs.length ≤ 100000) (p : V → Bool) (f : V → V)
    (hg : ∀ x ∈ xs, ∀ H', Ex H1 H' → ∀ R : L2.St → Hp → Prop, R (s2 x) H' → g x (wipe σ vs) H' R)
    (ht : ∀ x ∈ xs, ∀ H', Ex H1 H' → ∀ R : Bool → Hp → Prop, (∀ H2, Ex H' H2 → R (p x) H2) → tt (s2 x) H' R)
    (he : ∀ x ∈ xs, p x = true → ∀ H', Ex H1 H' → ∀ R : VK, (∀ H2, Ex H' H2 → R (f x) H2) → te (s2 x) H' R)
    (q : ∀ D H', H1 D = none → Ex H1 H' → H' D = some (.lst ((xs.filter p).map f)) → Q (.ref D) H') : LcK J g tt te vs σ Q H1 := by
  intro D hD
  refine lc_it w (fun i H' => Ex H1 H' ∧ H' D = some (.lst (((xs.take i).filter p).map f))) ⟨Ex.new hD, upd_same⟩ (fun i H' _ h => hG H' h.1) ?_ (fun H' h => q D H' hD h.1 (by have := h.2; rw [List.take_length] at this; exact this))
  rintro i x H' H'' hi ⟨e, hl⟩ ⟨rfl, hx⟩
  have hm : x ∈ xs := List.mem_of_getElem? hx
  refine hg x hm H'' e _ ⟨hw x, ht x hm H'' e _ fun H2 e2 => ?_⟩
  have et := take_snoc hx
  have hlen : (((xs.take i).filter p).map f).length < sizeLine := by
    rw [List.length_map]
    have h1 := List.length_filter_le p (xs.take i)
    have h2 : (xs.take i).length ≤ xs.length := by rw [List.length_take]; omega
    have h3 : (100000 : Nat) < sizeLine := by decide
    omega
  cases hp : p x with
  | true =>
    show te _ H2 _
    refine he x hm hp H2 (e.tr e2) _ fun H3 e3 => ⟨_, e3 D _ (e2 D _ hl), hlen, fun a o h => ?_, ?_⟩
    · have hne : a ≠ D := fun z => by rw [z, hD] at h; cases h
      rw [upd_ne hne]
      exact e3 a o (e2 a o (e a o h))
    · rw [et, List.filter_append, List.map_append, List.filter_cons, if_pos hp]
      exact upd_same
  | false =>
    show Ex H1 H2 ∧ _
    refine ⟨e.tr e2, ?_⟩
    rw [et, List.filter_append, List.filter_cons, if_neg (by rw [hp]; decide), List.filter_nil, List.append_nil]
    exact e2 D _ hl
theorem x_lcLG {K : PySem.W.Frag} {a : Addr} {xs : List V} {g : TG} {s2 : V → L2.St} {tt : TT} {te : TE} {vs : List Nat} {σ : L2.St} {H : Hp} {Q : VK} (h : SqL K H a xs) (hw : ∀ x, wipe (s2 x) vs = wipe σ vs) (hz : xs.length ≤ 100000) (p : V → Bool) (f : V → V)
    (hg : ∀ x ∈ xs, ∀ H', Ex H H' → ∀ R : L2.St → Hp → Prop, R (s2 x) H' → g x (wipe σ vs) H' R)
    (ht : ∀ x ∈ xs, ∀ H', Ex H H' → ∀ R : Bool → Hp → Prop, (∀ H2, Ex H' H2 → R (p x) H2) → tt (s2 x) H' R)
    (he : ∀ x ∈ xs, p x = true → ∀ H', Ex H H' → ∀ R : VK, (∀ H2, Ex H' H2 → R (f x) H2) → te (s2 x) H' R)
    (q : ∀ D H', H D = none → Ex H H' → H' D = some (.lst ((xs.filter p).map f)) → Q (.ref D) H') : ∃ b, V.ref a = .ref b ∧ (∃ xs, SqL K H b xs) ∧ LcK (Itl K b) g tt te vs σ Q H :=
  ⟨a, rfl, ⟨xs, h⟩, lc_cmpG (G := fun H => SqL K H a xs) walk_list (fun _ e => e.sq h) hw hz p f hg ht he q⟩
end Tm

/-! list(d.values()) -/
namespace Tm
open PySem PySem.Spec PyProof.Rows L2
def tListVals (te : TE) : TE := fun σ H Q => te σ H fun x H1 => ∃ (d : Addr) (kvs : List (Key × V)), x = .ref d ∧ H1 d = some (.dK kvs) ∧ ∀ p, H1 p = none → Q (.ref p) (upd H1 p (.lst (kvs.map (·.2))))
theorem kv_vals {κ : Type} : ∀ {kvs : List (κ × V)} {vs : List (κ × Value)}, KV kvs vs → Vals (kvs.map (·.2)) (vs.map (·.2))
  | _, _, .nil => .nil
  | _, _, .cons r t => .cons r.2 (kv_vals t)
section
variable {X : Cx} {e : Expr} {te : TE} {p apos cpos pos : Pos}
theorem pe_listVals (hc : X.calm = true) (he : PE X e te) (hg : Gl X "list") (hm : X.mg "list" = none) (hv : bootBuiltins "list" = some (.type "list")) (hbase : attributeBase e "values" X.env (eval e X.env) = eval e X.env := by rfl) (hline : (apos.endLine == cpos.line) = true := by rfl)
    (hs : starEach [.Call (.Attribute e "values" apos) [] [] cpos] X.env = (false, eval (.Call (.Attribute e "values" apos) [] [] cpos) X.env) :: starEach [] X.env := by rfl) :
    PE X (.Call (.Name "list" p) [.Call (.Attribute e "values" apos) [] [] cpos] [] pos) (tListVals te) := by
  refine ⟨fun pins s σ H Q I hq => ?_⟩
  refine wpAny_Call_Name_kw (ld_blt I hg hm hv ?_)
  refine PyProof.Rows.callWith_type1 ?_ hs rfl
  rw [hs]
  show wpAny _ _ (spliced ((false, eval (.Call (.Attribute e "values" apos) [] [] cpos) X.env) :: backTo pos (starEach [] X.env))) _ _ s
  refine Calls.spliced_cons ?_
  refine wpAny_Call_method (T := "dict") (id := "dict.values") hbase rfl hline F.plainAttrs_dict F.slot_dict_values F.type_dict_values (thn (he.run pins s σ H _ I hq) fun u s1 ⟨x, H1, I1, rx, d, kvs, ex, hd, q⟩ => ?_)
  subst ex
  obtain rfl : u = Value.ref d := rx
  obtain ⟨hz, hs0, vs, kv, hdo⟩ := I1.hok d _ hd
  obtain ⟨ep, hat⟩ := hdo.dictAt
  have lk : kvs.length = vs.length := Paired.length kv
  have I2 : Inv X pins σ H1 { s1 with heap := s1.heap.push { cls := .type "dict_values", data := .fields #[.ref d] } } := I1.kept (t' := s1.toks) fun b ob q => Heap.get?_push_of_some _ q
  refine ⟨hdo.typeIs, hdo.mapOf.noDict, ?_⟩
  show wpAny _ _ (callWith cpos (.builtin "dict.values") [.ref d] [] []) _ X.xe s1
  refine method_meetsIn F.slot_dict_values F.entry_dict_values rfl (PySem.evalArgs_none ⟨rfl, hdo.typeIs, F.args_dict_values_1 _, _, meets_dict_values (mixKind X.prog X.w) d hs0, ⟨vs, hdo⟩, ?_⟩)
  refine Calls.spliced_nil ?_
  refine PySem.W.kdl_call (PySem.W.kdl_values (knd := mixKind X.prog X.w) (kvs := vs) (ep := ep)) (I1.ok.hd hc) ⟨⟨_, Heap.get?_push_size _ rfl, rfl, rfl⟩, hat.push _⟩ (by omega) fun h' tk acc c hk hS hacc => ?_
  have hl : acc.toList.length = vs.length := by
    have := hacc.1
    simpa using this
  have ha : acc.toList = vs.map (·.2) := PySem.W.kdl_vals_eq acc.toList hl fun j v hv => by
    exact hacc.2 j v (by rw [← Array.getElem?_toList]; exact hv)
  refine ⟨.ref _, upd H1 _ (.lst (kvs.map (·.2))), I2.laid (t' := tk) hk (Nat.le_refl _) ⟨by rw [List.length_map]; omega, acc.toList, c, by rw [ha]; exact kv_vals kv, ?_⟩, rfl, q _ (I2.hok.fresh (Nat.le_refl _))⟩
  rw [Array.toArray_toList]
  exact hS
end
/-! a dict compared with an empty one -/
def rEqE : R2 := fun x y H Q => ∃ a b ks, x = .ref a ∧ y = .ref b ∧ H a = some (.dK ks) ∧ H b = some (.dK []) ∧ Q (.bl ks.isEmpty) H
def rNeE : R2 := fun x y H Q => ∃ a b ks, x = .ref a ∧ y = .ref b ∧ H a = some (.dK ks) ∧ H b = some (.dK []) ∧ Q (.bl (!ks.isEmpty)) H
theorem op_eqE {X : Cx} (hu : X.A.units < cLine) : OpR X (compareOp .Eq) rEqE := by
  intro pins s σ H x y v u Q I rx ry h
  obtain ⟨a, b, ks, rfl, rfl, ea, eb, q⟩ := h
  obtain rfl : v = Value.ref a := rx
  obtain rfl : u = Value.ref b := ry
  obtain ⟨_, ya, va, ra, da⟩ := (show ObjOk X.prog X.w H s.heap a (.dK ks) from I.hok a _ ea)
  obtain ⟨_, yb, vb, rb, db⟩ := (show ObjOk X.prog X.w H s.heap b (.dK []) from I.hok b _ eb)
  have h0 : vb.length = 0 := rb.length.symm
  have hk : va.length = ks.length := ra.length.symm
  refine PySem.W.keq_eq (knd := mixKind X.prog X.w) (r := true) ya yb da db hu (fun e => ?_) (fin_bl I q ?_)
  · rw [h0] at e
    rw [List.eq_nil_of_length_eq_zero e]
    exact .nil
  · rw [h0, hk]
    cases ks <;> rfl
theorem op_neE {X : Cx} (hu : X.A.units < cLine) : OpR X (compareOp .NotEq) rNeE := by
  intro pins s σ H x y v u Q I rx ry h
  obtain ⟨a, b, ks, rfl, rfl, ea, eb, q⟩ := h
  obtain rfl : v = Value.ref a := rx
  obtain rfl : u = Value.ref b := ry
  obtain ⟨_, ya, va, ra, da⟩ := (show ObjOk X.prog X.w H s.heap a (.dK ks) from I.hok a _ ea)
  obtain ⟨_, yb, vb, rb, db⟩ := (show ObjOk X.prog X.w H s.heap b (.dK []) from I.hok b _ eb)
  have h0 : vb.length = 0 := rb.length.symm
  have hk : va.length = ks.length := ra.length.symm
  refine PySem.W.keq_ne (knd := mixKind X.prog X.w) (r := true) ya yb da db hu (fun e => ?_) (fin_bl I q ?_)
  · rw [h0] at e
    rw [List.eq_nil_of_length_eq_zero e]
    exact .nil
  · rw [h0, hk]
    cases ks <;> rfl
theorem x_neE {H : Hp} {Q : VK} {a b : Addr} {ks : List (Key × V)} (ha : H a = some (.dK ks)) (hb : H b = some (.dK [])) (q : Q (.bl (!ks.isEmpty)) H) : rNeE (.ref a) (.ref b) H Q := ⟨a, b, ks, rfl, rfl, ha, hb, q⟩
theorem x_eqE {H : Hp} {Q : VK} {a b : Addr} {ks : List (Key × V)} (ha : H a = some (.dK ks)) (hb : H b = some (.dK [])) (q : Q (.bl ks.isEmpty) H) : rEqE (.ref a) (.ref b) H Q := ⟨a, b, ks, rfl, rfl, ha, hb, q⟩
/-! list.remove, flat items -/
def rRemF : V → List V → Hp → VK → Prop := fun x xs H Q => ∃ (l : Addr) (ys : List V) (y : V) (j : Nat) (z : V), x = .ref l ∧ xs = [y] ∧ H l = some (.lst ys) ∧ flatV y = true ∧ ys.all flatV = true ∧ ys[j]? = some z ∧ eqV z y = true ∧
  (∀ (m : Nat) (z' : V), m < j → ys[m]? = some z' → eqV z' y = false) ∧ Q .non (upd H l (.lst (ys.eraseIdx j)))
theorem mt_removeS {X : Cx} : MtM X "list.remove" rRemF := by
  intro pins s σ H x xs v us Q I rx rxs h
  obtain ⟨l, ys, y, j, z, rfl, rfl, hH, fy, fs, hz, hzj, hno, q⟩ := h
  cases rx
  obtain ⟨u, rfl, ru⟩ := rxs.one
  obtain ⟨zl, its, n, r, hl, e⟩ := I.lstM hH
  have hjn : j < ys.length := (List.getElem?_eq_some_iff.mp hz).1
  have hjl : j < its.toArray.size := by rw [List.size_toArray]; omega
  have eqAtJ : ∀ (m : Nat) (z' : V), ys[m]? = some z' → ∀ (hm : m < its.toArray.size), eqU y its.toArray[m] = eqV z' y := fun m z' h' hm => by
    obtain ⟨w', hw', rw'⟩ := r.get h'
    obtain ⟨h1, h2⟩ := List.getElem?_eq_some_iff.mp hw'
    have e1 : its.toArray[m] = w' := by simpa using h2
    rw [e1]
    exact eqU_of rw' (flat_at fs h')
  refine call_meets PySem.F.slot_list_remove ⟨_, e, rfl⟩ PySem.F.entry_list_remove (PySem.F.args_list_remove_2 _ _)
    (SeqAt.list_removeAt l its.toArray n _ _ u (eqU y) j hjl (by rw [eqAtJ j z hz hjl]; exact hzj) (fun m hm hmj => ?_) (by rw [List.size_toArray]; omega)) ⟨e, fun w' hw => mem_eqAt ru fy r fs w' (by simpa using hw), ?_⟩
  · have hmn : m < ys.length := by rw [List.size_toArray] at hm; omega
    rw [eqAtJ m _ (List.getElem?_eq_getElem hmn) hm]
    exact hno m _ hmj (List.getElem?_eq_getElem hmn)
  · have rr := r.eraseIdx j
    refine ⟨.non, _, I.lset (its' := its.eraseIdx j) (t' := s.toks) hH e ?_ rr ?_, rfl, q⟩
    · show its.toArray.eraseIdxIfInBounds j = (its.eraseIdx j).toArray
      rw [List.eraseIdxIfInBounds_toArray]
    · have z2 := len_erase ys j
      omega
theorem x_isNBl {X : Cx} {a b : Bool} {H : Hp} {Q : VK} (q : Q (.bl (!decide (a = b))) H) : ∃ a' b', V.bl a = .bl a' ∧ V.bl b = .bl b' ∧ Q (.bl (!decide (a' = b'))) H := ⟨a, b, rfl, rfl, q⟩
end Tm

/-! deeds that change things -/
namespace Tm
open PySem PySem.Spec PyProof.Rows L2
/-- the rights of node i are written -/
theorem HouseAt.setRt {K : PySem.W.Frag} {H : Hp} {h : Addr} {L : Lay} {W : Wd} {R : Hp → Prop} (hh : HouseAt K H h L W) (CK : ClsK K) {i : Nat} (hi : i < W.nodes.length) {rt : Addr} {r0 r1 r2 : Int} (hrt : H rt = some (.tup [.int r0, .int r1, .int r2]))
    (q : ∀ H', HouseAt K H' h L (W.put i { W.at i with r0 := r0, r1 := r1, r2 := r2 }) → Off (fp h L) H H' → R H') : FSetK K (.ref (L.as.getD i 0)) "rights" (.ref rt) H R := by
  obtain ⟨dx, rt0, h1, h2⟩ := (hh.nod i hi).ex
  have h3 := (hh.nod i hi).nam
  refine x_fsetE (nodeF { W.at i with r0 := r0, r1 := r1, r2 := r2 } (L.ns.getD i 0) rt) h1 CK.n (CK.nf _ (by decide)) (fun H' z1 z2 => ?_) (by rfl) (by simp [nodeF])
  have na := hh.dAN (hh.mA hi) (hh.mN hi)
  refine q H' (hh.set hi ⟨⟨dx, rt, z1, ?_⟩, ?_⟩ fun b hb _ => z2 b hb) (fun b o hb hn => ?_)
  · have nr : rt ≠ L.as.getD i 0 := fun z => by
      rw [z, h1] at hrt
      cases hrt
    rw [z2 rt nr]
    exact hrt
  · rw [z2 _ na.symm]
    exact h3
  · rw [z2 b fun z => hn (by rw [z]; exact List.mem_cons_of_mem _ (List.mem_cons_of_mem _ (List.mem_cons_of_mem _ (List.mem_append_left _ (hh.mA hi)))))]
    exact hb
/-- one node is another, but for what W.Ok asks -/
theorem put_ok {W : Wd} (ok : W.Ok) {i : Nat} {d : Nd} (hi : i < W.nodes.length) (hk : d.kind = (W.at i).kind) (hn : d.names = (W.at i).names) (ht : d.kind = "hint" → ∃ ps, partsOf false d.text = some ps) (hl : d.text.length ≤ 200) (hr : R8 d.r0 ∧ R8 d.r1 ∧ R8 d.r2) : (W.put i d).Ok := by
  have kin : ∀ j, ((W.put i d).at j).kind = (W.at j).kind := fun j => by
    rw [Wd.at_put hi]
    split
    · rename_i e
      rw [hk, e]
    · rfl
  refine ⟨ok.grp, by rw [Wd.len_put]; exact ok.one, by rw [kin]; exact ok.top, fun e he => ?_, fun p hp => ?_, ok.odup, ok.end_⟩
  · obtain ⟨j, hj, rfl⟩ := Wd.mem_at he
    rw [Wd.len_put] at hj
    rw [Wd.at_put hi]
    have oj := ok.at hj
    split
    · rename_i e
      subst e
      exact ⟨fun p hp => by rw [hn] at hp; rw [Wd.len_put]; exact oj.nam p hp, by rw [hn]; exact oj.dup, ht, hl, hr, by rw [hk]; exact oj.knd, fun z => by rw [hn]; exact oj.lf (by rw [← hk]; exact z)⟩
    · exact ⟨fun p hp => by rw [Wd.len_put]; exact oj.nam p hp, oj.dup, oj.hnt, oj.txt, oj.rts, oj.knd, oj.lf⟩
  · have := ok.ovr p hp
    exact ⟨by rw [Wd.len_put]; exact this.1, by rw [Wd.len_put]; exact this.2.1, by rw [kin]; exact this.2.2.1, by rw [kin]; exact this.2.2.2⟩
/-- rights given anew -/
def setR (W : Wd) (H : Hp) (vu vp vr : V) : Res Nat := if userB W vu = false then .err (.no 3) else if rightsB H vr = false then .err (.no 2) else match wayV W (userI vu) true vp with
  | .err e => .err e
  | .ok (ss, num) => if userI vu = 0 ∨ userI vu = (W.at (endNum ss num)).owner then .ok (endNum ss num) else .err (.right (userI vu) (endNum ss num))
def setW (W : Wd) (n : Nat) (r0 r1 r2 : Int) : Wd := W.put n { W.at n with r0 := r0, r1 := r1, r2 := r2 }
def canB (W : Wd) (u : Int) (n : Nat) (word : Str) : Bool := if word = "see" then mayOf W u n 4 else if word = "change" then mayOf W u n 2 else if word = "pass" then mayOf W u n 1 else false
def canR (W : Wd) (vu vp : V) (word : Str) : Res Bool := match atR W vu vp true with
  | .err e => .err e
  | .ok (ss, num) => .ok (canB W (userI vu) (endNum ss num) word)
theorem setR_plain {W : Wd} {H : Hp} {vu vp vr : V} {e : Err} (h : setR W H vu vp vr = .err e) : e.Plain := by
  unfold setR at h
  split at h
  · cases h; exact plain3
  · split at h
    · cases h; exact plain2
    · split at h
      · rename_i hx
        cases h
        exact wayV_plain hx
      · split at h
        · cases h
        · cases h; trivial
def setP (W : Wd) (u : Int) (p : Str) : Res Nat := match wayV W u true (.str p) with
  | .err e => .err e
  | .ok (ss, num) => if u = 0 ∨ u = (W.at (endNum ss num)).owner then .ok (endNum ss num) else .err (.right u (endNum ss num))
/-- a leaf gets another text -/
def writeR (W : Wd) (vu vp vt : V) : Res Nat := if userB W vu = false then .err (.no 3) else if textB vt = false then .err (.no 1) else match wayV W (userI vu) true vp with
  | .err e => .err e
  | .ok (ss, num) => if (W.at (endNum ss num)).kind = "leaf" then if mayOf W (userI vu) (endNum ss num) 2 = true then .ok (endNum ss num) else .err (.right (userI vu) (endNum ss num)) else .err (.no 7)
def textW (W : Wd) (n : Nat) (t : Str) : Wd := W.put n { W.at n with text := t }
theorem writeR_plain {W : Wd} {vu vp vt : V} {e : Err} (h : writeR W vu vp vt = .err e) : e.Plain := by
  unfold writeR at h
  split at h
  · cases h; exact plain3
  · split at h
    · cases h; exact plain1
    · split at h
      · rename_i hx
        cases h
        exact wayV_plain hx
      · split at h
        · split at h
          · cases h
          · cases h; trivial
        · cases h; exact plain7
/-- a name that is there -/
def namedR (W : Wd) (u : Int) (v : V) : Res (List Std × Str × Nat) := match placeV W u v with
  | .err e => .err e
  | .ok ss n => match look n (W.at (last ss).number).names with
    | none => .err (.name n)
    | some k => .ok (ss, n, k)
theorem namedR_plain {W : Wd} {u : Int} {v : V} {e : Err} (h : namedR W u v = .err e) : e.Plain := by
  unfold namedR at h
  split at h
  · rename_i hx
    cases h
    exact place_plain hx
  · split at h
    · cases h; trivial
    · cases h
/-- whether a room hangs, or is hung over -/
def boundB (W : Wd) (n : Nat) : Bool := (look n W.over).isSome || W.over.any fun p => decide (p.2 = n)
theorem over_vals (l : List (Nat × Nat)) : (overV l).map (·.2) = (l.map (·.2)).map fun n : Nat => V.int (n : Int) := by
  unfold overV
  rw [List.map_map, List.map_map]
  rfl
theorem in_over {n : Nat} : ∀ l : List (Nat × Nat), inV (.int n) ((l.map (·.2)).map fun n : Nat => V.int (n : Int)) = l.any fun p => decide (p.2 = n)
  | [] => rfl
  | p :: r => by
    show (eqV (.int p.2) (.int n) || inV (.int n) ((r.map (·.2)).map fun n : Nat => V.int (n : Int))) = (decide (p.2 = n) || r.any fun p => decide (p.2 = n))
    rw [in_over r]
    congr 1
    show ((p.2 : Int) == (n : Int)) = decide (p.2 = n)
    exact decide_eq_decide.mpr ⟨fun z => by omega, fun z => by rw [z]⟩
theorem flat_nats (l : List Nat) : (l.map fun n : Nat => V.int (n : Int)).all flatV = true := by
  rw [List.all_eq_true]
  intro x hx
  obtain ⟨s, _, rfl⟩ := List.mem_map.mp hx
  rfl
/-- a name is taken away -/
def dropN (n : Str) (l : List (Str × Nat)) : List (Str × Nat) := l.filter fun p => decide (p.1 ≠ n)
theorem dropK_names (n : Str) (l : List (Str × Nat)) : dropK (namesV l) (.inr n) = namesV (dropN n l) := by
  unfold dropK namesV dropN
  rw [List.filter_map]
  congr 1
  refine List.filter_congr fun p _ => ?_
  show decide ((Sum.inr p.1 : Key) ≠ Sum.inr n) = decide (p.1 ≠ n)
  exact decide_eq_decide.mpr ⟨fun z y => z (by rw [y]), fun z y => z (Sum.inr.inj y)⟩
def removeR (W : Wd) (vu vp : V) : Res (List Std × Str × Nat) := if userB W vu = false then .err (.no 3) else match namedR W (userI vu) vp with
  | .err e => .err e
  | .ok (ss, n, k) => if (W.at k).kind = "room" ∧ ((W.at k).names ≠ [] ∨ boundB W k = true) then .err (.no 11) else .ok (ss, n, k)
def dropW (W : Wd) (r : Nat) (n : Str) : Wd := W.put r { W.at r with names := dropN n (W.at r).names }
def cntW (W : Wd) (k : Nat) (i : Int) : Wd := W.put k { W.at k with count := (W.at k).count + i }
def removeW (W : Wd) (r : Nat) (n : Str) (k : Nat) : Wd := cntW (dropW W r n) k (-1)
theorem plain11 : (Err.no 11).Plain := (show (11 : Nat) < 13 ∧ (11 : Nat) ≠ 4 ∧ (11 : Nat) ≠ 5 by decide)
theorem removeR_plain {W : Wd} {vu vp : V} {e : Err} (h : removeR W vu vp = .err e) : e.Plain := by
  unfold removeR at h
  split at h
  · cases h; exact plain3
  · split at h
    · rename_i hx
      cases h
      exact namedR_plain hx
    · split at h
      · cases h; exact plain11
      · cases h
theorem drop_ok {W : Wd} (ok : W.Ok) {r : Nat} {n : Str} (hr : r < W.nodes.length) : (dropW W r n).Ok := by
  have kin : ∀ j, ((dropW W r n).at j).kind = (W.at j).kind := fun j => by
    unfold dropW
    rw [Wd.at_put hr]
    split
    · rename_i e
      rw [e]
    · rfl
  refine ⟨ok.grp, by unfold dropW; rw [Wd.len_put]; exact ok.one, by rw [kin]; exact ok.top, fun e he => ?_, fun p hp => ?_, ok.odup, ok.end_⟩
  · obtain ⟨j, hj, rfl⟩ := Wd.mem_at he
    have ll : (dropW W r n).nodes.length = W.nodes.length := Wd.len_put
    rw [ll] at hj
    have oj := ok.at hj
    have sub : ∀ p ∈ ((dropW W r n).at j).names, p ∈ (W.at j).names := fun p hp => by
      unfold dropW at hp
      rw [Wd.at_put hr] at hp
      split at hp
      · rename_i e
        rw [e]
        exact (List.mem_filter.mp hp).1
      · exact hp
    have fld : ((dropW W r n).at j).text = (W.at j).text ∧ ((dropW W r n).at j).r0 = (W.at j).r0 ∧ ((dropW W r n).at j).r1 = (W.at j).r1 ∧ ((dropW W r n).at j).r2 = (W.at j).r2 := by
      unfold dropW
      rw [Wd.at_put hr]
      split
      · rename_i e
        rw [e]
        exact ⟨rfl, rfl, rfl, rfl⟩
      · exact ⟨rfl, rfl, rfl, rfl⟩
    refine ⟨fun p hp => by rw [ll]; exact oj.nam p (sub p hp), ?_, fun z => by rw [fld.1]; exact oj.hnt (by rw [← kin]; exact z), by rw [fld.1]; exact oj.txt, by rw [fld.2.1, fld.2.2.1, fld.2.2.2]; exact oj.rts, by rw [kin]; exact oj.knd, fun z => ?_⟩
    · unfold dropW
      rw [Wd.at_put hr]
      split
      · exact ((List.filter_sublist).map _).nodup (ok.at hr).dup
      · exact oj.dup
    · have := oj.lf (by rw [← kin]; exact z)
      rw [List.eq_nil_iff_forall_not_mem]
      intro p hp
      have := sub p hp
      rw [oj.lf (by rw [← kin]; exact z)] at this
      cases this
  · have := ok.ovr p hp
    have ll : (dropW W r n).nodes.length = W.nodes.length := Wd.len_put
    exact ⟨by rw [ll]; exact this.1, by rw [ll]; exact this.2.1, by rw [kin]; exact this.2.2.1, by rw [kin]; exact this.2.2.2⟩
theorem named_ok {W : Wd} {u : Int} {v : V} {ss : List Std} {n : Str} {k : Nat} (h : namedR W u v = .ok (ss, n, k)) : placeV W u v = .ok ss n ∧ look n (W.at (last ss).number).names = some k := by
  unfold namedR at h
  split at h
  · cases h
  · rename_i ss' n' hp
    split at h
    · cases h
    · rename_i k' hk
      cases h
      exact ⟨hp, hk⟩
theorem look_lt {W : Wd} (ok : W.Ok) {r k : Nat} {n : Str} (hr : r < W.nodes.length) (h : look n (W.at r).names = some k) : k < W.nodes.length := ((ok.at hr).nam _ (look_mem h)).2
theorem len_drop {W : Wd} {r : Nat} {n : Str} : (dropW W r n).nodes.length = W.nodes.length := Wd.len_put
theorem cnt_ok {W : Wd} (ok : W.Ok) {k : Nat} {i : Int} (hk : k < W.nodes.length) : (cntW W k i).Ok := put_ok ok hk rfl rfl (ok.at hk).hnt (ok.at hk).txt (ok.at hk).rts
theorem remove_ok {W : Wd} (ok : W.Ok) {r k : Nat} {n : Str} (hr : r < W.nodes.length) (hk : k < W.nodes.length) : (removeW W r n k).Ok := cnt_ok (drop_ok ok hr) (by rw [len_drop]; exact hk)
/-- what a deed on names or texts makes of the world -/
def rmR (W : Wd) (u : Int) (p : Str) : Res Wd := match removeR W (.int u) (.str p) with
  | .err e => .err e
  | .ok (ss, n, k) => .ok (removeW W (last ss).number n k)
def wrR (W : Wd) (u : Int) (p t : Str) : Res Wd := match writeR W (.int u) (.str p) (.str t) with
  | .err e => .err e
  | .ok n => .ok (textW W n t)
theorem rmR_plain {W : Wd} {u : Int} {p : Str} {e : Err} (h : rmR W u p = .err e) : e.Plain := by
  unfold rmR at h
  split at h
  · rename_i hx
    cases h
    exact removeR_plain hx
  · cases h
theorem wrR_plain {W : Wd} {u : Int} {p t : Str} {e : Err} (h : wrR W u p t = .err e) : e.Plain := by
  unfold wrR at h
  split at h
  · rename_i hx
    cases h
    exact writeR_plain hx
  · cases h
def didR (W : Wd) (word : Str) (u : Int) (p t : Str) : Res Wd := if word = "remove" then rmR W u p else wrR W u p t
theorem didR_plain {W : Wd} {word : Str} {u : Int} {p t : Str} {e : Err} (h : didR W word u p t = .err e) : e.Plain := by
  unfold didR at h
  split at h
  · exact rmR_plain h
  · exact wrR_plain h
/-! ### another name -/
def nameW (W : Wd) (r : Nat) (n : Str) (k : Nat) : Wd := W.put r ((W.at r).name n k)
theorem len_name {W : Wd} {r k : Nat} {n : Str} : (nameW W r n k).nodes.length = W.nodes.length := Wd.len_put
theorem nameW_ok {W : Wd} (ok : W.Ok) {r k : Nat} {n : Str} (hr : r < W.nodes.length) (hk : (W.at r).kind = "room") (hn : isName n = true) (hl : look n (W.at r).names = none) (hkl : k < W.nodes.length) : (nameW W r n k).Ok := by
  have at_ : ∀ j, (nameW W r n k).at j = if j = r then (W.at r).name n k else W.at j := fun j => Wd.at_put hr
  have kin : ∀ j, ((nameW W r n k).at j).kind = (W.at j).kind := fun j => by
    rw [at_]
    split
    · rename_i e
      rw [e]
      rfl
    · rfl
  have len : (nameW W r n k).nodes.length = W.nodes.length := len_name
  refine ⟨ok.grp, by rw [len]; exact ok.one, by rw [kin]; exact ok.top, fun e he => ?_, fun p hp => ?_, ok.odup, ok.end_⟩
  · obtain ⟨j, hj, rfl⟩ := Wd.mem_at he
    rw [len] at hj
    rw [at_]
    split
    · have o := ok.at hr
      refine ⟨fun p hp => ?_, ?_, o.hnt, o.txt, o.rts, o.knd, fun z => (z hk).elim⟩
      · rw [len]
        rcases List.mem_append.mp hp with hp | hp
        · exact o.nam p hp
        · rw [List.mem_singleton.mp hp]
          exact ⟨hn, hkl⟩
      · show (((W.at r).names ++ [(n, k)]).map (·.1)).Nodup
        rw [List.map_append]
        refine List.nodup_append.mpr ⟨o.dup, by simp, fun a ha b hb => ?_⟩
        rw [List.map_singleton, List.mem_singleton] at hb
        intro z
        rw [z, hb] at ha
        exact look_none hl ha
    · have o := ok.at hj
      exact ⟨fun p hp => by rw [len]; exact o.nam p hp, o.dup, o.hnt, o.txt, o.rts, o.knd, o.lf⟩
  · have := ok.ovr p hp
    exact ⟨by rw [len]; exact this.1, by rw [len]; exact this.2.1, by rw [kin]; exact this.2.2.1, by rw [kin]; exact this.2.2.2⟩
def linkR (W : Wd) (vu vo vn : V) : Res (Nat × List Std × Str) := if userB W vu = false then .err (.no 3) else match wayV W (userI vu) false vo with
  | .err e => .err e
  | .ok (ss, num) => if (W.at (endNum ss num)).kind = "room" then .err (.no 7) else match freeV W (userI vu) vn with
    | .err e => .err e
    | .ok st n => .ok (endNum ss num, st, n)
def linkW (W : Wd) (r : Nat) (n : Str) (k : Nat) : Wd := cntW (nameW W r n k) k 1
theorem linkR_plain {W : Wd} {vu vo vn : V} {e : Err} (h : linkR W vu vo vn = .err e) : e.Plain := by
  unfold linkR at h
  split at h
  · cases h; exact plain3
  · split at h
    · rename_i hx
      cases h
      exact wayV_plain hx
    · split at h
      · cases h; exact plain7
      · split at h
        · rename_i hx
          cases h
          exact free_plain hx
        · cases h
/-! ### a name that goes to another place (of what is no room) -/
def moveR (W : Wd) (vu vo vn : V) : Res (List Std × Str × Nat × List Std × Str) := if userB W vu = false then .err (.no 3) else match namedR W (userI vu) vo with
  | .err e => .err e
  | .ok (ss, n, k) => match freeV W (userI vu) vn with
    | .err e => .err e
    | .ok st m => .ok (ss, n, k, st, m)
def moveW (W : Wd) (r : Nat) (n : Str) (k r2 : Nat) (m : Str) : Wd := nameW (dropW W r n) r2 m k
theorem drop_at {W : Wd} {r j : Nat} {n : Str} (hr : r < W.nodes.length) : (dropW W r n).at j = if j = r then { W.at r with names := dropN n (W.at r).names } else W.at j := Wd.at_put hr
theorem drop_kind {W : Wd} {r j : Nat} {n : Str} (hr : r < W.nodes.length) : ((dropW W r n).at j).kind = (W.at j).kind := by
  rw [drop_at hr]
  split
  · rename_i e
    rw [e]
  · rfl
theorem look_dropN {n m : Str} : ∀ {l : List (Str × Nat)}, look m l = none → look m (dropN n l) = none
  | [], _ => rfl
  | (a, b) :: l, h => by
    unfold look at h
    split at h
    · cases h
    · rename_i hne
      have ih := look_dropN (n := n) h
      unfold dropN at ih ⊢
      rw [List.filter_cons]
      split
      · unfold look
        rw [if_neg hne]
        exact ih
      · exact ih
theorem drop_look {W : Wd} {r j : Nat} {n m : Str} (hr : r < W.nodes.length) (h : look m (W.at j).names = none) : look m ((dropW W r n).at j).names = none := by
  rw [drop_at hr]
  split
  · rename_i e
    rw [← e]
    exact look_dropN h
  · exact h
theorem move_ok {W : Wd} (ok : W.Ok) {r r2 k : Nat} {n m : Str} (hr : r < W.nodes.length) (hr2 : r2 < W.nodes.length) (hk2 : (W.at r2).kind = "room") (hm : isName m = true) (hl : look m (W.at r2).names = none) (hk : k < W.nodes.length) : (moveW W r n k r2 m).Ok :=
  nameW_ok (drop_ok ok hr) (by rw [len_drop]; exact hr2) (by rw [drop_kind hr]; exact hk2) hm (drop_look hr hl) (by rw [len_drop]; exact hk)
theorem moveR_plain {W : Wd} {vu vo vn : V} {e : Err} (h : moveR W vu vo vn = .err e) : e.Plain := by
  unfold moveR at h
  split at h
  · cases h; exact plain3
  · split at h
    · rename_i hx
      cases h
      exact namedR_plain hx
    · split at h
      · rename_i hx
        cases h
        exact free_plain hx
      · cases h
end Tm

/-! rooms form a tree by their names -/
namespace Tm
open PySem PySem.Spec PyProof.Rows L2
def Kid (W : Wd) (r c : Nat) : Prop := ∃ n, (n, c) ∈ (W.at r).names ∧ (W.at c).kind = "room"
structure Tree (W : Wd) : Prop where
  rk : ∃ rank : Nat → Nat, ∀ r c, Kid W r c → rank r < rank c
  one : ∀ r r' n n' c, (n, c) ∈ (W.at r).names → (n', c) ∈ (W.at r').names → (W.at c).kind = "room" → r = r' ∧ n = n'
  top : ∀ r, ¬ Kid W r 0
inductive Below (W : Wd) (x : Nat) : Nat → Prop
  | self : Below W x x
  | step {y z : Nat} : Below W x y → Kid W y z → Below W x z
theorem Below.head {W : Wd} {x y z : Nat} (h : Kid W x y) (b : Below W y z) : Below W x z := by
  induction b with
  | self => exact .step .self h
  | step _ k ih => exact .step ih k
theorem Below.trans {W : Wd} {x y z : Nat} (a : Below W x y) (b : Below W y z) : Below W x z := by
  induction b with
  | self => exact a
  | step _ k ih => exact .step ih k
theorem Below.cases' {W : Wd} {x z : Nat} (b : Below W x z) : x = z ∨ ∃ y, Kid W x y ∧ Below W y z := by
  induction b with
  | self => exact .inl rfl
  | step b k ih =>
    rcases ih with rfl | ⟨y, h1, h2⟩
    · exact .inr ⟨_, k, .self⟩
    · exact .inr ⟨y, h1, .step h2 k⟩
theorem Below.rank {W : Wd} {rank : Nat → Nat} (h : ∀ r c, Kid W r c → rank r < rank c) {x y : Nat} (b : Below W x y) : rank x ≤ rank y := by
  induction b with
  | self => exact Nat.le_refl _
  | step _ k ih => exact Nat.le_of_lt (Nat.lt_of_le_of_lt ih (h _ _ k))
theorem at_big {W : Wd} {i : Nat} (h : W.nodes.length ≤ i) : W.at i = nd0 := by
  unfold Wd.at
  rw [List.getD_eq_getElem?_getD, List.getElem?_eq_none h]
  rfl
theorem name_lt {W : Wd} {r c : Nat} {n : Str} (h : (n, c) ∈ (W.at r).names) : r < W.nodes.length := by
  by_cases e : r < W.nodes.length
  · exact e
  · rw [at_big (by omega)] at h
    cases h
theorem Kid.lt {W : Wd} {r c : Nat} (h : Kid W r c) : r < W.nodes.length := by
  obtain ⟨n, h, _⟩ := h
  exact name_lt h
theorem name_lt2 {W : Wd} (ok : W.Ok) {r c : Nat} {n : Str} (h : (n, c) ∈ (W.at r).names) : c < W.nodes.length := ((ok.at (name_lt h)).nam _ h).2
theorem Kid.lt2 {W : Wd} (ok : W.Ok) {r c : Nat} (h : Kid W r c) : c < W.nodes.length := by
  obtain ⟨n, h, _⟩ := h
  exact name_lt2 ok h
theorem Tree.par {W : Wd} (t : Tree W) {r r' c : Nat} (h : Kid W r c) (h' : Kid W r' c) : r = r' := by
  obtain ⟨n, h1, h2⟩ := h
  obtain ⟨n', h3, _⟩ := h'
  exact (t.one _ _ _ _ _ h1 h3 h2).1
/-- ranks below the number of nodes -/
theorem Tree.bnd {W : Wd} (ok : W.Ok) (t : Tree W) : ∃ rank : Nat → Nat, (∀ r c, Kid W r c → rank r < rank c) ∧ ∀ x, x < W.nodes.length → rank x < W.nodes.length := by
  obtain ⟨rk, hk⟩ := t.rk
  have mono : ∀ (l : List Nat) (a b : Nat), rk a ≤ rk b → (l.filter fun y => decide (rk y < rk a)).length ≤ (l.filter fun y => decide (rk y < rk b)).length := by
    intro l a b hab
    induction l with
    | nil => exact Nat.le_refl _
    | cons c l ih =>
      rw [List.filter_cons, List.filter_cons]
      by_cases h1 : rk c < rk a
      · rw [if_pos (decide_eq_true h1), if_pos (decide_eq_true (by omega)), List.length_cons, List.length_cons]
        omega
      · rw [if_neg (by simpa using h1)]
        split
        · rw [List.length_cons]
          omega
        · exact ih
  have strict : ∀ (l : List Nat) (a b : Nat), a ∈ l → rk a < rk b → (l.filter fun y => decide (rk y < rk a)).length < (l.filter fun y => decide (rk y < rk b)).length := by
    intro l a b ha hab
    induction l with
    | nil => cases ha
    | cons c l ih =>
      rw [List.filter_cons, List.filter_cons]
      rcases List.mem_cons.mp ha with rfl | ha
      · rw [if_neg (by simp), if_pos (decide_eq_true hab), List.length_cons]
        have := mono l a b (by omega)
        omega
      · have := ih ha
        by_cases h1 : rk c < rk a
        · rw [if_pos (decide_eq_true h1), if_pos (decide_eq_true (by omega)), List.length_cons, List.length_cons]
          omega
        · rw [if_neg (by simpa using h1)]
          split
          · rw [List.length_cons]
            omega
          · exact this
  refine ⟨fun x => ((List.range W.nodes.length).filter fun y => decide (rk y < rk x)).length, fun r c h => strict _ _ _ (List.mem_range.mpr h.lt) (hk r c h), fun x hx => ?_⟩
  have h1 := strict (List.range W.nodes.length ++ [W.nodes.length]) x x
  have : ∀ (l : List Nat) (a : Nat), a ∈ l → (l.filter fun y => decide (rk y < rk a)).length < l.length := by
    intro l a ha
    induction l with
    | nil => cases ha
    | cons c l ih =>
      rw [List.filter_cons]
      rcases List.mem_cons.mp ha with rfl | ha
      · rw [if_neg (by simp), List.length_cons]
        have := List.length_filter_le (fun y => decide (rk y < rk a)) l
        omega
      · have := ih ha
        split <;> rw [List.length_cons] <;> (try rw [List.length_cons]) <;> omega
  have := this (List.range W.nodes.length) x (List.mem_range.mpr hx)
  rw [List.length_range] at this
  exact this
/-! ### all rooms beneath one -/
def subGo (W : Wd) : Nat → Nat → List Nat
  | 0, x => [x]
  | m + 1, x => x :: (W.at x).names.flatMap fun p => if (W.at p.2).kind = "room" then subGo W m p.2 else []
def roomsOf (W : Wd) (x : Nat) : List Nat := subGo W W.nodes.length x
theorem sub_below {W : Wd} : ∀ (m x : Nat) {y : Nat}, y ∈ subGo W m x → Below W x y
  | 0, x, y, h => by
    unfold subGo at h
    rw [List.mem_singleton.mp h]
    exact .self
  | m + 1, x, y, h => by
    unfold subGo at h
    rcases List.mem_cons.mp h with rfl | h
    · exact .self
    · obtain ⟨p, hp, h⟩ := List.mem_flatMap.mp h
      split at h
      · rename_i hk
        exact Below.head ⟨p.1, hp, hk⟩ (sub_below m p.2 h)
      · cases h
theorem below_sub {W : Wd} (ok : W.Ok) {rank : Nat → Nat} (hr : ∀ r c, Kid W r c → rank r < rank c) (hb : ∀ x, x < W.nodes.length → rank x < W.nodes.length) : ∀ (m x : Nat) {y : Nat}, W.nodes.length ≤ m + rank x + 1 → Below W x y → y ∈ subGo W m x
  | 0, x, y, hm, h => by
    unfold subGo
    rcases h.cases' with rfl | ⟨z, h1, h2⟩
    · simp
    · have := hr _ _ h1
      have := hb _ (h1.lt2 ok)
      omega
  | m + 1, x, y, hm, h => by
    unfold subGo
    rcases h.cases' with rfl | ⟨z, h1, h2⟩
    · simp
    · have := hr _ _ h1
      obtain ⟨n, h3, h4⟩ := h1
      refine List.mem_cons_of_mem _ (List.mem_flatMap.mpr ⟨(n, z), h3, ?_⟩)
      show y ∈ if (W.at z).kind = "room" then subGo W m z else []
      rw [if_pos h4]
      exact below_sub ok hr hb m z (by omega) h2
theorem mem_rooms {W : Wd} (ok : W.Ok) (t : Tree W) {x y : Nat} : y ∈ roomsOf W x ↔ Below W x y := by
  obtain ⟨rank, h1, h2⟩ := t.bnd ok
  exact ⟨sub_below _ _, below_sub ok h1 h2 _ _ (by omega)⟩
theorem below_sib {W : Wd} (t : Tree W) {x c d y : Nat} (h1 : Kid W x c) (h2 : Kid W x d) (a : Below W c y) (b : Below W d y) : c = d := by
  obtain ⟨rank, hr⟩ := t.rk
  have no : ∀ {c : Nat}, Kid W x c → ¬ Below W c x := fun {c} h z => by
    have := hr _ _ h
    have := z.rank hr
    omega
  induction a with
  | self =>
    cases b with
    | self => rfl
    | step b k =>
      rw [t.par k h1] at b
      exact (no h2 b).elim
  | step a k ih =>
    cases b with
    | self =>
      rw [t.par k h2] at a
      exact (no h1 a).elim
    | step b k' =>
      rw [t.par k' k] at b
      exact ih b
theorem sub_nodup {W : Wd} (ok : W.Ok) (t : Tree W) : ∀ (m x : Nat), (subGo W m x).Nodup
  | 0, x => by
    unfold subGo
    simp
  | m + 1, x => by
    obtain ⟨rank, hr⟩ := t.rk
    unfold subGo
    refine List.nodup_cons.mpr ⟨fun h => ?_, ?_⟩
    · obtain ⟨p, hp, h⟩ := List.mem_flatMap.mp h
      split at h
      · rename_i hk
        have h1 := hr x p.2 ⟨p.1, hp, hk⟩
        have h2 := (sub_below _ _ h).rank hr
        omega
      · cases h
    · by_cases hx : x < W.nodes.length
      · have dup := (ok.at hx).dup
        have key : ∀ l : List (Str × Nat), (∀ p ∈ l, p ∈ (W.at x).names) → (l.map (·.1)).Nodup → (l.flatMap fun p => if (W.at p.2).kind = "room" then subGo W m p.2 else []).Nodup := by
          intro l hl hd
          induction l with
          | nil => exact List.nodup_nil
          | cons p l ih =>
            rw [List.flatMap_cons]
            rw [List.map_cons, List.nodup_cons] at hd
            refine List.nodup_append.mpr ⟨?_, ih (fun q hq => hl q (List.mem_cons_of_mem _ hq)) hd.2, ?_⟩
            · split
              · exact sub_nodup ok t m p.2
              · exact List.nodup_nil
            · intro a ha b hb e
              subst e
              split at ha
              · rename_i hk
                obtain ⟨q, hq, hb⟩ := List.mem_flatMap.mp hb
                split at hb
                · rename_i hk2
                  have hp := hl p (List.mem_cons_self ..)
                  have hq' := hl q (List.mem_cons_of_mem _ hq)
                  have := below_sib t ⟨p.1, hp, hk⟩ ⟨q.1, hq', hk2⟩ (sub_below _ _ ha) (sub_below _ _ hb)
                  have := (t.one x x p.1 q.1 p.2 hp (by rw [this]; exact hq') hk).2
                  exact hd.1 (by rw [this]; exact List.mem_map_of_mem hq)
                · cases hb
              · cases ha
        exact key _ (fun _ h => h) dup
      · rw [at_big (by omega)]
        exact List.nodup_nil
theorem rooms_nodup {W : Wd} (ok : W.Ok) (t : Tree W) (x : Nat) : (roomsOf W x).Nodup := sub_nodup ok t _ x
/-! ### what keeps it -/
theorem Tree.less {W W' : Wd} (t : Tree W) (hn : ∀ r p, p ∈ (W'.at r).names → (W'.at p.2).kind = "room" → p ∈ (W.at r).names) (hk : ∀ r p, p ∈ (W'.at r).names → (W'.at p.2).kind = "room" → (W.at p.2).kind = "room") : Tree W' := by
  have kid : ∀ r c, Kid W' r c → Kid W r c := fun r c ⟨n, h1, h2⟩ => ⟨n, hn r (n, c) h1 h2, hk r (n, c) h1 h2⟩
  obtain ⟨rank, hr⟩ := t.rk
  exact ⟨⟨rank, fun r c h => hr r c (kid r c h)⟩, fun r r' n n' c h1 h2 h3 => t.one r r' n n' c (hn r (n, c) h1 h3) (hn r' (n', c) h2 h3) (hk r (n, c) h1 h3), fun r h => t.top r (kid r 0 h)⟩
theorem tree_made {W : Wd} (ok : W.Ok) (t : Tree W) {r : Nat} {n : Str} {d : Nd} (hr : r < W.nodes.length) (hd : d.names = []) : Tree (madeW W r n d) := by
  have hl : (W.add d).nodes.length = W.nodes.length + 1 := Wd.add_len
  have at_ : ∀ j, (madeW W r n d).at j = if j = r then (W.at r).name n W.nodes.length else (W.add d).at j := fun j => Wd.at_put (by rw [hl]; omega)
  have nm : ∀ j p, p ∈ ((madeW W r n d).at j).names → (p ∈ (W.at j).names ∧ p.2 < W.nodes.length) ∨ (j = r ∧ p = (n, W.nodes.length)) := by
    intro j p h
    rw [at_] at h
    split at h
    · rename_i e
      subst e
      rcases List.mem_append.mp h with h | h
      · exact .inl ⟨h, name_lt2 ok h⟩
      · exact .inr ⟨rfl, List.mem_singleton.mp h⟩
    · by_cases c : j < W.nodes.length
      · rw [Wd.add_at c] at h
        exact .inl ⟨h, name_lt2 ok h⟩
      · by_cases c2 : j = W.nodes.length
        · subst c2
          rw [Wd.add_new, hd] at h
          cases h
        · rw [at_big (by rw [hl]; omega)] at h
          cases h
  have kd : ∀ j, j < W.nodes.length → ((madeW W r n d).at j).kind = (W.at j).kind := by
    intro j hj
    rw [at_]
    split
    · rename_i e
      subst e
      rfl
    · rw [Wd.add_at hj]
  obtain ⟨rank, hk⟩ := t.rk
  refine ⟨⟨fun x => if x = W.nodes.length then rank r + 1 else rank x, fun a b ⟨m, h1, h2⟩ => ?_⟩, fun a b m m' c h1 h2 h3 => ?_, fun a ⟨m, h1, h2⟩ => ?_⟩
  · rcases nm a _ h1 with ⟨h, hb⟩ | ⟨rfl, h⟩
    · have ha := name_lt h
      dsimp only at hb ⊢
      rw [if_neg (by omega), if_neg (by omega)]
      exact hk a b ⟨m, h, by rw [← kd b hb]; exact h2⟩
    · injection h with h3 h4
      dsimp only
      rw [if_neg (by omega), if_pos h4]
      omega
  · rcases nm a _ h1 with ⟨h, hb⟩ | ⟨rfl, h⟩
    · rcases nm b _ h2 with ⟨h', hb'⟩ | ⟨rfl, h'⟩
      · exact t.one a b m m' c h h' (by rw [← kd c hb]; exact h3)
      · injection h' with _ h'
        dsimp only at hb
        omega
    · rcases nm b _ h2 with ⟨h', hb'⟩ | ⟨rfl, h'⟩
      · injection h with _ h
        dsimp only at hb'
        omega
      · injection h with h _
        injection h' with h' _
        exact ⟨rfl, by rw [h, h']⟩
  · rcases nm a _ h1 with ⟨h, hb⟩ | ⟨rfl, h⟩
    · exact t.top a ⟨m, h, by rw [← kd 0 hb]; exact h2⟩
    · injection h with _ h
      omega
theorem cnt_at {W : Wd} {k j : Nat} {i : Int} : ((cntW W k i).at j).names = (W.at j).names ∧ ((cntW W k i).at j).kind = (W.at j).kind := by
  by_cases hk : k < W.nodes.length
  · unfold cntW
    rw [Wd.at_put hk]
    split
    · rename_i e
      subst e
      exact ⟨rfl, rfl⟩
    · exact ⟨rfl, rfl⟩
  · have : cntW W k i = W := by
      unfold cntW Wd.put
      rw [List.set_eq_of_length_le (by omega)]
    rw [this]
    exact ⟨rfl, rfl⟩
theorem tree_cnt {W : Wd} (t : Tree W) {k : Nat} {i : Int} : Tree (cntW W k i) := t.less (fun r p h _ => by rw [cnt_at.1] at h; exact h) (fun r p _ h => by rw [cnt_at.2] at h; exact h)
theorem tree_drop {W : Wd} (t : Tree W) {r : Nat} {n : Str} (hr : r < W.nodes.length) : Tree (dropW W r n) := by
  refine t.less (fun j p h _ => ?_) (fun j p _ h => by rw [drop_kind hr] at h; exact h)
  rw [drop_at hr] at h
  split at h
  · rename_i e
    subst e
    exact (List.mem_filter.mp h).1
  · exact h
theorem tree_remove {W : Wd} (t : Tree W) {r k : Nat} {n : Str} (hr : r < W.nodes.length) : Tree (removeW W r n k) := tree_cnt (tree_drop t hr)
theorem name_at {W : Wd} {r j k : Nat} {n : Str} (hr : r < W.nodes.length) : (nameW W r n k).at j = if j = r then (W.at r).name n k else W.at j := Wd.at_put hr
theorem name_kind {W : Wd} {r j k : Nat} {n : Str} (hr : r < W.nodes.length) : ((nameW W r n k).at j).kind = (W.at j).kind := by
  rw [name_at hr]
  split
  · rename_i e
    rw [e]
    rfl
  · rfl
theorem name_mem {W : Wd} {r j k : Nat} {n : Str} {p : Str × Nat} (hr : r < W.nodes.length) (h : p ∈ ((nameW W r n k).at j).names) : p ∈ (W.at j).names ∨ (j = r ∧ p = (n, k)) := by
  rw [name_at hr] at h
  split at h
  · rename_i e
    subst e
    rcases List.mem_append.mp h with h | h
    · exact .inl h
    · exact .inr ⟨rfl, List.mem_singleton.mp h⟩
  · exact .inl h
/-- another name for what is no room -/
theorem tree_name {W : Wd} (t : Tree W) {r k : Nat} {n : Str} (hr : r < W.nodes.length) (hk : (W.at k).kind ≠ "room") : Tree (nameW W r n k) := by
  refine t.less (fun j p h h2 => ?_) (fun j p _ h => by rw [name_kind hr] at h; exact h)
  rcases name_mem hr h with h | ⟨rfl, rfl⟩
  · exact h
  · rw [name_kind hr] at h2
    exact (hk h2).elim
theorem tree_link {W : Wd} (t : Tree W) {r k : Nat} {n : Str} (hr : r < W.nodes.length) (hk : (W.at k).kind ≠ "room") : Tree (linkW W r n k) := tree_cnt (tree_name t hr hk)
theorem drop_mem {W : Wd} {r j : Nat} {n : Str} {p : Str × Nat} (hr : r < W.nodes.length) (h : p ∈ ((dropW W r n).at j).names) : p ∈ (W.at j).names ∧ ¬ (j = r ∧ p.1 = n) := by
  rw [drop_at hr] at h
  split at h
  · rename_i e
    subst e
    obtain ⟨h1, h2⟩ := List.mem_filter.mp h
    exact ⟨h1, fun z => of_decide_eq_true h2 z.2⟩
  · rename_i e
    exact ⟨h, fun z => e z.1⟩
/-- a room moved -/
theorem tree_move {W : Wd} (t : Tree W) {r k r2 : Nat} {n m : Str} (hr : r < W.nodes.length) (hr2 : r2 < W.nodes.length) (hl : (n, k) ∈ (W.at r).names) (hk : (W.at k).kind = "room") (hb : ¬ Below W k r2) : Tree (moveW W r n k r2 m) := by
  have hr2' : r2 < (dropW W r n).nodes.length := by rw [len_drop]; exact hr2
  have kd : ∀ j, ((moveW W r n k r2 m).at j).kind = (W.at j).kind := fun j => by
    unfold moveW
    rw [name_kind hr2', drop_kind hr]
  have nm : ∀ j p, p ∈ ((moveW W r n k r2 m).at j).names → (p ∈ (W.at j).names ∧ ¬ (j = r ∧ p.1 = n)) ∨ (j = r2 ∧ p = (m, k)) := fun j p h => by
    rcases name_mem hr2' h with h | h
    · exact .inl (drop_mem hr h)
    · exact .inr h
  have nk : ∀ j s, (s, k) ∈ (W.at j).names → ¬ (j = r ∧ s = n) → False := fun j s h hn => hn (t.one j r s n k h hl hk)
  obtain ⟨rank, hrk⟩ := t.rk
  have dec : ∀ x, Decidable (Below W k x) := fun x => Classical.propDecidable _
  refine ⟨⟨fun x => if Below W k x then rank x + rank r2 + 1 else rank x, fun a b ⟨s, h1, h2⟩ => ?_⟩, fun a b s s' c h1 h2 h3 => ?_, fun a ⟨s, h1, h2⟩ => ?_⟩
  · rw [kd] at h2
    dsimp only
    rcases nm a _ h1 with ⟨h, hn⟩ | ⟨rfl, h⟩
    · have kid : Kid W a b := ⟨s, h, h2⟩
      have := hrk a b kid
      by_cases c : Below W k a
      · rw [if_pos c, if_pos (.step c kid)]
        omega
      · rw [if_neg c]
        by_cases c2 : Below W k b
        · cases c2 with
          | self => exact (nk a s h hn).elim
          | step c2 k2 =>
            rw [t.par k2 kid] at c2
            exact (c c2).elim
        · rw [if_neg c2]
          exact this
    · injection h with _ h
      subst h
      rw [if_neg hb, if_pos .self]
      omega
  · rw [kd] at h3
    rcases nm a _ h1 with ⟨h, hn⟩ | ⟨rfl, h⟩
    · rcases nm b _ h2 with ⟨h', hn'⟩ | ⟨rfl, h'⟩
      · exact t.one a b s s' c h h' h3
      · injection h' with _ h'
        subst h'
        exact (nk a s h hn).elim
    · injection h with hs h
      subst h
      rcases nm b _ h2 with ⟨h', hn'⟩ | ⟨rfl, h'⟩
      · exact (nk b s' h' hn').elim
      · injection h' with h' _
        exact ⟨rfl, by rw [hs, h']⟩
  · rw [kd] at h2
    rcases nm a _ h1 with ⟨h, hn⟩ | ⟨rfl, h⟩
    · exact t.top a ⟨s, h, h2⟩
    · injection h with _ h
      subst h
      exact t.top r ⟨n, hl, h2⟩
theorem tree_put {W : Wd} (t : Tree W) {i : Nat} {d : Nd} (hi : i < W.nodes.length) (hk : d.kind = (W.at i).kind) (hn : d.names = (W.at i).names) : Tree (W.put i d) := by
  refine t.less (fun j p h _ => ?_) (fun j p _ h => ?_)
  · rw [Wd.at_put hi] at h
    split at h
    · rename_i e
      subst e
      rw [← hn]
      exact h
    · exact h
  · rw [Wd.at_put hi] at h
    split at h
    · rename_i e
      rw [e, ← hk]
      exact h
    · exact h
theorem tree_w0 (gs : List Int) : Tree (w0 gs) := by
  have nn : ∀ r p, ¬ p ∈ ((w0 gs).at r).names := by
    intro r p h
    have hr := name_lt h
    have e : r = 0 := by
      have : (w0 gs).nodes.length = 1 := rfl
      omega
    subst e
    cases h
  exact ⟨⟨id, fun r c ⟨n, h, _⟩ => (nn r _ h).elim⟩, fun r r' n n' c h => (nn r _ h).elim, fun r ⟨n, h, _⟩ => nn r _ h⟩
/-! ### a walk by a list of what is left -/
structure Bfs (W : Wd) (n : Nat) (fnd rst : List Nat) : Prop where
  nd : (fnd ++ rst).Nodup
  par : ∀ x ∈ fnd ++ rst, x = n ∨ ∃ p ∈ fnd, Kid W p x
  bel : ∀ x ∈ fnd ++ rst, Below W n x
  cl : ∀ p ∈ fnd, ∀ c, Kid W p c → c ∈ fnd ++ rst
  st : n ∈ fnd ++ rst
theorem Bfs.start (W : Wd) (n : Nat) : Bfs W n [] [n] := ⟨by simp, fun x hx => .inl (by simpa using hx), fun x hx => by
  have : x = n := by simpa using hx
  rw [this]
  exact .self, fun p hp => (nomatch hp), by simp⟩
theorem Bfs.step {W : Wd} (t : Tree W) {n h : Nat} {fnd r ks : List Nat} (b : Bfs W n fnd (h :: r)) (kn : ks.Nodup) (km : ∀ c, c ∈ ks ↔ Kid W h c) : Bfs W n (fnd ++ [h]) (r ++ ks) := by
  obtain ⟨rank, hr⟩ := t.rk
  have e : (fnd ++ [h]) ++ (r ++ ks) = (fnd ++ h :: r) ++ ks := by simp
  have hb : Below W n h := b.bel h (by simp)
  have hnf : h ∉ fnd := fun z => by
    have := List.nodup_append.mp b.nd
    exact this.2.2 h z h (by simp) rfl
  have sep : ∀ c ∈ ks, c ∉ fnd ++ h :: r := fun c hc z => by
    have k := (km c).mp hc
    have r1 := hr _ _ k
    rcases b.par c z with rfl | ⟨p, hp, hk⟩
    · have := hb.rank hr
      omega
    · rw [t.par hk k] at hp
      exact hnf hp
  refine ⟨?_, ?_, ?_, ?_, ?_⟩
  · rw [e]
    exact List.nodup_append.mpr ⟨b.nd, kn, fun a ha c hc z => by subst z; exact sep a hc ha⟩
  · rw [e]
    intro x hx
    rcases List.mem_append.mp hx with hx | hx
    · rcases b.par x hx with h1 | ⟨p, hp, hk⟩
      · exact .inl h1
      · exact .inr ⟨p, List.mem_append_left _ hp, hk⟩
    · exact .inr ⟨h, by simp, (km x).mp hx⟩
  · rw [e]
    intro x hx
    rcases List.mem_append.mp hx with hx | hx
    · exact b.bel x hx
    · exact .step hb ((km x).mp hx)
  · rw [e]
    intro p hp c hc
    rcases List.mem_append.mp hp with hp | hp
    · exact List.mem_append_left _ (b.cl p hp c hc)
    · rw [List.mem_singleton.mp hp] at hc
      exact List.mem_append_right _ ((km c).mpr hc)
  · rw [e]
    exact List.mem_append_left _ b.st
theorem perm_nodup {l m : List Nat} (hl : l.Nodup) (hm : m.Nodup) (h : ∀ x, x ∈ l ↔ x ∈ m) : l.Perm m := (List.perm_ext_iff_of_nodup hl hm).mpr h
theorem Bfs.done {W : Wd} (ok : W.Ok) (t : Tree W) {n : Nat} {fnd : List Nat} (b : Bfs W n fnd []) : fnd.Perm (roomsOf W n) := by
  have e : fnd ++ [] = fnd := List.append_nil _
  refine perm_nodup (by have := b.nd; rwa [e] at this) (rooms_nodup ok t n) fun x => ?_
  rw [mem_rooms ok t]
  refine ⟨fun h => b.bel x (by rw [e]; exact h), fun h => ?_⟩
  induction h with
  | self =>
    have := b.st
    rwa [e] at this
  | step _ k ih =>
    have := b.cl _ ih _ k
    rwa [e] at this
theorem Below.lt {W : Wd} (ok : W.Ok) {x y : Nat} (h : Below W x y) (hx : x < W.nodes.length) : y < W.nodes.length := by
  cases h with
  | self => exact hx
  | step _ k => exact k.lt2 ok
theorem nodup_len : ∀ (N : Nat) (l : List Nat), l.Nodup → (∀ x ∈ l, x < N) → l.length ≤ N := by
  intro N
  induction N with
  | zero =>
    intro l _ h
    cases l with
    | nil => exact Nat.le_refl _
    | cons a l => exact absurd (h a (List.mem_cons_self ..)) (Nat.not_lt_zero _)
  | succ N ih =>
    intro l hl h
    have h1 := ih (l.erase N) (hl.erase N) fun x hx => by
      have h2 := h x (List.mem_of_mem_erase hx)
      have h3 : x ≠ N := fun z => by
        rw [z] at hx
        exact (List.Nodup.not_mem_erase hl) hx
      omega
    have h2 := List.length_erase_le (a := N) (l := l)
    have h3 : l.length ≤ (l.erase N).length + 1 := by
      rw [List.length_erase]
      split <;> omega
    omega
theorem Bfs.len {W : Wd} (ok : W.Ok) {n : Nat} {fnd rst : List Nat} (b : Bfs W n fnd rst) (hn : n < W.nodes.length) : fnd.length + rst.length ≤ W.nodes.length := by
  rw [← List.length_append]
  exact nodup_len _ _ b.nd fun x hx => (b.bel x hx).lt ok hn
theorem kids_of {W : Wd} (ok : W.Ok) (t : Tree W) {h : Nat} (hh : h < W.nodes.length) {ys : List Str} (p : ys.Perm ((W.at h).names.map (·.1))) :
    (∀ s ∈ ys, ∃ k, look s (W.at h).names = some k ∧ (s, k) ∈ (W.at h).names) ∧ ((ys.filter fun s => decide ((W.at ((look s (W.at h).names).getD 0)).kind = "room")).map fun s => (look s (W.at h).names).getD 0).Nodup ∧ ∀ c, c ∈ ((ys.filter fun s => decide ((W.at ((look s (W.at h).names).getD 0)).kind = "room")).map fun s => (look s (W.at h).names).getD 0) ↔ Kid W h c := by
  have dup := (ok.at hh).dup
  have lk : ∀ s k, (s, k) ∈ (W.at h).names → look s (W.at h).names = some k := by
    have : ∀ l : List (Str × Nat), (l.map (·.1)).Nodup → ∀ s k, (s, k) ∈ l → look s l = some k := by
      intro l hl s k hs
      induction l with
      | nil => cases hs
      | cons q l ih =>
        rw [List.map_cons, List.nodup_cons] at hl
        obtain ⟨a, b⟩ := q
        unfold look
        rcases List.mem_cons.mp hs with z | hs
        · injection z with z1 z2
          rw [if_pos z1.symm, z2]
        · rw [if_neg fun z => hl.1 (by rw [show ((a, b) : Str × Nat).1 = s from z]; exact List.mem_map_of_mem hs)]
          exact ih hl.2 hs
    exact this _ dup
  have ex : ∀ s ∈ ys, ∃ k, look s (W.at h).names = some k ∧ (s, k) ∈ (W.at h).names := fun s hs => by
    obtain ⟨q, hq, rfl⟩ := List.mem_map.mp (p.mem_iff.mp hs)
    exact ⟨q.2, lk q.1 q.2 hq, hq⟩
  refine ⟨ex, ?_, fun c => ⟨fun hc => ?_, fun ⟨n, h1, h2⟩ => ?_⟩⟩
  · have hy : (ys.filter fun s => decide ((W.at ((look s (W.at h).names).getD 0)).kind = "room")).Nodup := (p.nodup_iff.mpr dup).filter _
    refine (List.pairwise_map).mpr (List.Pairwise.imp_of_mem (fun {a b} ha hb hne z => ?_) hy)
    obtain ⟨ha1, ha2⟩ := List.mem_filter.mp ha
    obtain ⟨hb1, hb2⟩ := List.mem_filter.mp hb
    obtain ⟨k1, e1, m1⟩ := ex a ha1
    obtain ⟨k2, e2, m2⟩ := ex b hb1
    rw [e1] at ha2
    rw [e1, e2] at z
    have z : k1 = k2 := z
    subst z
    exact hne (t.one h h a b k1 m1 m2 (of_decide_eq_true ha2)).2
  · obtain ⟨s, hs, rfl⟩ := List.mem_map.mp hc
    obtain ⟨hs1, hs2⟩ := List.mem_filter.mp hs
    obtain ⟨k, e, m⟩ := ex s hs1
    rw [e] at hs2 ⊢
    exact ⟨s, m, of_decide_eq_true hs2⟩
  · have e := lk n c h1
    refine List.mem_map.mpr ⟨n, List.mem_filter.mpr ⟨p.mem_iff.mpr (List.mem_map_of_mem (f := (·.1)) h1), ?_⟩, by rw [e]; rfl⟩
    rw [e]
    exact decide_eq_true h2
def lookV (l : List (Str × Nat)) (v : V) : Nat := match v with
  | .str s => (look s l).getD 0
  | _ => 0
theorem lookV_str {l : List (Str × Nat)} {s : Str} {c : Nat} (h : look s l = some c) : lookV l (.str s) = c := by
  show (look s l).getD 0 = c
  rw [h]
  rfl
theorem x_popFirst {l : Addr} {x : V} {xs : List V} {H : Hp} {Q : VK} (h : H l = some (.lst (x :: xs))) (q : ∀ H', H' l = some (.lst xs) → (∀ b, b ≠ l → H' b = H b) → Q x H') : rPopAt (.ref l) [.int 0] H Q :=
  ⟨l, x :: xs, 0, 0, x, rfl, rfl, h, by decide, by decide, by simp [seqIndex?], rfl, q _ upd_same fun b hb => upd_ne hb⟩
theorem x_popLast {l : Addr} {x : V} {xs : List V} {H : Hp} {Q : VK} (h : H l = some (.lst (xs ++ [x]))) (q : ∀ H', H' l = some (.lst xs) → (∀ b, b ≠ l → H' b = H b) → Q x H') : rPop (.ref l) [] H Q := by
  refine ⟨l, _, x, rfl, rfl, h, by simp, ?_⟩
  rw [List.dropLast_concat]
  exact q _ upd_same fun b hb => upd_ne hb
/-- a stand's number, read off the heap -/
def numAt (H : Hp) (v : V) : V := match v with
  | .ref a => match H a with
    | some (.ins _ _ fs) => (fs.lookup ("number" : Str)).getD .non
    | _ => .non
  | _ => .non
theorem numAt_of {K : PySem.W.Frag} {H : Hp} {a : Addr} {z : Std} (h : StandAt K H a z) : numAt H (.ref a) = .int z.number := by
  obtain ⟨dx, hz⟩ := h
  unfold numAt
  simp only [hz]
  rfl
theorem nums_map {K : PySem.W.Frag} {H : Hp} : ∀ {as : List Addr} {ss : List Std}, Paired (StandAt K H) as ss → (as.map V.ref).map (numAt H) = (ss.map (·.number)).map fun n : Nat => V.int (n : Int)
  | _, _, .nil => rfl
  | _, _, .cons h t => by
    rw [List.map_cons, List.map_cons, List.map_cons, List.map_cons, nums_map t, numAt_of h]
theorem in_nats {n : Nat} : ∀ l : List Nat, inV (.int n) (l.map fun n : Nat => V.int (n : Int)) = decide (n ∈ l)
  | [] => rfl
  | a :: l => by
    have ih := in_nats (n := n) l
    unfold inV at ih ⊢
    rw [List.map_cons, List.any_cons, ih]
    have e : eqV (.int (a : Int)) (.int (n : Int)) = decide (a = n) := by
      show ((a : Int) == (n : Int)) = decide (a = n)
      by_cases c : a = n
      · subst c
        simp
      · rw [decide_eq_false c]
        exact beq_eq_false_iff_ne.mpr fun z => c (by omega)
    rw [e]
    by_cases c : a = n
    · subst c
      simp
    · have c' : ¬ n = a := fun z => c z.symm
      simp [c, c']
/-! ### a name that goes to another place -/
def moveF (W : Wd) (vu vo vn : V) : Res (List Std × Str × Nat × List Std × Str) := match moveR W vu vo vn with
  | .err e => .err e
  | .ok (ss, n, k, st, m) => if (W.at k).kind = "room" then if boundB W k = true then .err (.no 11) else if k ∈ st.map (·.number) ∨ (last st).number ∈ roomsOf W k then .err (.no 12) else .ok (ss, n, k, st, m) else .ok (ss, n, k, st, m)
theorem plain12 : (Err.no 12).Plain := (show (12 : Nat) < 13 ∧ (12 : Nat) ≠ 4 ∧ (12 : Nat) ≠ 5 by decide)
theorem moveF_plain {W : Wd} {vu vo vn : V} {e : Err} (h : moveF W vu vo vn = .err e) : e.Plain := by
  unfold moveF at h
  split at h
  · rename_i hx
    cases h
    exact moveR_plain hx
  · split at h
    · split at h
      · cases h
        exact plain11
      · split at h
        · cases h
          exact plain12
        · cases h
    · cases h
theorem place_way {W : Wd} {u : Int} {v : V} {ss : List Std} {n : Str} (h : placeV W u v = .ok ss n) : ∃ ps, wayOf W u true ps = .ok ss none ∧ mayOf W u (last ss).number 3 = true := by
  cases v with
  | str s =>
    unfold placeV at h
    dsimp only at h
    split at h
    · cases h
    · rename_i ps m hs
      refine ⟨ps, ?_⟩
      generalize hw : wayOf W u true ps = R at h
      cases R with
      | stuck => cases h
      | err e => cases h
      | ok ts num =>
        cases num with
        | some k => cases h
        | none =>
          have h : (if mayOf W u (last ts).number 3 = true then PlR.ok ts m else .err (.right u (last ts).number)) = .ok ss n := h
          split at h
          · rename_i hm
            cases h
            exact ⟨rfl, hm⟩
          · cases h
  | _ => cases h
theorem place_len {W : Wd} {u : Int} {v : V} {ss : List Std} {n : Str} (h : placeV W u v = .ok ss n) : ss.length ≤ 201 := by
  obtain ⟨ps, h, _⟩ := place_way h
  exact wayOf_len h
end Tm

/-! loops over a dict's keys, what is read while they are walked, recursion -/
namespace Tm
open PySem PySem.Spec PyProof.Rows L2
/-- while a dict is walked -/
def LockD (D : Ends) (d : Addr) (od : Obj) (u : HO) : Ends := ⟨fun σ' H' => H' d = some (.frz od u) ∧ D.nx σ' (upd H' d u), fun v H' => H' d = some (.frz od u) ∧ D.rt v (upd H' d u), fun σ' H' => H' d = some (.frz od u) ∧ D.bk σ' (upd H' d u), fun σ' H' => H' d = some (.frz od u) ∧ D.ct σ' (upd H' d u)⟩
def KeysK (g : TG) (tb : TS) (D : Ends) (σ : L2.St) (x : V) (H1 : Hp) : Prop := ∃ d o, x = .ref d ∧ ((∃ kvs, H1 d = some (.frz o (.dK kvs)) ∧ ForK (Itk d o kvs) g tb D σ H1) ∨ ∃ kvs, H1 d = some (.frz o (.dT kvs)) ∧ ForK (Itkt d o kvs) g tb D σ H1)
section
variable {σ : L2.St} {H : Hp} {D : Ends} {t tb : TS} {td : TE} {g : TG} {d : Addr} {j : Nat}
theorem x_lock {kvs : List (Key × V)} (hd : H d = some (.dK kvs)) (q : ∀ od H1, H1 d = some (.frz od (.dK kvs)) → (∀ b, b ≠ d → H1 b = H b) → t (LockD D d od (.dK kvs)) σ H1) : tLock t D σ H :=
  ⟨d, .dK kvs, hd, trivial, fun od => q od _ upd_same fun b hb => upd_ne hb⟩
theorem x_forK (q : td σ H fun x H1 => KeysK g tb D σ x H1) : tFor (iKeys td) g tb D σ H := q
/-- over the names of a room -/
theorem x_keysN {od : Obj} {l : List (Str × Nat)} (Pv : Nat → L2.St → Hp → Prop) (h : H d = some (.frz od (.dK (namesV l)))) (h0 : Pv 0 σ H) (hl : ∀ i σ' H', i ≤ l.length → Pv i σ' H' → H' d = some (.frz od (.dK (namesV l))))
    (hs : ∀ i s k σ' H', l[i]? = some (s, k) → Pv i σ' H' → tb { D with nx := Pv (i + 1), ct := Pv (i + 1), bk := D.nx } (σ'.set j (some (.str s))) H') (hd : ∀ σ' H', Pv l.length σ' H' → D.nx σ' H') : KeysK (gName j) tb D σ (.ref d) H := by
  refine ⟨d, od, rfl, .inl ⟨namesV l, h, ?_⟩⟩
  have e : (namesV l).length = l.length := List.length_map ..
  refine for_it (n := (namesV l).length) walk_keys Pv h0 (fun i σ' H' hi p => hl i σ' H' (by omega) p) (fun i x σ' H1 H2 hi p y => ?_) (fun σ' H' p => hd σ' H' (by rw [← e]; exact p))
  obtain ⟨rfl, k, v, hk, rfl⟩ := y
  unfold namesV at hk
  rw [List.getElem?_map] at hk
  cases hx : l[i]? with
  | none => rw [hx] at hk; cases hk
  | some p0 =>
    obtain ⟨s, n⟩ := p0
    rw [hx] at hk
    cases hk
    exact hs i s n σ' _ hx p
end
/-! ### the own world, read while a dict is walked -/
abbrev RdUp (H H' : Hp) : Prop := ∀ a u, Rd H a u → Rd H' a u
theorem Ex.rd {H H' : Hp} (e : Ex H H') : RdUp H H' := fun a u h => by
  rcases h with h | ⟨o, h⟩
  · exact .inl (e _ _ h)
  · exact .inr ⟨o, e _ _ h⟩
theorem lock_rd {H H1 : Hp} {d : Addr} {od : Obj} {u : HO} (hd : H d = some u) (hu : ∀ o v, u ≠ .frz o v) (h1 : H1 d = some (.frz od u)) (off : ∀ b, b ≠ d → H1 b = H b) : RdUp H H1 := fun a v h => by
  by_cases e : a = d
  · subst e
    rcases h with h | ⟨o, h⟩
    · rw [hd] at h
      cases h
      exact .inr ⟨od, h1⟩
    · rw [hd] at h
      cases h
      exact (hu _ _ rfl).elim
  · rcases h with h | ⟨o, h⟩
    · exact .inl (by rw [off a e]; exact h)
    · exact .inr ⟨o, by rw [off a e]; exact h⟩
structure OwnR (H : Hp) (o : Addr) (L : Lay) (W : Wd) : Prop where
  obj : Rd H o (.lst [.ref L.g, .ref L.nd, .ref L.ov])
  grp : Rd H L.g (.lst (W.groups.map V.int))
  nds : Rd H L.nd (.lst (L.as.map V.ref))
  ovr : Rd H L.ov (.dK (overV W.over))
  la : L.as.length = W.nodes.length
  ln : L.ns.length = W.nodes.length
  nod : ∀ i, i < W.nodes.length → ∃ rt, Rd H (L.as.getD i 0) (.lst (ownF (W.at i) (L.ns.getD i 0) rt)) ∧ Rd H rt (.tup (rtsV (W.at i)))
  nam : ∀ i, i < W.nodes.length → Rd H (L.ns.getD i 0) (.dK (namesV (W.at i).names))
  dN : L.ns.Nodup
theorem OwnAt.rd {H : Hp} {o : Addr} {L : Lay} {W : Wd} (h : OwnAt H o L W) : OwnR H o L W :=
  ⟨.inl h.obj, .inl h.grp, .inl h.nds, .inl h.ovr, h.la, h.ln, fun i hi => by
    obtain ⟨rt, h1, h2⟩ := (h.nod i hi).ex
    exact ⟨rt, .inl h1, .inl h2⟩, fun i hi => .inl (h.nod i hi).nam, h.dN⟩
section
variable {H H' : Hp} {o : Addr} {L : Lay} {W : Wd} {K : PySem.W.Frag} {Q : VK}
theorem OwnR.up (h : OwnR H o L W) (r : RdUp H H') : OwnR H' o L W :=
  ⟨r _ _ h.obj, r _ _ h.grp, r _ _ h.nds, r _ _ h.ovr, h.la, h.ln, fun i hi => by
    obtain ⟨rt, h1, h2⟩ := h.nod i hi
    exact ⟨rt, r _ _ h1, r _ _ h2⟩, fun i hi => r _ _ (h.nam i hi), h.dN⟩
theorem OwnR.r0 (h : OwnR H o L W) (q : Q (.ref L.g) H) : rIxL K (.ref o) (.int 0) H Q := x_ixL (.inl h.obj) (by rfl) q
theorem OwnR.r1 (h : OwnR H o L W) (q : Q (.ref L.nd) H) : rIxL K (.ref o) (.int 1) H Q := x_ixL (.inl h.obj) (by rfl) q
theorem OwnR.r2 (h : OwnR H o L W) (q : Q (.ref L.ov) H) : rIxL K (.ref o) (.int 2) H Q := x_ixL (.inl h.obj) (by rfl) q
theorem OwnR.node (h : OwnR H o L W) {n : Nat} (hn : n < W.nodes.length) (q : Q (.ref (L.as.getD n 0)) H) : rIxL K (.ref L.nd) (.int n) H Q := x_ixL (.inl h.nds) (atI_refs (by rw [h.la]; exact hn)) q
theorem OwnR.f0 (h : OwnR H o L W) {n : Nat} (hn : n < W.nodes.length) (q : Q (.str (W.at n).kind) H) : rIxL K (.ref (L.as.getD n 0)) (.int 0) H Q := by
  obtain ⟨rt, h1, _⟩ := h.nod n hn
  exact x_ixL (.inl h1) (by rfl) q
theorem OwnR.f1 (h : OwnR H o L W) {n : Nat} (hn : n < W.nodes.length) (q : Q (.int (W.at n).owner) H) : rIxL K (.ref (L.as.getD n 0)) (.int 1) H Q := by
  obtain ⟨rt, h1, _⟩ := h.nod n hn
  exact x_ixL (.inl h1) (by rfl) q
theorem OwnR.f2 (h : OwnR H o L W) {n : Nat} (hn : n < W.nodes.length) (q : Q (.int (W.at n).group) H) : rIxL K (.ref (L.as.getD n 0)) (.int 2) H Q := by
  obtain ⟨rt, h1, _⟩ := h.nod n hn
  exact x_ixL (.inl h1) (by rfl) q
theorem OwnR.f3 (h : OwnR H o L W) {n : Nat} (hn : n < W.nodes.length) (q : ∀ rt, Rd H rt (.tup (rtsV (W.at n))) → Q (.ref rt) H) : rIxL K (.ref (L.as.getD n 0)) (.int 3) H Q := by
  obtain ⟨rt, h1, h2⟩ := h.nod n hn
  exact x_ixL (.inl h1) (by rfl) (q rt h2)
theorem OwnR.f4 (h : OwnR H o L W) {n : Nat} (hn : n < W.nodes.length) (q : Q (.ref (L.ns.getD n 0)) H) : rIxL K (.ref (L.as.getD n 0)) (.int 4) H Q := by
  obtain ⟨rt, h1, _⟩ := h.nod n hn
  exact x_ixL (.inl h1) (by rfl) q
theorem OwnR.f5 (h : OwnR H o L W) {n : Nat} (hn : n < W.nodes.length) (q : Q (.str (W.at n).text) H) : rIxL K (.ref (L.as.getD n 0)) (.int 5) H Q := by
  obtain ⟨rt, h1, _⟩ := h.nod n hn
  exact x_ixL (.inl h1) (by rfl) q
theorem x_dgetR {a : Addr} {kvs : List (Key × V)} {k : Str} {v : V} (h : Rd H a (.dK kvs)) (l : valV kvs (.inr k) = some v) (q : Q v H) : DGetK (.ref a) (.str k) H Q := ⟨a, v, rfl, .inl ⟨kvs, .inr k, h, rfl, l.symm⟩, q⟩
theorem OwnR.get (h : OwnR H o L W) {n k : Nat} {s : Str} (hn : n < W.nodes.length) (l : look s (W.at n).names = some k) (q : Q (.int k) H) : DGetK (.ref (L.ns.getD n 0)) (.str s) H Q := x_dgetR (h.nam n hn) (by rw [valV_names, l]; rfl) q
end
/-! ### how deep it goes -/
def Hgt (W : Wd) : Nat → Nat → Prop
  | 0, x => ∀ c, ¬ Kid W x c
  | n + 1, x => ∀ c, Kid W x c → Hgt W n c
theorem hgt_of {W : Wd} (ok : W.Ok) {rank : Nat → Nat} (hr : ∀ r c, Kid W r c → rank r < rank c) (hb : ∀ x, x < W.nodes.length → rank x < W.nodes.length) : ∀ (n x : Nat), W.nodes.length ≤ n + rank x + 1 → Hgt W n x
  | 0, x, h => fun c k => by
    have := hr _ _ k
    have := hb _ (k.lt2 ok)
    omega
  | n + 1, x, h => fun c k => hgt_of ok hr hb n c (by have := hr _ _ k; omega)
theorem Tree.hgt {W : Wd} (ok : W.Ok) (t : Tree W) {n : Nat} (x : Nat) (h : W.nodes.length ≤ n) : Hgt W n x := by
  obtain ⟨rank, h1, h2⟩ := t.bnd ok
  exact hgt_of ok h1 h2 n x (by omega)
theorem sub_same {W : Wd} : ∀ (n m x : Nat), Hgt W n x → n ≤ m → subGo W m x = subGo W n x
  | 0, 0, x, _, _ => rfl
  | 0, m + 1, x, h, _ => by
    unfold subGo
    congr 1
    refine List.flatMap_eq_nil_iff.mpr fun p hp => ?_
    rw [if_neg fun z => h p.2 ⟨p.1, hp, z⟩]
  | n + 1, 0, x, h, hm => absurd hm (by omega)
  | n + 1, m + 1, x, h, hm => by
    unfold subGo
    congr 1
    have : ∀ l : List (Str × Nat), (∀ p ∈ l, p ∈ (W.at x).names) → (l.flatMap fun p => if (W.at p.2).kind = "room" then subGo W m p.2 else []) = l.flatMap fun p => if (W.at p.2).kind = "room" then subGo W n p.2 else [] := by
      intro l hl
      induction l with
      | nil => rfl
      | cons p l ih =>
        rw [List.flatMap_cons, List.flatMap_cons, ih fun q hq => hl q (List.mem_cons_of_mem _ hq)]
        congr 1
        by_cases c : (W.at p.2).kind = "room"
        · rw [if_pos c, if_pos c]
          exact sub_same n m p.2 (h p.2 ⟨p.1, hl p (List.mem_cons_self ..), c⟩) (by omega)
        · rw [if_neg c, if_neg c]
    exact this _ fun _ h => h
theorem rooms_sub {W : Wd} (ok : W.Ok) (t : Tree W) {n x : Nat} (h : W.nodes.length ≤ n) : subGo W n x = roomsOf W x := sub_same _ _ x (t.hgt ok x (Nat.le_refl _)) h
theorem sub_len {W : Wd} (ok : W.Ok) (t : Tree W) {n x : Nat} (hx : x < W.nodes.length) : (subGo W n x).length ≤ W.nodes.length := nodup_len _ _ (sub_nodup ok t n x) fun y hy => (sub_below _ _ hy).lt ok hx
/-- what a def that calls itself may lean on -/
def prevSp (s : Nat → Sp) : Nat → Sp
  | 0 => fun _ _ _ _ => False
  | n + 1 => s n
theorem nodup_val {α β : Type} [DecidableEq α] {a : α} {b c : β} : ∀ {l : List (α × β)}, (l.map (·.1)).Nodup → (a, b) ∈ l → (a, c) ∈ l → b = c
  | [], _, h, _ => nomatch h
  | p :: l, hd, h1, h2 => by
    rw [List.map_cons, List.nodup_cons] at hd
    rcases List.mem_cons.mp h1 with e1 | h1
    · rcases List.mem_cons.mp h2 with e2 | h2
      · rw [← e1] at e2
        injection e2 with _ e2
        exact e2.symm
      · exact (hd.1 (by rw [← e1]; exact List.mem_map_of_mem (f := (·.1)) h2)).elim
    · rcases List.mem_cons.mp h2 with e2 | h2
      · exact (hd.1 (by rw [← e2]; exact List.mem_map_of_mem (f := (·.1)) h1)).elim
      · exact nodup_val hd.2 h1 h2
theorem look_of_mem {W : Wd} (ok : W.Ok) {x k : Nat} {s : Str} (hm : (s, k) ∈ (W.at x).names) : look s (W.at x).names = some k := by
  have hx := name_lt hm
  have dup := (ok.at hx).dup
  cases h : look s (W.at x).names with
  | none => exact (look_none h (List.mem_map_of_mem (f := (·.1)) hm)).elim
  | some k' => rw [nodup_val dup (look_mem h) hm]
/-- a comprehension over a dict's keys: all that could be read is read -/
theorem x_lcKR {td : TE} {tt : TT} {tel : TE} {j : Nat} {vs : List Nat} {σ : L2.St} {H : Hp} {Q : VK} {d : Addr} {kvs : List (Key × V)} (hv : ∀ H' (R : VK), RdUp H H' → R (.ref d) H' → td σ H' R) (hd : H d = some (.dK kvs)) (hw : ∀ x, wipe ((wipe σ vs).set j (some x)) vs = wipe σ vs) (hz : kvs.length ≤ 100000) (p : V → Bool) (f : V → V)
    (ht : ∀ x ∈ kvs.map (fun kv => kV kv.1), ∀ H', RdUp H H' → ∀ R : Bool → Hp → Prop, (∀ H2, Ex H' H2 → R (p x) H2) → tt ((wipe σ vs).set j (some x)) H' R)
    (he : ∀ x ∈ kvs.map (fun kv => kV kv.1), p x = true → ∀ H', RdUp H H' → ∀ R : VK, (∀ H2, Ex H' H2 → R (f x) H2) → tel ((wipe σ vs).set j (some x)) H' R)
    (q : ∀ D H', H D = none → Ex H H' → H' D = some (.lst (((kvs.map fun kv => kV kv.1).filter p).map f)) → Q (.ref D) H') : tLockE (tLc (iKeys td) (gName j) tt tel vs) σ H Q := by
  refine ⟨d, .dK kvs, hd, trivial, fun od => ?_⟩
  have hf : upd H d (.frz od (.dK kvs)) d = some (.frz od (.dK kvs)) := upd_same
  have r0 : RdUp H (upd H d (.frz od (.dK kvs))) := lock_rd hd (fun _ _ z => nomatch z) hf fun b hb => upd_ne hb
  refine hv _ _ r0 ⟨d, od, rfl, .inl ⟨kvs, hf, ?_⟩⟩
  have hl : (kvs.map fun kv => kV kv.1).length = kvs.length := List.length_map ..
  have tr : ∀ {H'}, Ex (upd H d (.frz od (.dK kvs))) H' → RdUp H H' := fun {H'} e a u h => e.rd a u (r0 a u h)
  refine lc_cmp (J := Itk d od kvs) (Q := fun v H' => H' d = some (.frz od (.dK kvs)) ∧ Q v (upd H' d (.dK kvs))) (G := fun H' => H' d = some (.frz od (.dK kvs))) (xs := kvs.map fun kv => kV kv.1) ?_ (fun H' e => e _ _ hf) ⟨hw, by rw [hl]; exact hz, p, f, fun x hx H' e R k => ht x hx H' (tr e) R k, fun x hx hp H' e R k => he x hx hp H' (tr e) R k, fun D H' hD e hD' => ?_⟩
  · rw [hl]
    refine walk_keys.mono (fun _ h => h) fun i H x H' _ _ h => ⟨h.1, ?_⟩
    obtain ⟨_, k, v, h1, rfl⟩ := h
    rw [List.getElem?_map, h1]
    rfl
  · have nD : D ≠ d := fun z => by rw [z, hf] at hD; cases hD
    refine ⟨e _ _ hf, q D _ (by rw [upd_ne nD] at hD; exact hD) (fun b o hb => ?_) (by rw [upd_ne nD]; exact hD')⟩
    by_cases hbd : b = d
    · subst hbd
      rw [hd] at hb
      cases hb
      exact upd_same
    · rw [upd_ne hbd]
      exact e _ _ (by rw [upd_ne hbd]; exact hb)
/-! ### names linked, taken away, moved: the world behind -/
def movesR (W : Wd) (word : Str) (u : Int) (one other : Str) : Res Wd :=
  if word = "link" then match linkR W (.int u) (.str one) (.str other) with
    | .err e => .err e
    | .ok (k, st, m) => .ok (linkW W (last st).number m k)
  else if word = "remove" then rmR W u one
  else match moveF W (.int u) (.str one) (.str other) with
    | .err e => .err e
    | .ok (ss, n, k, st, m) => .ok (moveW W (last ss).number n k (last st).number m)
theorem movesR_plain {W : Wd} {word : Str} {u : Int} {one other : Str} {e : Err} (h : movesR W word u one other = .err e) : e.Plain := by
  unfold movesR at h
  split at h
  · split at h
    · rename_i hx
      cases h
      exact linkR_plain hx
    · cases h
  · split at h
    · exact rmR_plain h
    · split at h
      · rename_i hx
        cases h
        exact moveF_plain hx
      · cases h
theorem wayV_path {W : Wd} {u : Int} {f : Bool} {ps : List Str} (hg : goodParts ps = true) : wayV W u f (.str (pathOf ps)) = ofWay (wayOf W u f ps) := by
  have hp := parts_path true hg
  obtain ⟨h1, h2⟩ := wayV_str (W := W) (u := u) (follow := f) hp
  have ne := wayOf_ne (W := W) (u := u) (f := f) hg
  cases hw : wayOf W u f ps with
  | stuck => exact (ne hw).elim
  | err e => rw [h1 e hw]; rfl
  | ok ss num => rw [h2 ss num hw]; rfl
theorem moves_link {W : Wd} {u : Int} {ps : List Str} {other : Str} (u0 : 0 ≤ u) (u1 : u < W.groups.length) (hg : goodParts ps = true) : movesR W "link" u (pathOf ps) other = match wayOf W u false ps with
    | .err e => .err e
    | .stuck => .err (.no 0)
    | .ok ss num => if (W.at (endNum ss num)).kind = "room" then .err (.no 7) else match freeV W u (.str other) with
      | .err e => .err e
      | .ok st m => .ok (linkW W (last st).number m (endNum ss num)) := by
  unfold movesR linkR
  rw [if_pos rfl, if_neg (by rw [userB_of u0 u1]; decide)]
  show (match (match wayV W u false (.str (pathOf ps)) with
    | .err e => .err e
    | .ok (ss, num) => if (W.at (endNum ss num)).kind = "room" then .err (.no 7) else match freeV W u (.str other) with
      | .err e => .err e
      | .ok st n => .ok (endNum ss num, st, n) : Res (Nat × List Std × Str)) with
    | .err e => .err e
    | .ok (k, st, m) => _ : Res Wd) = _
  rw [wayV_path hg]
  cases wayOf W u false ps with
  | stuck => rfl
  | err e => rfl
  | ok ss num =>
    show (match (if (W.at (endNum ss num)).kind = "room" then .err (.no 7) else match freeV W u (.str other) with
      | .err e => .err e
      | .ok st n => .ok (endNum ss num, st, n) : Res (Nat × List Std × Str)) with
    | .err e => .err e
    | .ok (k, st, m) => _ : Res Wd) = _
    dsimp only
    by_cases c : (W.at (endNum ss num)).kind = "room"
    · rw [if_pos c, if_pos c]
    · rw [if_neg c, if_neg c]
      cases freeV W u (.str other) <;> rfl
theorem moves_remove {W : Wd} {u : Int} {one other : Str} (u0 : 0 ≤ u) (u1 : u < W.groups.length) : movesR W "remove" u one other = match namedR W u (.str one) with
    | .err e => .err e
    | .ok (ss, n, k) => if (W.at k).kind = "room" ∧ ((W.at k).names ≠ [] ∨ boundB W k = true) then .err (.no 11) else .ok (removeW W (last ss).number n k) := by
  unfold movesR
  rw [if_neg (by decide +kernel), if_pos rfl]
  unfold rmR removeR
  rw [if_neg (by rw [userB_of u0 u1]; decide)]
  show (match (match namedR W u (.str one) with
    | .err e => .err e
    | .ok (ss, n, k) => _ : Res (List Std × Str × Nat)) with
    | .err e => .err e
    | .ok (ss, n, k) => _ : Res Wd) = _
  cases namedR W u (.str one) with
  | err e => rfl
  | ok p =>
    obtain ⟨ss, n, k⟩ := p
    dsimp only
    by_cases c : (W.at k).kind = "room" ∧ ((W.at k).names ≠ [] ∨ boundB W k = true)
    · rw [if_pos c, if_pos c]
    · rw [if_neg c, if_neg c]
theorem moves_move {W : Wd} {u : Int} {one other : Str} (u0 : 0 ≤ u) (u1 : u < W.groups.length) : movesR W "move" u one other = match namedR W u (.str one) with
    | .err e => .err e
    | .ok (ss, n, k) => match freeV W u (.str other) with
      | .err e => .err e
      | .ok st m => if (W.at k).kind = "room" then if boundB W k = true then .err (.no 11) else if k ∈ st.map (·.number) ∨ (last st).number ∈ roomsOf W k then .err (.no 12) else .ok (moveW W (last ss).number n k (last st).number m) else .ok (moveW W (last ss).number n k (last st).number m) := by
  unfold movesR
  rw [if_neg (by decide +kernel), if_neg (by decide +kernel)]
  unfold moveF moveR
  rw [if_neg (by rw [userB_of u0 u1]; decide)]
  show (match (match (match namedR W u (.str one) with
    | .err e => .err e
    | .ok (ss, n, k) => match freeV W u (.str other) with
      | .err e => .err e
      | .ok st m => .ok (ss, n, k, st, m) : Res (List Std × Str × Nat × List Std × Str)) with
    | .err e => .err e
    | .ok (ss, n, k, st, m) => _ : Res (List Std × Str × Nat × List Std × Str)) with
    | .err e => .err e
    | .ok (ss, n, k, st, m) => _ : Res Wd) = _
  cases namedR W u (.str one) with
  | err e => rfl
  | ok p =>
    obtain ⟨ss, n, k⟩ := p
    dsimp only
    cases freeV W u (.str other) with
    | err e => rfl
    | ok st m =>
      dsimp only
      by_cases c1 : (W.at k).kind = "room"
      · rw [if_pos c1, if_pos c1]
        by_cases c2 : boundB W k = true
        · rw [if_pos c2, if_pos c2]
        · rw [if_neg c2, if_neg c2]
          by_cases c3 : k ∈ st.map (·.number) ∨ (last st).number ∈ roomsOf W k
          · rw [if_pos c3, if_pos c3]
          · rw [if_neg c3, if_neg c3]
      · rw [if_neg c1, if_neg c1]
theorem dropN_snoc {n m : Str} {k : Nat} {l : List (Str × Nat)} (h : m ≠ n) : dropN n (l ++ [(m, k)]) = dropN n l ++ [(m, k)] := by
  unfold dropN
  rw [List.filter_append]
  congr 1
  rw [List.filter_cons, if_pos (decide_eq_true h)]
  rfl
theorem move_comm {W : Wd} {r r2 k : Nat} {n m : Str} (hr : r < W.nodes.length) (hr2 : r2 < W.nodes.length) (h : r = r2 → m ≠ n) : dropW (nameW W r2 m k) r n = moveW W r n k r2 m := by
  unfold moveW
  by_cases e : r = r2
  · subst e
    have a1 : (nameW W r m k).at r = (W.at r).name m k := by rw [name_at hr, if_pos rfl]
    have a2 : (dropW W r n).at r = { W.at r with names := dropN n (W.at r).names } := by rw [drop_at hr, if_pos rfl]
    unfold dropW at a2 ⊢
    unfold nameW at a1 ⊢
    rw [a1, a2]
    unfold Wd.put Nd.name
    dsimp only
    rw [List.set_set, List.set_set, dropN_snoc (h rfl)]
  · have a1 : (nameW W r2 m k).at r = W.at r := by rw [name_at hr2, if_neg e]
    have a2 : (dropW W r n).at r2 = W.at r2 := by rw [drop_at hr, if_neg fun z => e z.symm]
    unfold dropW at a2 ⊢
    unfold nameW at a1 ⊢
    rw [a1, a2]
    unfold Wd.put
    dsimp only
    rw [List.set_comm _ _ (fun z => e z.symm)]
theorem OwnAt.cnt {H : Hp} {o : Addr} {L : Lay} {W : Wd} {k : Nat} {i : Int} (h : OwnAt H o L W) : OwnAt H o L (cntW W k i) := by
  have len : (cntW W k i).nodes.length = W.nodes.length := Wd.len_put
  refine ⟨h.obj, h.grp, h.nds, h.ovr, by rw [len]; exact h.la, by rw [len]; exact h.ln, fun j hj => ?_, h.dis⟩
  rw [len] at hj
  have n := h.nod j hj
  by_cases hk : k < W.nodes.length
  · unfold cntW
    rw [Wd.at_put hk]
    split
    · rename_i e
      subst e
      obtain ⟨rt, h1, h2⟩ := n.ex
      exact ⟨⟨rt, h1, h2⟩, n.nam⟩
    · exact n
  · have : cntW W k i = W := by
      unfold cntW Wd.put
      rw [List.set_eq_of_length_le (by omega)]
    rw [this]
    exact n
theorem StandsT.nums {H : Hp} {p : Addr} {ss : List Std} (h : StandsT H p ss) : ∃ as : List Addr, H p = some (.lst (as.map V.ref)) ∧ as.length = ss.length ∧ (as.map V.ref).map (tupAt H · 0) = (ss.map (·.number)).map (fun n : Nat => V.int (n : Int)) ∧ ∀ a ∈ as, ∃ s : Std, H a = some (.tup [.int s.number, .str s.name, nV s.under]) := by
  obtain ⟨as, h1, h2⟩ := h
  refine ⟨as, h1, h2.length, ?_, fun a ha => ?_⟩
  · clear h1
    induction h2 with
    | nil => rfl
    | cons h t ih =>
      rw [List.map_cons, List.map_cons, List.map_cons, List.map_cons, ih]
      congr 1
      exact tupAt_of h
  · obtain ⟨s, _, hs⟩ := paired_mem h2 a ha
    exact ⟨s, hs⟩
theorem look_snoc {α β : Type} [DecidableEq α] {a : α} {b : β} {p : α × β} : ∀ {l : List (α × β)}, look a l = some b → look a (l ++ [p]) = some b
  | [], h => nomatch h
  | q :: l, h => by
    obtain ⟨c, d⟩ := q
    rw [List.cons_append]
    unfold look at h ⊢
    split
    · rename_i e
      rw [if_pos e] at h
      exact h
    · rename_i e
      rw [if_neg e] at h
      exact look_snoc h
end Tm

/-! rooms hung over others -/
namespace Tm
open PySem PySem.Spec PyProof.Rows L2
def stepsGo (ov : List (Nat × Nat)) : Nat → Nat → Nat
  | 0, _ => 0
  | m + 1, n => match look n ov with
    | none => 0
    | some k => stepsGo ov m k + 1
theorem steps_same {ov : List (Nat × Nat)} : ∀ (m n : Nat) (u : Option Nat), look (overGo ov m n u).1 ov = none → stepsGo ov (m + 1) n = stepsGo ov m n
  | 0, n, u, h => by
    have h : look n ov = none := h
    unfold stepsGo
    rw [h]
  | m + 1, n, u, h => by
    cases hk : look n ov with
    | none =>
      unfold stepsGo
      rw [hk]
    | some k =>
      have e : overGo ov (m + 1) n u = overGo ov m k (some n) := by
        rw [overGo, hk]
      rw [e] at h
      have ih := steps_same m k (some n) h
      rw [stepsGo, hk]
      show stepsGo ov (m + 1) k + 1 = stepsGo ov (m + 1) n
      rw [ih]
      conv => rhs; rw [stepsGo, hk]
/-- a number that falls -/
theorem over_rank {ov : List (Nat × Nat)} (h : ∀ n, look (overGo ov ov.length n none).1 ov = none) : ∃ s : Nat → Nat, ∀ x y, look x ov = some y → s y < s x := by
  have hu : ∀ (m n : Nat) (u v : Option Nat), (overGo ov m n u).1 = (overGo ov m n v).1 := by
    intro m
    induction m with
    | zero => intro n u v; rfl
    | succ m ih =>
      intro n u v
      unfold overGo
      split
      · rfl
      · exact ih _ _ _
  refine ⟨stepsGo ov ov.length, fun x y hx => ?_⟩
  cases hl : ov.length with
  | zero =>
    have := List.length_eq_zero_iff.mp hl
    rw [this] at hx
    cases hx
  | succ m =>
    have hy := h x
    rw [hl, overGo, hx] at hy
    have := steps_same m y (some x) hy
    rw [this]
    conv => rhs; rw [stepsGo, hx]
    show stepsGo ov m y < stepsGo ov m y + 1
    omega
theorem look_key {α β : Type} [DecidableEq α] {k : α} {l : List (α × β)} (h : k ∈ l.map (·.1)) : ∃ v, look k l = some v := by
  cases e : look k l with
  | none => exact (look_none e h).elim
  | some v => exact ⟨v, rfl⟩
theorem over_end {ov : List (Nat × Nat)} {s : Nat → Nat} (h : ∀ x y, look x ov = some y → s y < s x) : ∀ n, look (overGo ov ov.length n none).1 ov = none := by
  have key : ∀ (m n : Nat) (u : Option Nat), ((ov.map (·.1)).filter fun z => decide (s z ≤ s n)).length ≤ m → look (overGo ov m n u).1 ov = none := by
    intro m
    induction m with
    | zero =>
      intro n u hc
      show look n ov = none
      cases e : look n ov with
      | none => rfl
      | some k =>
        have : n ∈ (ov.map (·.1)).filter fun z => decide (s z ≤ s n) := List.mem_filter.mpr ⟨List.mem_map_of_mem (f := (·.1)) (look_mem e), by simp⟩
        have := List.length_pos_of_mem this
        omega
    | succ m ih =>
      intro n u hc
      cases e : look n ov with
      | none =>
        rw [overGo, e]
        exact e
      | some k =>
        rw [overGo, e]
        refine ih k _ ?_
        have lt : ∀ l : List Nat, n ∈ l → (l.filter fun z => decide (s z ≤ s k)).length < (l.filter fun z => decide (s z ≤ s n)).length := by
          have le : ∀ l : List Nat, (l.filter fun z => decide (s z ≤ s k)).length ≤ (l.filter fun z => decide (s z ≤ s n)).length := by
            intro l
            have hs := h n k e
            induction l with
            | nil => exact Nat.le_refl _
            | cons a l ih =>
              rw [List.filter_cons, List.filter_cons]
              by_cases c : s a ≤ s k
              · rw [if_pos (decide_eq_true c), if_pos (decide_eq_true (by omega)), List.length_cons, List.length_cons]
                omega
              · rw [if_neg (by simpa using c)]
                split
                · rw [List.length_cons]
                  omega
                · exact ih
          intro l hn
          have hs := h n k e
          induction l with
          | nil => cases hn
          | cons a l ih =>
            rw [List.filter_cons, List.filter_cons]
            rcases List.mem_cons.mp hn with rfl | hn
            · rw [if_neg (by simp; omega), if_pos (by simp), List.length_cons]
              have := le l
              omega
            · have := ih hn
              by_cases c : s a ≤ s k
              · rw [if_pos (decide_eq_true c), if_pos (decide_eq_true (by omega)), List.length_cons, List.length_cons]
                omega
              · rw [if_neg (by simpa using c)]
                split
                · rw [List.length_cons]
                  omega
                · exact this
        have := lt (ov.map (·.1)) (List.mem_map_of_mem (f := (·.1)) (look_mem e))
        omega
  intro n
  refine key _ n none ?_
  refine Nat.le_trans (List.length_filter_le _ _) ?_
  rw [List.length_map]
  exact Nat.le_refl _
/-! ### hung, taken down -/
def hangW (W : Wd) (a b : Nat) : Wd := { W with over := W.over ++ [(b, a)] }
def dropO (u : Nat) (l : List (Nat × Nat)) : List (Nat × Nat) := l.filter fun p => decide (p.1 ≠ u)
def downW (W : Wd) (u : Nat) : Wd := { W with over := dropO u W.over }
theorem look_cons {α β : Type} [DecidableEq α] {k a : α} {b : β} {l : List (α × β)} : look k ((a, b) :: l) = if a = k then some b else look k l := rfl
theorem look_app {α β : Type} [DecidableEq α] {k : α} {m : List (α × β)} : ∀ {l : List (α × β)}, look k (l ++ m) = match look k l with | some v => some v | none => look k m
  | [] => rfl
  | (a, b) :: l => by
    rw [List.cons_append, look_cons, look_cons]
    by_cases c : a = k
    · rw [if_pos c, if_pos c]
    · rw [if_neg c, if_neg c]
      exact look_app (l := l)
theorem hang_ok {W : Wd} (ok : W.Ok) {a b : Nat} (ha : a < W.nodes.length) (hb : b < W.nodes.length) (ka : (W.at a).kind = "room") (kb : (W.at b).kind = "room") (na : look a W.over = none) (nb : look b W.over = none) (ne : a ≠ b) : (hangW W a b).Ok := by
  obtain ⟨s, hs⟩ := over_rank ok.end_
  refine ⟨ok.grp, ok.one, ok.top, fun d hd => ⟨(ok.nod d hd).nam, (ok.nod d hd).dup, (ok.nod d hd).hnt, (ok.nod d hd).txt, (ok.nod d hd).rts, (ok.nod d hd).knd, (ok.nod d hd).lf⟩, fun p hp => ?_, ?_, ?_⟩
  · rcases List.mem_append.mp hp with hp | hp
    · exact ok.ovr p hp
    · rw [List.mem_singleton.mp hp]
      exact ⟨hb, ha, kb, ka⟩
  · show ((W.over ++ [(b, a)]).map (·.1)).Nodup
    rw [List.map_append]
    refine List.nodup_append.mpr ⟨ok.odup, by simp, fun x hx y hy z => ?_⟩
    have : y = b := by simpa using hy
    rw [z, this] at hx
    exact look_none nb hx
  · refine over_end (s := fun x => if x = a then 0 else s x + 1) fun x y h => ?_
    have h : look x (W.over ++ [(b, a)]) = some y := h
    rw [look_app] at h
    show (if y = a then 0 else s y + 1) < (if x = a then 0 else s x + 1)
    cases e : look x W.over with
    | some v =>
      rw [e] at h
      have h : v = y := Option.some.inj h
      subst h
      have xa : x ≠ a := fun z => by rw [z, na] at e; cases e
      rw [if_neg xa]
      split
      · omega
      · have := hs x v e
        omega
    | none =>
      rw [e] at h
      have h : look x [(b, a)] = some y := h
      unfold look at h
      split at h
      · rename_i eb
        have h : a = y := Option.some.inj h
        subst h
        rw [if_pos rfl, if_neg fun z => ne (by rw [← z, ← eb])]
        omega
      · cases h
theorem look_dropO {u x y : Nat} : ∀ {l : List (Nat × Nat)}, look x (dropO u l) = some y → look x l = some y
  | [], h => nomatch h
  | (a, b) :: l, h => by
    unfold dropO at h
    rw [List.filter_cons] at h
    split at h
    · unfold look at h ⊢
      split at h
      · rename_i e
        rw [if_pos e]
        exact h
      · rename_i e
        rw [if_neg e]
        exact look_dropO (u := u) h
    · rename_i hn
      have hn : a = u := by
        have := of_decide_eq_false (Bool.eq_false_iff.mpr hn)
        exact Classical.not_not.mp this
      have h : look x (dropO u l) = some y := h
      have hx : a ≠ x := fun z => by
        have h2 := look_mem h
        have h3 := (List.mem_filter.mp h2).2
        exact of_decide_eq_true h3 (by rw [← z]; exact hn)
      unfold look
      rw [if_neg hx]
      exact look_dropO h
theorem down_ok {W : Wd} (ok : W.Ok) {u : Nat} : (downW W u).Ok := by
  obtain ⟨s, hs⟩ := over_rank ok.end_
  refine ⟨ok.grp, ok.one, ok.top, fun d hd => ⟨(ok.nod d hd).nam, (ok.nod d hd).dup, (ok.nod d hd).hnt, (ok.nod d hd).txt, (ok.nod d hd).rts, (ok.nod d hd).knd, (ok.nod d hd).lf⟩, fun p hp => ok.ovr p (List.mem_filter.mp hp).1, ?_, over_end (s := s) fun x y h => hs x y (look_dropO h)⟩
  exact ok.odup.sublist ((List.filter_sublist).map _)
theorem dropK_over (u : Nat) (l : List (Nat × Nat)) : dropK (overV l) (.inl (u : Int)) = overV (dropO u l) := by
  unfold dropK overV dropO
  rw [List.filter_map]
  congr 1
  refine List.filter_congr fun p _ => ?_
  show decide ((Sum.inl (p.1 : Int) : Key) ≠ Sum.inl (u : Int)) = decide (p.1 ≠ u)
  exact decide_eq_decide.mpr ⟨fun z y => z (by rw [y]), fun z y => z (by have := Sum.inl.inj y; omega)⟩
theorem putK_over {W : Wd} {a b : Nat} (nb : look b W.over = none) : putK (overV W.over) (.inl (b : Int)) (.int (a : Int)) = overV (hangW W a b).over := by
  rw [putK_new (by rw [valV_over, nb]; rfl)]
  show _ = overV (W.over ++ [(b, a)])
  unfold overV
  rw [List.map_append]
  rfl
theorem overGo_under {ov : List (Nat × Nat)} : ∀ (m n : Nat) (u : Option Nat) {v : Nat}, (overGo ov m n u).2 = some v → u = some v ∨ ∃ k, look v ov = some k
  | 0, n, u, v, h => .inl h
  | m + 1, n, u, v, h => by
    rw [overGo] at h
    cases e : look n ov with
    | none =>
      rw [e] at h
      exact .inl h
    | some k =>
      rw [e] at h
      rcases overGo_under m k (some n) h with h | h
      · have h : n = v := Option.some.inj h
        subst h
        exact .inr ⟨k, e⟩
      · exact .inr h
/-- where one stands nothing hangs; what is under it is hung over -/
theorem stand_end {W : Wd} (ok : W.Ok) (n : Nat) (s : Str) : look (standOf W n s).number W.over = none := ok.end_ n
theorem stand_under {W : Wd} {n v : Nat} {s : Str} (h : (standOf W n s).under = some v) : ∃ k, look v W.over = some k := by
  rcases overGo_under _ _ _ h with h | h
  · cases h
  · exact h
/-- the top is not hung over -/
def TopFree (W : Wd) : Prop := look 0 W.over = none
theorem Chain.last_cases {W : Wd} {ss : List Std} (h : Chain W ss) : (ss = [std0]) ∨ ∃ k n, last ss = standOf W k n ∧ (W.at k).kind = "room" := by
  cases h with
  | top => exact .inl rfl
  | step h1 h2 h3 h4 => exact .inr ⟨_, _, by unfold last; rw [List.getLastD_concat], h3⟩
theorem Chain.free {W : Wd} (ok : W.Ok) (tf : TopFree W) {ss : List Std} (h : Chain W ss) : look (last ss).number W.over = none := by
  rcases h.last_cases with rfl | ⟨k, n, e, _⟩
  · exact tf
  · rw [e]
    exact stand_end ok k n
theorem Chain.under {W : Wd} {ss : List Std} (h : Chain W ss) {v : Nat} (hv : (last ss).under = some v) : ∃ k, look v W.over = some k := by
  rcases h.last_cases with rfl | ⟨k, n, e, _⟩
  · cases hv
  · rw [e] at hv
    exact stand_under hv
/-- a room along a path -/
def roomV' (W : Wd) (u : Int) (v : V) : Res (List Std) := match wayV W u true v with
  | .err e => .err e
  | .ok (_, some _) => .err (.no 6)
  | .ok (ss, none) => .ok ss
def hangR (W : Wd) (vu vr vp : V) : Res (Nat × Nat) := if userB W vu = false then .err (.no 3) else match roomV' W (userI vu) vr with
  | .err e => .err e
  | .ok ss => match roomV' W (userI vu) vp with
    | .err e => .err e
    | .ok st => if userI vu ≠ 0 then .err (.right (userI vu) (last st).number) else if st.length = 1 ∨ (last st).number = 0 ∨ (last st).number = (last ss).number then .err (.no 12) else .ok ((last ss).number, (last st).number)
def downR (W : Wd) (vu vp : V) : Res Nat := if userB W vu = false then .err (.no 3) else match roomV' W (userI vu) vp with
  | .err e => .err e
  | .ok st => if userI vu ≠ 0 then .err (.right (userI vu) (last st).number) else match (last st).under with
    | none => .err (.no 11)
    | some k => .ok k
theorem roomV_plain {W : Wd} {u : Int} {v : V} {e : Err} (h : roomV' W u v = .err e) : e.Plain := by
  unfold roomV' at h
  split at h
  · rename_i hx
    cases h
    exact wayV_plain hx
  · cases h
    exact plain6
  · cases h
theorem hangR_plain {W : Wd} {vu vr vp : V} {e : Err} (h : hangR W vu vr vp = .err e) : e.Plain := by
  unfold hangR at h
  split at h
  · cases h; exact plain3
  · split at h
    · rename_i hx
      cases h
      exact roomV_plain hx
    · split at h
      · rename_i hx
        cases h
        exact roomV_plain hx
      · split at h
        · cases h; trivial
        · split at h
          · cases h; exact plain12
          · cases h
theorem downR_plain {W : Wd} {vu vp : V} {e : Err} (h : downR W vu vp = .err e) : e.Plain := by
  unfold downR at h
  split at h
  · cases h; exact plain3
  · split at h
    · rename_i hx
      cases h
      exact roomV_plain hx
    · split at h
      · cases h; trivial
      · split at h
        · cases h; exact plain11
        · cases h
theorem roomV_way {W : Wd} {u : Int} {v : V} {ss : List Std} (h : roomV' W u v = .ok ss) : ∃ ps, wayOf W u true ps = .ok ss none := by
  unfold roomV' at h
  split at h
  · cases h
  · cases h
  · rename_i hx
    cases h
    exact wayV_ok hx
/-- a house whose over is written -/
theorem HouseAt.over {K : PySem.W.Frag} {H H' : Hp} {h : Addr} {L : Lay} {W : Wd} (hh : HouseAt K H h L W) {l : List (Nat × Nat)} (h1 : H' L.ov = some (.dK (overV l))) (off : ∀ b, b ≠ L.ov → H' b = H b) : HouseAt K H' h L { W with over := l } := by
  have d := hh.dis
  rw [List.nodup_cons] at d
  obtain ⟨d1, d2⟩ := d
  rw [List.nodup_cons] at d2
  obtain ⟨d2, d3⟩ := d2
  rw [List.nodup_cons] at d3
  obtain ⟨d3, _⟩ := d3
  obtain ⟨dx, ho⟩ := hh.obj
  have g : L.g ≠ L.ov := fun z => by have := hh.grp; rw [z, hh.ovr] at this; cases this
  refine ⟨⟨dx, by rw [off _ fun z => d1 (by rw [z]; simp)]; exact ho⟩, by rw [off _ g]; exact hh.grp, by rw [off _ fun z => d2 (by rw [z]; simp)]; exact hh.nds, h1, hh.la, hh.ln, fun i hi => ?_, hh.dis⟩
  obtain ⟨dx2, rt, z1, z2⟩ := (hh.nod i hi).ex
  have na : L.as.getD i 0 ≠ L.ov := fun z => d3 (by rw [← z]; exact List.mem_append_left _ (hh.mA hi))
  have nn : L.ns.getD i 0 ≠ L.ov := fun z => d3 (by rw [← z]; exact List.mem_append_right _ (hh.mN hi))
  have nt : rt ≠ L.ov := fun z => by rw [z, hh.ovr] at z2; cases z2
  exact ⟨⟨dx2, rt, by rw [off _ na]; exact z1, by rw [off _ nt]; exact z2⟩, by rw [off _ nn]; exact (hh.nod i hi).nam⟩
theorem OwnAt.over {H H' : Hp} {o : Addr} {L : Lay} {W : Wd} (h : OwnAt H o L W) {l : List (Nat × Nat)} (h1 : H' L.ov = some (.dK (overV l))) (off : ∀ b, b ≠ L.ov → H' b = H b) : OwnAt H' o L { W with over := l } := by
  obtain ⟨f1, f2, f3, f4, f5⟩ := h.dF
  refine ⟨by rw [off _ f4]; exact h.obj, by rw [off _ f5]; exact h.grp, by rw [off _ f3.symm]; exact h.nds, h1, h.la, h.ln, fun i hi => ?_, h.dis⟩
  obtain ⟨rt, z1, z2⟩ := (h.nod i hi).ex
  have na := (h.dO (.inl (h.mA hi))).2.2.2.symm
  have nn := (h.dO (.inr (h.mN hi))).2.2.2.symm
  have nt : rt ≠ L.ov := fun z => by rw [z, h.ovr] at z2; cases z2
  exact ⟨⟨rt, by rw [off _ na]; exact z1, by rw [off _ nt]; exact z2⟩, by rw [off _ nn]; exact (h.nod i hi).nam⟩
theorem tree_over {W : Wd} (t : Tree W) {l : List (Nat × Nat)} : Tree { W with over := l } := t.less (fun _ _ h _ => h) (fun _ _ _ h => h)
/-! ### any deed: the world behind it -/
def linkF (W : Wd) (vu vo vn : V) : Res Wd := match linkR W vu vo vn with
  | .err e => .err e
  | .ok (k, st, m) => .ok (linkW W (last st).number m k)
def removeF (W : Wd) (vu vo : V) : Res Wd := match removeR W vu vo with
  | .err e => .err e
  | .ok (ss, n, k) => .ok (removeW W (last ss).number n k)
def moveG (W : Wd) (vu vo vn : V) : Res Wd := match moveF W vu vo vn with
  | .err e => .err e
  | .ok (ss, n, k, st, m) => .ok (moveW W (last ss).number n k (last st).number m)
def writeF (W : Wd) (vu vo vn : V) : Res Wd := match writeR W vu vo vn with
  | .err e => .err e
  | .ok n => .ok (textW W n (strS vn))
def rightsF (W : Wd) (H : Hp) (vu vo vn : V) : Res Wd := match setR W H vu vo vn with
  | .err e => .err e
  | .ok n => .ok (setW W n ((rtOf H vn).getD 0 0) ((rtOf H vn).getD 1 0) ((rtOf H vn).getD 2 0))
def hangF (W : Wd) (vu vo vn : V) : Res Wd := match hangR W vu vo vn with
  | .err e => .err e
  | .ok (a, b) => .ok (hangW W a b)
def downF (W : Wd) (vu vo : V) : Res Wd := match downR W vu vo with
  | .err e => .err e
  | .ok k => .ok (downW W k)
def didF (W : Wd) (H : Hp) (word : Str) (vu vo vn : V) : Res Wd :=
  if word = "link" then linkF W vu vo vn else if word = "remove" then removeF W vu vo else if word = "move" then moveG W vu vo vn else if word = "write" then writeF W vu vo vn
  else if word = "rights" then rightsF W H vu vo vn else if word = "hang" then hangF W vu vo vn else downF W vu vo
abbrev DeedW (word : Str) : Prop := word = "link" ∨ word = "remove" ∨ word = "move" ∨ word = "write" ∨ word = "rights" ∨ word = "hang" ∨ word = "down"
section
variable {W : Wd} {H : Hp} {vu vo vn : V}
theorem did_link : didF W H "link" vu vo vn = linkF W vu vo vn := rfl
theorem did_remove : didF W H "remove" vu vo vn = removeF W vu vo := rfl
theorem did_move : didF W H "move" vu vo vn = moveG W vu vo vn := rfl
theorem did_write : didF W H "write" vu vo vn = writeF W vu vo vn := rfl
theorem did_rights : didF W H "rights" vu vo vn = rightsF W H vu vo vn := rfl
theorem did_hang : didF W H "hang" vu vo vn = hangF W vu vo vn := rfl
theorem did_down : didF W H "down" vu vo vn = downF W vu vo := rfl
theorem did_plain {word : Str} {e : Err} (h : didF W H word vu vo vn = .err e) : e.Plain := by
  unfold didF at h
  split at h
  · unfold linkF at h
    split at h
    · rename_i hx
      cases h
      exact linkR_plain hx
    · cases h
  split at h
  · unfold removeF at h
    split at h
    · rename_i hx
      cases h
      exact removeR_plain hx
    · cases h
  split at h
  · unfold moveG at h
    split at h
    · rename_i hx
      cases h
      exact moveF_plain hx
    · cases h
  split at h
  · unfold writeF at h
    split at h
    · rename_i hx
      cases h
      exact writeR_plain hx
    · cases h
  split at h
  · unfold rightsF at h
    split at h
    · rename_i hx
      cases h
      exact setR_plain hx
    · cases h
  split at h
  · unfold hangF at h
    split at h
    · rename_i hx
      cases h
      exact hangR_plain hx
    · cases h
  · unfold downF at h
    split at h
    · rename_i hx
      cases h
      exact downR_plain hx
    · cases h
end
theorem did_moves {W : Wd} {H : Hp} {word : Str} {u : Int} {one other : Str} (hw : word = "link" ∨ word = "remove" ∨ word = "move") : didF W H word (.int u) (.str one) (.str other) = movesR W word u one other := by
  rcases hw with rfl | rfl | rfl <;> rfl
/-- what a deed keeps -/
structure Same (W W' : Wd) : Prop where
  len : W'.nodes.length = W.nodes.length
  grp : W'.groups = W.groups
theorem put_same {W : Wd} {i : Nat} {d : Nd} : Same W (W.put i d) := ⟨Wd.len_put, rfl⟩
theorem Same.tr {W W' W'' : Wd} (a : Same W W') (b : Same W' W'') : Same W W'' := ⟨b.len.trans a.len, b.grp.trans a.grp⟩
theorem did_same {W W' : Wd} {H : Hp} {word : Str} {vu vo vn : V} (h : didF W H word vu vo vn = .ok W') : Same W W' := by
  unfold didF at h
  split at h
  · unfold linkF at h
    split at h
    · cases h
    · cases h
      exact put_same.tr put_same
  split at h
  · unfold removeF at h
    split at h
    · cases h
    · cases h
      exact put_same.tr put_same
  split at h
  · unfold moveG at h
    split at h
    · cases h
    · cases h
      exact put_same.tr put_same
  split at h
  · unfold writeF at h
    split at h
    · cases h
    · cases h
      exact put_same
  split at h
  · unfold rightsF at h
    split at h
    · cases h
    · cases h
      exact put_same
  split at h
  · unfold hangF at h
    split at h
    · cases h
    · cases h
      exact ⟨rfl, rfl⟩
  · unfold downF at h
    split at h
    · cases h
    · cases h
      exact ⟨rfl, rfl⟩
theorem linkR_ok {W : Wd} (ok : W.Ok) {vu vo vn : V} {k : Nat} {st : List Std} {m : Str} (h : linkR W vu vo vn = .ok (k, st, m)) : k < W.nodes.length ∧ (W.at k).kind ≠ "room" ∧ freeV W (userI vu) vn = .ok st m := by
  unfold linkR at h
  split at h
  · cases h
  · split at h
    · cases h
    · rename_i hx
      split at h
      · cases h
      · rename_i hk
        split at h
        · cases h
        · rename_i hf
          cases h
          exact ⟨endV_lt ok hx, hk, hf⟩
theorem free_lt {W : Wd} (ok : W.Ok) {u : Int} {v : V} {st : List Std} {m : Str} (h : freeV W u v = .ok st m) : (last st).number < W.nodes.length := by
  have := place_ok ok (free_place h).1
  exact last_lt this.1 this.2.1
theorem named_lt {W : Wd} (ok : W.Ok) {u : Int} {v : V} {ss : List Std} {n : Str} {k : Nat} (h : namedR W u v = .ok (ss, n, k)) : (last ss).number < W.nodes.length ∧ k < W.nodes.length ∧ (n, k) ∈ (W.at (last ss).number).names := by
  obtain ⟨h1, h2⟩ := named_ok h
  have := place_ok ok h1
  have hl := last_lt this.1 this.2.1
  exact ⟨hl, look_lt ok hl h2, look_mem h2⟩
theorem removeR_ok {W : Wd} {vu vo : V} {ss : List Std} {n : Str} {k : Nat} (h : removeR W vu vo = .ok (ss, n, k)) : namedR W (userI vu) vo = .ok (ss, n, k) := by
  unfold removeR at h
  split at h
  · cases h
  · split at h
    · cases h
    · rename_i hx
      split at h
      · cases h
      · cases h
        exact hx
theorem moveF_ok {W : Wd} {vu vo vn : V} {ss st : List Std} {n m : Str} {k : Nat} (h : moveF W vu vo vn = .ok (ss, n, k, st, m)) : namedR W (userI vu) vo = .ok (ss, n, k) ∧ freeV W (userI vu) vn = .ok st m ∧ ((W.at k).kind = "room" → boundB W k = false ∧ (last st).number ∉ roomsOf W k) := by
  unfold moveF at h
  generalize hm : moveR W vu vo vn = R at h
  cases R with
  | err e => cases h
  | ok p =>
    obtain ⟨ss', n', k', st', m'⟩ := p
    have hmr : namedR W (userI vu) vo = .ok (ss', n', k') ∧ freeV W (userI vu) vn = .ok st' m' := by
      unfold moveR at hm
      split at hm
      · cases hm
      · split at hm
        · cases hm
        · rename_i hx
          split at hm
          · cases hm
          · rename_i hf
            cases hm
            exact ⟨hx, hf⟩
    dsimp only at h
    by_cases c1 : (W.at k').kind = "room"
    · rw [if_pos c1] at h
      by_cases c2 : boundB W k' = true
      · rw [if_pos c2] at h
        cases h
      · rw [if_neg c2] at h
        by_cases c3 : k' ∈ st'.map (·.number) ∨ (last st').number ∈ roomsOf W k'
        · rw [if_pos c3] at h
          cases h
        · rw [if_neg c3] at h
          cases h
          exact ⟨hmr.1, hmr.2, fun _ => ⟨by simpa using c2, fun z => c3 (.inr z)⟩⟩
    · rw [if_neg c1] at h
      cases h
      exact ⟨hmr.1, hmr.2, fun z => (c1 z).elim⟩
theorem did_tree {W W' : Wd} (ok : W.Ok) (t : Tree W) {H : Hp} {word : Str} {vu vo vn : V} (h : didF W H word vu vo vn = .ok W') : Tree W' := by
  unfold didF at h
  split at h
  · unfold linkF at h
    split at h
    · cases h
    · rename_i hx
      cases h
      obtain ⟨h1, h2, h3⟩ := linkR_ok ok hx
      exact tree_link t (free_lt ok h3) h2
  split at h
  · unfold removeF at h
    split at h
    · cases h
    · rename_i hx
      cases h
      exact tree_remove t (named_lt ok (removeR_ok hx)).1
  split at h
  · unfold moveG at h
    split at h
    · cases h
    · rename_i ss n k st m hx
      cases h
      obtain ⟨h1, h2, h3⟩ := moveF_ok hx
      obtain ⟨h4, h5, h6⟩ := named_lt ok h1
      by_cases c : (W.at k).kind = "room"
      · exact tree_move t h4 (free_lt ok h2) h6 c fun z => (h3 c).2 ((mem_rooms ok t).mpr z)
      · exact tree_name (tree_drop t h4) (by rw [len_drop]; exact free_lt ok h2) (by rw [drop_kind h4]; exact c)
  split at h
  · unfold writeF at h
    split at h
    · cases h
    · rename_i n hx
      cases h
      by_cases hn : n < W.nodes.length
      · exact tree_put t hn rfl rfl
      · have : textW W n (strS vn) = W := by
          unfold textW Wd.put
          rw [List.set_eq_of_length_le (by omega)]
        rw [this]
        exact t
  split at h
  · unfold rightsF at h
    split at h
    · cases h
    · rename_i n hx
      cases h
      by_cases hn : n < W.nodes.length
      · exact tree_put t hn rfl rfl
      · have : ∀ a b c, setW W n a b c = W := fun a b c => by
          unfold setW Wd.put
          rw [List.set_eq_of_length_le (by omega)]
        rw [this]
        exact t
  split at h
  · unfold hangF at h
    split at h
    · cases h
    · cases h
      exact tree_over t
  · unfold downF at h
    split at h
    · cases h
    · cases h
      exact tree_over t
theorem down_free {W : Wd} (tf : TopFree W) {k : Nat} : TopFree (downW W k) := by
  show look 0 (dropO k W.over) = none
  cases e : look 0 (dropO k W.over) with
  | none => rfl
  | some v =>
    have h := look_dropO e
    have tf : look 0 W.over = none := tf
    rw [tf] at h
    cases h
theorem hangR_ok {W : Wd} {vu vo vn : V} {a b : Nat} (h : hangR W vu vo vn = .ok (a, b)) : b ≠ 0 := by
  unfold hangR at h
  split at h
  · cases h
  · split at h
    · cases h
    · split at h
      · cases h
      · split at h
        · cases h
        · split at h
          · cases h
          · rename_i hc
            cases h
            exact fun z => hc (.inr (.inl z))
theorem did_free {W W' : Wd} (tf : TopFree W) {H : Hp} {word : Str} {vu vo vn : V} (h : didF W H word vu vo vn = .ok W') : TopFree W' := by
  unfold didF at h
  split at h
  · unfold linkF at h
    split at h
    · cases h
    · cases h
      exact tf
  split at h
  · unfold removeF at h
    split at h
    · cases h
    · cases h
      exact tf
  split at h
  · unfold moveG at h
    split at h
    · cases h
    · cases h
      exact tf
  split at h
  · unfold writeF at h
    split at h
    · cases h
    · cases h
      exact tf
  split at h
  · unfold rightsF at h
    split at h
    · cases h
    · cases h
      exact tf
  split at h
  · unfold hangF at h
    split at h
    · cases h
    · rename_i a b hx
      cases h
      have hb := hangR_ok hx
      show look 0 (W.over ++ [(b, a)]) = none
      rw [look_app, tf]
      show look 0 [(b, a)] = none
      rw [look_cons, if_neg hb]
      rfl
  · unfold downF at h
    split at h
    · cases h
    · cases h
      exact down_free tf
/-! ### worlds that laws bring about -/
structure Live (W : Wd) (m : Nat) : Prop where
  ok : W.Ok
  tr : Tree W
  sm : W.Small m
  grp : W.groups = [7, 7, 9]
  tf : TopFree W
  ov : W.over.length ≤ m
theorem Live.le {W : Wd} {m n : Nat} (h : Live W m) (l : m ≤ n) : Live W n := ⟨h.ok, h.tr, Small.le h.sm l, h.grp, h.tf, Nat.le_trans h.ov l⟩
theorem Reach.tree {W : Wd} {k : Nat} (h : Reach W k) : Tree W := by
  induction h with
  | start => exact tree_w0 _
  | make h ok hf hd ih => exact tree_made ok ih (free_lt ok hf) rfl
theorem Reach.live {W : Wd} {k : Nat} (h : Reach W k) (ok : W.Ok) : Live W (k + 1) := by
  obtain ⟨h1, h2, h3⟩ := h.small
  exact ⟨ok, h.tree, h1, h2, by unfold TopFree; rw [h3]; rfl, by rw [h3]; exact Nat.zero_le _⟩
theorem Live.make {W : Wd} {m : Nat} (h : Live W m) {u : Int} {v : V} {ss : List Std} {n : Str} {d : Nd} (hf : freeV W u v = .ok ss n) (hd : d.names = []) (ok' : (madeW W (last ss).number n d).Ok) : Live (madeW W (last ss).number n d) (m + 1) :=
  ⟨ok', tree_made h.ok h.tr (free_lt h.ok hf) hd, made_small h.sm (free_lt h.ok hf) hd, h.grp, h.tf, Nat.le_succ_of_le h.ov⟩
theorem put_small {W : Wd} {m i : Nat} {d : Nd} (h : W.Small m) (hd : d.names.length ≤ m) : (W.put i d).Small m := by
  refine ⟨by rw [Wd.len_put]; exact h.1, fun j => ?_⟩
  by_cases hi : i < W.nodes.length
  · rw [Wd.at_put hi]
    split
    · exact hd
    · exact h.2 j
  · have : W.put i d = W := by
      unfold Wd.put
      rw [List.set_eq_of_length_le (by omega)]
    rw [this]
    exact h.2 j
theorem name_small {W : Wd} {m r k : Nat} {n : Str} (h : W.Small m) : (nameW W r n k).Small (m + 1) := put_small (Small.le h (by omega)) (by
  show ((W.at r).names ++ [(n, k)]).length ≤ m + 1
  rw [List.length_append]
  have := h.2 r
  simp
  omega)
theorem drop_small {W : Wd} {m r : Nat} {n : Str} (h : W.Small m) : (dropW W r n).Small m := put_small h (Nat.le_trans (List.length_filter_le _ _) (h.2 r))
theorem cnt_small {W : Wd} {m k : Nat} {i : Int} (h : W.Small m) : (cntW W k i).Small m := put_small h (h.2 k)
theorem did_small {W W' : Wd} {m : Nat} (hm : W.Small m) {H : Hp} {word : Str} {vu vo vn : V} (h : didF W H word vu vo vn = .ok W') : W'.Small (m + 1) := by
  unfold didF at h
  split at h
  · unfold linkF at h
    split at h
    · cases h
    · cases h
      exact cnt_small (name_small hm)
  split at h
  · unfold removeF at h
    split at h
    · cases h
    · cases h
      exact Small.le (cnt_small (drop_small hm)) (by omega)
  split at h
  · unfold moveG at h
    split at h
    · cases h
    · cases h
      exact name_small (drop_small hm)
  split at h
  · unfold writeF at h
    split at h
    · cases h
    · cases h
      exact Small.le (put_small hm (hm.2 _)) (by omega)
  split at h
  · unfold rightsF at h
    split at h
    · cases h
    · cases h
      exact Small.le (put_small hm (hm.2 _)) (by omega)
  split at h
  · unfold hangF at h
    split at h
    · cases h
    · cases h
      exact Small.le (show Wd.Small { W with over := _ } m from hm) (by omega)
  · unfold downF at h
    split at h
    · cases h
    · cases h
      exact Small.le (show Wd.Small { W with over := _ } m from hm) (by omega)
theorem did_over {W W' : Wd} {H : Hp} {word : Str} {vu vo vn : V} (h : didF W H word vu vo vn = .ok W') : W'.over.length ≤ W.over.length + 1 ∧ (word = "link" ∨ word = "remove" ∨ word = "move" ∨ word = "write" ∨ word = "rights" → W'.over = W.over) := by
  unfold didF at h
  split at h
  · unfold linkF at h
    split at h
    · cases h
    · cases h
      exact ⟨Nat.le_succ _, fun _ => rfl⟩
  split at h
  · unfold removeF at h
    split at h
    · cases h
    · cases h
      exact ⟨Nat.le_succ _, fun _ => rfl⟩
  split at h
  · unfold moveG at h
    split at h
    · cases h
    · cases h
      exact ⟨Nat.le_succ _, fun _ => rfl⟩
  split at h
  · unfold writeF at h
    split at h
    · cases h
    · cases h
      exact ⟨Nat.le_succ _, fun _ => rfl⟩
  split at h
  · unfold rightsF at h
    split at h
    · cases h
    · cases h
      exact ⟨Nat.le_succ _, fun _ => rfl⟩
  rename_i c1 c2 c3 c4 c5
  have no : ¬ (word = "link" ∨ word = "remove" ∨ word = "move" ∨ word = "write" ∨ word = "rights") := fun z => by
    rcases z with z | z | z | z | z
    · exact c1 z
    · exact c2 z
    · exact c3 z
    · exact c4 z
    · exact c5 z
  split at h
  · unfold hangF at h
    split at h
    · cases h
    · cases h
      exact ⟨by show (W.over ++ [_]).length ≤ _; rw [List.length_append]; exact Nat.le_refl _, fun z => (no z).elim⟩
  · unfold downF at h
    split at h
    · cases h
    · cases h
      exact ⟨Nat.le_succ_of_le (List.length_filter_le _ _), fun z => (no z).elim⟩
theorem Live.did {W W' : Wd} {m : Nat} (l : Live W m) {H : Hp} {word : Str} {vu vo vn : V} (h : didF W H word vu vo vn = .ok W') (ok' : W'.Ok) : Live W' (m + 1) :=
  ⟨ok', did_tree l.ok l.tr h, did_small l.sm h, by rw [(did_same h).grp]; exact l.grp, did_free l.tf h, Nat.le_trans (did_over h).1 (Nat.succ_le_succ l.ov)⟩
/-! ### what a refusal bears is a name -/
theorem place_name {W : Wd} (ok : W.Ok) {u : Int} {ps : List Str} {s : Str} (hg : goodParts ps = true) (h : placeV W u (.str (pathOf ps)) = .err (.name s)) : isPart s = true := by
  rcases List.eq_nil_or_concat ps with rfl | ⟨qs, n, rfl⟩
  · rw [place_top] at h
    cases h
  · rw [List.concat_eq_append] at h hg
    cases hn : isName n with
    | false =>
      rw [place_bad hg hn] at h
      cases h
    | true =>
      rw [place_snoc hg hn] at h
      have hq : ∀ p ∈ qs, isPart p = true := fun p hp => (good_all hg).2 p (List.mem_append_left _ hp)
      cases hw : wayOf W u true qs with
      | stuck =>
        rw [hw] at h
        cases h
      | err e =>
        rw [hw] at h
        cases h
        exact wayGo_name ok _ _ _ _ (by simp) (fun z hz => by rw [List.mem_singleton.mp hz]; exact ok.one) hq hw
      | ok ss num =>
        rw [hw] at h
        cases num with
        | some k => cases h
        | none =>
          have h : (if mayOf W u (last ss).number 3 = true then PlR.ok ss n else .err (.right u (last ss).number)) = .err (.name s) := h
          split at h <;> cases h
theorem free_name {W : Wd} (ok : W.Ok) {u : Int} {ps : List Str} {s : Str} (hg : goodParts ps = true) (h : freeV W u (.str (pathOf ps)) = .err (.name s)) : isPart s = true := by
  unfold freeV at h
  split at h
  · rename_i hx
    cases h
    exact place_name ok hg hx
  · split at h <;> cases h
theorem name_part {n : Str} (h : isName n = true) : isPart n = true := by
  unfold isPart
  rw [h]
  simp
theorem named_name {W : Wd} (ok : W.Ok) {u : Int} {ps : List Str} {s : Str} (hg : goodParts ps = true) (h : namedR W u (.str (pathOf ps)) = .err (.name s)) : isPart s = true := by
  unfold namedR at h
  split at h
  · rename_i hx
    cases h
    exact place_name ok hg hx
  · rename_i hx
    split at h
    · cases h
      exact name_part (place_ok ok hx).2.2
    · cases h
theorem wayV_name {W : Wd} (ok : W.Ok) {u : Int} {f : Bool} {ps : List Str} {s : Str} (hg : goodParts ps = true) (h : wayV W u f (.str (pathOf ps)) = .err (.name s)) : isPart s = true := by
  rw [wayV_path hg] at h
  cases hw : wayOf W u f ps with
  | stuck =>
    rw [hw] at h
    cases h
  | err e =>
    rw [hw] at h
    cases h
    exact wayGo_name ok _ _ _ _ (by simp) (fun z hz => by rw [List.mem_singleton.mp hz]; exact ok.one) (good_all hg).2 hw
  | ok ss num =>
    rw [hw] at h
    cases h
theorem moves_name {W : Wd} (ok : W.Ok) {word : Str} {u : Int} (u0 : 0 ≤ u) (u1 : u < W.groups.length) {ps qs : List Str} {s : Str} (hw : word = "link" ∨ word = "remove" ∨ word = "move") (hg : goodParts ps = true) (hq : goodParts qs = true) (h : movesR W word u (pathOf ps) (pathOf qs) = .err (.name s)) : isPart s = true := by
  rcases hw with rfl | rfl | rfl
  · rw [moves_link u0 u1 hg] at h
    cases hw : wayOf W u false ps with
    | stuck => rw [hw] at h; cases h
    | err e =>
      rw [hw] at h
      cases h
      exact wayGo_name ok _ _ _ _ (by simp) (fun z hz => by rw [List.mem_singleton.mp hz]; exact ok.one) (good_all hg).2 hw
    | ok ss num =>
      rw [hw] at h
      dsimp only at h
      split at h
      · cases h
      · split at h
        · rename_i hx
          cases h
          exact free_name ok hq hx
        · cases h
  · rw [moves_remove u0 u1] at h
    split at h
    · rename_i hx
      cases h
      exact named_name ok hg hx
    · split at h <;> cases h
  · rw [moves_move u0 u1] at h
    split at h
    · rename_i hx
      cases h
      exact named_name ok hg hx
    · split at h
      · rename_i hx
        cases h
        exact free_name ok hq hx
      · split at h
        · split at h
          · cases h
          · split at h <;> cases h
        · cases h
theorem shaped_name {e : Err} (h : e.Plain) (hs : ∀ s, e = .name s → isPart s = true) : SeqAt.shaped (errD e) = true := shaped_err h fun s z => part_ok (hs s z)
theorem room_path {W : Wd} {u : Int} {ps : List Str} (hg : goodParts ps = true) : roomV' W u (.str (pathOf ps)) = roomW W u ps := by
  unfold roomV' roomW
  rw [wayV_path hg]
  cases wayOf W u true ps with
  | stuck => rfl
  | err e => rfl
  | ok ss num => cases num <;> rfl
theorem roomW_way {W : Wd} {u : Int} {ps : List Str} {ss : List Std} (h : roomW W u ps = .ok ss) : wayOf W u true ps = .ok ss none := by
  unfold roomW at h
  generalize wayOf W u true ps = R at h
  cases R with
  | stuck => cases h
  | err e => cases h
  | ok ss' num =>
    cases num with
    | none =>
      cases h
      rfl
    | some k => cases h
theorem hang_path {W : Wd} {u : Int} {ps qs : List Str} (u0 : 0 ≤ u) (u1 : u < W.groups.length) (hg : goodParts ps = true) (hq : goodParts qs = true) : hangF W (.int u) (.str (pathOf ps)) (.str (pathOf qs)) = match roomW W u ps with
    | .err e => .err e
    | .ok ss => match roomW W u qs with
      | .err e => .err e
      | .ok st => if u ≠ 0 then .err (.right u (last st).number) else if st.length = 1 ∨ (last st).number = 0 ∨ (last st).number = (last ss).number then .err (.no 12) else .ok (hangW W (last ss).number (last st).number) := by
  unfold hangF hangR
  rw [if_neg (by rw [userB_of u0 u1]; decide), show userI (.int u) = u from rfl, room_path hg, room_path hq]
  cases roomW W u ps with
  | err e => rfl
  | ok ss =>
    dsimp only
    cases roomW W u qs with
    | err e => rfl
    | ok st =>
      dsimp only
      by_cases c : u ≠ 0
      · rw [if_pos c, if_pos c]
      · rw [if_neg c, if_neg c]
        by_cases c2 : st.length = 1 ∨ (last st).number = 0 ∨ (last st).number = (last ss).number
        · rw [if_pos c2, if_pos c2]
        · rw [if_neg c2, if_neg c2]
theorem down_path {W : Wd} {u : Int} {ps : List Str} (u0 : 0 ≤ u) (u1 : u < W.groups.length) (hg : goodParts ps = true) : downF W (.int u) (.str (pathOf ps)) = match roomW W u ps with
    | .err e => .err e
    | .ok st => if u ≠ 0 then .err (.right u (last st).number) else match (last st).under with
      | none => .err (.no 11)
      | some k => .ok (downW W k) := by
  unfold downF downR
  rw [if_neg (by rw [userB_of u0 u1]; decide), show userI (.int u) = u from rfl, room_path hg]
  cases roomW W u ps with
  | err e => rfl
  | ok st =>
    dsimp only
    by_cases c : u ≠ 0
    · rw [if_pos c, if_pos c]
    · rw [if_neg c, if_neg c]
      cases (last st).under <;> rfl
def hangsR (W : Wd) (word : Str) (u : Int) (one other : Str) : Res Wd := if word = "hang" then hangF W (.int u) (.str one) (.str other) else downF W (.int u) (.str one)
theorem room_name {W : Wd} (ok : W.Ok) {u : Int} {ps : List Str} {s : Str} (hg : goodParts ps = true) (h : roomW W u ps = .err (.name s)) : isPart s = true := by
  unfold roomW at h
  cases hw : wayOf W u true ps with
  | stuck => rw [hw] at h; cases h
  | err e =>
    rw [hw] at h
    cases h
    exact wayGo_name ok _ _ _ _ (by simp) (fun z hz => by rw [List.mem_singleton.mp hz]; exact ok.one) (good_all hg).2 hw
  | ok ss num => rw [hw] at h; cases num <;> cases h
theorem hangs_name {W : Wd} (ok : W.Ok) {word : Str} {u : Int} (u0 : 0 ≤ u) (u1 : u < W.groups.length) {ps qs : List Str} {s : Str} (hg : goodParts ps = true) (hq : goodParts qs = true) (h : hangsR W word u (pathOf ps) (pathOf qs) = .err (.name s)) : isPart s = true := by
  unfold hangsR at h
  split at h
  · rw [hang_path u0 u1 hg hq] at h
    split at h
    · rename_i hx
      cases h
      exact room_name ok hg hx
    · split at h
      · rename_i hx
        cases h
        exact room_name ok hq hx
      · split at h
        · cases h
        · split at h <;> cases h
  · rw [down_path u0 u1 hg] at h
    split at h
    · rename_i hx
      cases h
      exact room_name ok hg hx
    · split at h
      · cases h
      · split at h <;> cases h
theorem did_hangs {W : Wd} {H : Hp} {word : Str} {u : Int} {one other : Str} (hw : word = "hang" ∨ word = "down") : didF W H word (.int u) (.str one) (.str other) = hangsR W word u one other := by
  rcases hw with rfl | rfl <;> rfl
theorem did_heap {W : Wd} {H H' : Hp} {word : Str} {vu vo vn : V} (h : word ≠ "rights") : didF W H word vu vo vn = didF W H' word vu vo vn := by
  unfold didF
  rw [if_neg (c := word = "rights") h, if_neg (c := word = "rights") h]
end Tm

/-! all that lies beneath a room -/
namespace Tm
open PySem PySem.Spec PyProof.Rows L2
/-- a list compared with an empty one, whatever is in it -/
def rNe0 (K : PySem.W.Frag) : R2 := fun x y H Q => ∃ a b xs, x = .ref a ∧ y = .ref b ∧ SqL K H a xs ∧ SqL K H b [] ∧ Q (.bl (!xs.isEmpty)) H
theorem op_ne0 {X : Cx} (hu : X.A.units + 64 < cLine) : OpR X (compareOp .NotEq) (rNe0 X.K) := by
  intro pins s σ H x y v u Q I rx ry h
  obtain ⟨a, b, xs, rfl, rfl, ha, hb, q⟩ := h
  obtain rfl : v = Value.ref a := rx
  obtain rfl : u = Value.ref b := ry
  obtain ⟨its, ra, la, za⟩ := I.list ha
  obtain ⟨jts, rb, lb, zb⟩ := I.list hb
  cases xs with
  | nil =>
    cases ra
    cases rb
    exact SeqAt.RcNeAt.lists (e := fun _ => true) la.isList lb.isList rfl (by omega) (fun j h1 _ => absurd h1 (Nat.not_lt_zero _)) _ _ _ _ ⟨.bl _, H, I, rfl, q⟩
  | cons x xs =>
    cases ra
    cases rb
    exact SeqAt.RcNeAt.lists_lengths la.isList lb.isList rfl (by omega) _ _ _ _ ⟨.bl _, H, I, rfl, q⟩
theorem x_ne0 {K : PySem.W.Frag} {H : Hp} {Q : VK} {a b : Addr} {xs : List V} (ha : SqL K H a xs) (hb : SqL K H b []) (q : Q (.bl (!xs.isEmpty)) H) : rNe0 K (.ref a) (.ref b) H Q := ⟨a, b, xs, rfl, rfl, ha, hb, q⟩
/-! ### sorted data -/
def leD (a b : PyData) : Bool := !PySem.W.dataLt b a
theorem leD_total (a b : PyData) : leD a b = true ∨ leD b a = true := by
  unfold leD
  cases h1 : PySem.W.dataLt b a with
  | false => exact .inl rfl
  | true =>
    cases h2 : PySem.W.dataLt a b with
    | false => exact .inr rfl
    | true =>
      have h3 := PyProof.Rows.lex_trans (O := PyProof.Rows.itemOrd) _ _ _ h1 h2
      rw [PyProof.Rows.lex_irrefl (O := PyProof.Rows.itemOrd)] at h3
      cases h3
theorem leD_trans {a b c : PyData} (h1 : leD a b = true) (h2 : leD b c = true) : leD a c = true := by
  unfold leD at *
  cases h : PySem.W.dataLt c a with
  | false => rfl
  | true =>
    rcases PyProof.Rows.lex_negTrans (O := PyProof.Rows.itemOrd) _ (PySem.W.keyToks b) _ h with z | z
    · have z : PySem.W.dataLt c b = true := z
      rw [z] at h2
      cases h2
    · have z : PySem.W.dataLt b a = true := z
      rw [z] at h1
      cases h1
theorem leD_anti {a b : PyData} (h1 : leD a b = true) (h2 : leD b a = true) : PySem.W.keyToks a = PySem.W.keyToks b := by
  unfold leD at *
  refine PyProof.Rows.lex_total (O := PyProof.Rows.itemOrd) _ _ ?_ ?_
  · have h2 : PySem.W.dataLt a b = false := by simpa using h2
    exact h2
  · have h1 : PySem.W.dataLt b a = false := by simpa using h1
    exact h1
def sortD (ds : List PyData) : List PyData := ds.mergeSort leD
theorem sortD_sorted (ds : List PyData) : (sortD ds).Pairwise (fun a b => leD a b = true) :=
  List.pairwise_mergeSort (le := leD) (fun a b c h1 h2 => leD_trans h1 h2) (fun a b => by rcases leD_total a b with h | h <;> simp [h]) ds
theorem sortD_perm {ds es : List PyData} (p : ds.Perm es) (inj : ∀ a ∈ ds, ∀ b ∈ ds, PySem.W.keyToks a = PySem.W.keyToks b → a = b) : sortD ds = sortD es := by
  have s1 := sortD_sorted ds
  have s2 := sortD_sorted es
  have pp : (sortD ds).Perm (sortD es) := ((List.mergeSort_perm ds leD).trans p).trans (List.mergeSort_perm es leD).symm
  refine List.Perm.eq_of_pairwise (fun a b ha hb h1 h2 => ?_) s1 s2 pp
  have ha : a ∈ ds := (List.mergeSort_perm ds leD).mem_iff.mp ha
  have hb : b ∈ ds := p.mem_iff.mpr ((List.mergeSort_perm es leD).mem_iff.mp hb)
  exact inj a ha b hb (leD_anti h1 h2)
def leZ (a b : V × PyData) : Bool := leD a.2 b.2
/-- sorted(xs): xs by values and what they read as -/
def rSrtD (K : PySem.W.Frag) : List V → Hp → VK → Prop := fun vs H Q => ∃ (a : Addr) (zs : List (V × PyData)), vs = [.ref a] ∧ SqL K H a (zs.map (·.1)) ∧ (∀ z ∈ zs, Dp K H z.1 z.2) ∧ PySem.W.AllAlike (zs.map (·.2)) ∧ PySem.W.Sortable (zs.map (·.2)) ∧ (∀ z ∈ zs, z.2.depth ≤ 8) ∧
  ∀ p, H p = none → Q (.ref p) (upd H p (.lst ((zs.mergeSort leZ).map (·.1))))
theorem cr_srtD {X : Cx} (hu : X.A.units + 64 < cLine) : CallR X (.builtin "sorted") (rSrtD X.K) := by
  intro pins s σ H vs us Q I r h
  obtain ⟨a, zs, rfl, hs, hd, hal, hso, hdp, q⟩ := h
  obtain ⟨its, rv, hl, hz⟩ := I.list hs
  rw [Vals.ref1 r]
  have e1 : ∀ {zs : List (V × PyData)} {its : List Value}, Vals (zs.map (·.1)) its → PySem.W.EachIs (fun v (b : V × PyData) => RelV b.1 v) its zs := by
    intro zs
    induction zs with
    | nil => intro its h; cases h; exact .nil
    | cons z zs ih => intro its h; cases h with
      | cons a t => exact .cons a (ih t)
  have e2 : ∀ {zs : List (V × PyData)} {its : List Value}, Vals (zs.map (·.1)) its → (∀ z ∈ zs, Dp X.K H z.1 z.2) → PySem.W.EachIs (fun v (b : V × PyData) => ∃ as, Reads s.heap v b.2 as) its zs := by
    intro zs
    induction zs with
    | nil => intro its h _; cases h; exact .nil
    | cons z zs ih => intro its h hd; cases h with
      | cons a t => exact .cons (Dp.reads I z.2 z.1 _ (hd z (List.mem_cons_self ..)) a) (ih t fun y hy => hd y (List.mem_cons_of_mem _ hy))
  have e3 : ∀ {zs : List (V × PyData)} {out : List Value}, PySem.W.EachIs (fun v (b : V × PyData) => RelV b.1 v) out zs → Vals (zs.map (·.1)) out := by
    intro zs
    induction zs with
    | nil => intro out h; cases h; exact .nil
    | cons z zs ih => intro out h; cases h with
      | cons a t => exact .cons a (ih t)
  have hz' : zs.length ≤ sizeLine := by rw [List.length_map] at hz; exact hz
  refine PySem.W.sorted_data (R := fun v (b : V × PyData) => RelV b.1 v) (enc := (·.2)) (bs := zs) hl.isList (e1 rv) (e2 rv hd) hal hso hz' (fun b hb => by have := hdp b hb; omega) fun out ho hE => ?_
  obtain ⟨ep, he'⟩ := PyProof.Rows.sortedAll_at s.heap its out.toArray
  have hE' : PySem.W.EachIs (fun v (b : V × PyData) => RelV b.1 v) out (zs.mergeSort leZ) := hE
  have hlen : ((zs.mergeSort leZ).map (·.1)).length ≤ sizeLine := by
    rw [List.length_map, List.length_mergeSort]
    exact hz'
  exact ⟨.ref _, upd H (s.heap.objs.size + 1) (.lst ((zs.mergeSort leZ).map (·.1))), I.laid (t' := s.toks) (fun _ _ => PyProof.Rows.sortedAll_old) (Nat.le_succ _) ⟨hlen, out, ep, e3 hE', he'⟩, rfl, q _ (I.hok.fresh (Nat.le_succ _))⟩
/-! ### all that lies beneath, in plain Lean -/
abbrev Row := List Str × Str
def rowD (r : Row) : PyData := .tuple [.str (pathOf r.1), .str r.2]
def RowAt (H : Hp) (a : Addr) (r : Row) : Prop := H a = some (.tup [.str (pathOf r.1), .str r.2])
def tailNm (ss : List Std) : List Str := ss.tail.map (·.name)
def goIn (W : Wd) (u : Int) (ss : List Std) (p : Str × Nat) : Bool := decide ((W.at p.2).kind = "room") && (decide ((standOf W p.2 p.1).number ∉ ss.map (·.number)) && (decide (ss.length < 12) && mayOf W u (standOf W p.2 p.1).number 5))
def benGo (W : Wd) (u : Int) : Nat → List Std → List Row
  | 0, _ => []
  | m + 1, ss => (W.at (last ss).number).names.flatMap fun p => (tailNm ss ++ [p.1], (W.at p.2).kind) :: (if goIn W u ss p = true then benGo W u m (ss ++ [standOf W p.2 p.1]) else [])
def benOf (W : Wd) (u : Int) (ss : List Std) : List Row := benGo W u (13 - ss.length) ss
def item (W : Wd) (u : Int) (ss : List Std) (p : Str × Nat) : List Row := (tailNm ss ++ [p.1], (W.at p.2).kind) :: (if goIn W u ss p = true then benOf W u (ss ++ [standOf W p.2 p.1]) else [])
theorem item_eq {W : Wd} {u : Int} {ss : List Std} {p : Str × Nat} : item W u ss p = (tailNm ss ++ [p.1], (W.at p.2).kind) :: (if goIn W u ss p = true then benOf W u (ss ++ [standOf W p.2 p.1]) else []) := rfl
theorem paired_app {α β : Type} {F : α → β → Prop} : ∀ {l l' : List α} {m m' : List β}, Paired F l m → Paired F l' m' → Paired F (l ++ l') (m ++ m')
  | _, _, _, _, .nil, h => h
  | _, _, _, _, .cons h t, h' => .cons h (paired_app t h')
theorem goIn_len {W : Wd} {u : Int} {ss : List Std} {p : Str × Nat} (h : goIn W u ss p = true) : ss.length < 12 := by
  unfold goIn at h
  simp only [Bool.and_eq_true, decide_eq_true_eq] at h
  exact h.2.2.1
theorem benOf_eq {W : Wd} {u : Int} {ss : List Std} (h : ss.length ≤ 12) : benOf W u ss = (W.at (last ss).number).names.flatMap (item W u ss) := by
  unfold benOf
  rw [show 13 - ss.length = (12 - ss.length) + 1 by omega, benGo]
  congr 1
  funext p
  unfold item benOf
  congr 1
  rw [List.length_append, List.length_singleton, show 13 - (ss.length + 1) = 12 - ss.length by omega]
theorem names_perm {W : Wd} (ok : W.Ok) {n : Nat} {ys : List Str} (hn : n < W.nodes.length) (p : ys.Perm ((W.at n).names.map (·.1))) : (ys.map fun s => (s, (look s (W.at n).names).getD 0)).Perm (W.at n).names := by
  refine (p.map fun s => (s, (look s (W.at n).names).getD 0)).trans ?_
  rw [List.map_map]
  have e : (W.at n).names.map ((fun s => (s, (look s (W.at n).names).getD 0)) ∘ fun x => x.1) = (W.at n).names.map id := by
    refine List.map_congr_left fun q hq => ?_
    show (q.1, (look q.1 (W.at n).names).getD 0) = q
    rw [look_of_mem ok (show (q.1, q.2) ∈ (W.at n).names from hq)]
    rfl
  rw [e, List.map_id]
/-- the weight of what is left -/
def weigh (W : Wd) (u : Int) (stk : List (List Std)) : Nat := (stk.map fun ss => (benOf W u ss).length + 1).sum
theorem weigh_app {W : Wd} {u : Int} {a b : List (List Std)} : weigh W u (a ++ b) = weigh W u a + weigh W u b := by
  unfold weigh
  rw [List.map_append, List.sum_append]
/-- what a room's names still bring: rows left, and the stack -/
theorem perm_step {total fr rest : List Row} {r : Row} {more : List Row} (h : (fr ++ ((r :: more) ++ rest)).Perm total) : ((fr ++ [r]) ++ (more ++ rest)).Perm total := by
  have : (fr ++ [r]) ++ (more ++ rest) = fr ++ ((r :: more) ++ rest) := by simp
  rw [this]
  exact h
/-- a stand's name is a name, its number is there -/
structure SsOk (W : Wd) (ss : List Std) : Prop where
  ne : ss ≠ []
  len : ss.length ≤ 12
  lt : ∀ z ∈ ss, z.number < W.nodes.length
  nm : ∀ z ∈ ss.tail, isName z.name = true
theorem SsOk.snoc {W : Wd} (ok : W.Ok) {ss : List Std} (h : SsOk W ss) (hl : ss.length < 12) {k : Nat} {s : Str} (hk : k < W.nodes.length) (hs : isName s = true) : SsOk W (ss ++ [standOf W k s]) := by
  refine ⟨by simp, by rw [List.length_append, List.length_singleton]; omega, fun z hz => ?_, fun z hz => ?_⟩
  · rcases List.mem_append.mp hz with hz | hz
    · exact h.lt z hz
    · rw [List.mem_singleton.mp hz]
      exact stand_lt ok s hk
  · rw [tail_snoc h.ne] at hz
    rcases List.mem_append.mp hz with hz | hz
    · exact h.nm z hz
    · rw [List.mem_singleton.mp hz]
      exact hs
theorem SsOk.good {W : Wd} {ss : List Std} (h : SsOk W ss) {n : Str} (hn : isName n = true) : goodParts (tailNm ss ++ [n]) = true := by
  have hp := List.length_pos_iff.mpr h.ne
  have hl := h.len
  refine good_of ?_ fun p hp => ?_
  · unfold tailNm
    rw [List.length_append, List.length_map, List.length_tail, List.length_singleton]
    omega
  · rcases List.mem_append.mp hp with hp | hp
    · obtain ⟨z, hz, rfl⟩ := List.mem_map.mp hp
      exact name_part (h.nm z hz)
    · rw [List.mem_singleton.mp hp]
      exact name_part hn
/-- the rows of a room are good paths -/
theorem benGo_good {W : Wd} (ok : W.Ok) {u : Int} : ∀ (m : Nat) {ss : List Std}, SsOk W ss → ∀ r ∈ benGo W u m ss, goodParts r.1 = true ∧ ((r.2 = "room" ∨ r.2 = "leaf" ∨ r.2 = "hint")) ∧ ∃ n, r.1.getLast? = some n ∧ isName n = true
  | 0, ss, h, r, hr => by cases hr
  | m + 1, ss, h, r, hr => by
    unfold benGo at hr
    obtain ⟨p, hp, hr⟩ := List.mem_flatMap.mp hr
    have hl := last_lt h.ne h.lt
    have hpn := (ok.at hl).nam p hp
    rcases List.mem_cons.mp hr with rfl | hr
    · exact ⟨h.good hpn.1, (ok.at hpn.2).knd, p.1, by simp, hpn.1⟩
    · split at hr
      · rename_i hg
        exact benGo_good ok m (h.snoc ok (goIn_len hg) hpn.2 hpn.1) r hr
      · cases hr
theorem benOf_good {W : Wd} (ok : W.Ok) {u : Int} {ss : List Std} (h : SsOk W ss) : ∀ r ∈ benOf W u ss, goodParts r.1 = true ∧ (r.2 = "room" ∨ r.2 = "leaf" ∨ r.2 = "hint") ∧ ∃ n, r.1.getLast? = some n ∧ isName n = true := benGo_good ok _ h
/-! ### rows, sorted -/
def leRow (a b : Row) : Bool := leD (rowD a) (rowD b)
def leW (a b : Addr × Row) : Bool := leD (rowD a.2) (rowD b.2)
theorem leRow_eq (a b : Row) : leRow a b = leD (rowD a) (rowD b) := by unfold leRow; exact Eq.refl (leD (rowD a) (rowD b))
theorem leW_eq (a b : Addr × Row) : leW a b = leRow a.2 b.2 := by unfold leW leRow; exact Eq.refl (leD (rowD a.2) (rowD b.2))
def wz (w : Addr × Row) : V × PyData := (V.ref w.1, rowD w.2)
theorem leZ_eq (a b : Addr × Row) : leW a b = leZ (wz a) (wz b) := by unfold leW leZ wz; exact Eq.refl (leD (rowD a.2) (rowD b.2))
def sortR (rs : List Row) : List Row := rs.mergeSort leRow
theorem sortR_map (rs : List Row) : (sortR rs).map rowD = sortD (rs.map rowD) := List.map_mergeSort fun a _ b _ => leRow_eq a b
theorem sort_pairs (ws : List (Addr × Row)) : (ws.mergeSort leW).map (·.2) = sortR (ws.map (·.2)) := List.map_mergeSort fun a _ b _ => leW_eq a b
theorem sort_zs (ws : List (Addr × Row)) : (ws.map wz).mergeSort leZ = (ws.mergeSort leW).map wz := (List.map_mergeSort fun a _ b _ => leZ_eq a b).symm
theorem sortR_perm (rs : List Row) : (sortR rs).Perm rs := List.mergeSort_perm _ _
theorem rowD_toks {a b : Row} (h : PySem.W.keyToks (rowD a) = PySem.W.keyToks (rowD b)) : rowD a = rowD b := by
  unfold rowD at h ⊢
  simp only [PySem.W.keyToks, PySem.W.keyToksAll, List.cons_append, List.nil_append, List.cons.injEq, Sum.inr.injEq, true_and, and_true] at h
  rw [PySem.W.str_of_cps h.1, PySem.W.str_of_cps h.2]
theorem sortD_rows {rs qs : List Row} (p : rs.Perm qs) : sortD (rs.map rowD) = sortD (qs.map rowD) := by
  refine sortD_perm (p.map rowD) fun a ha b hb h => ?_
  obtain ⟨x, _, rfl⟩ := List.mem_map.mp ha
  obtain ⟨y, _, rfl⟩ := List.mem_map.mp hb
  exact rowD_toks h
theorem rows_alike (rs : List Row) : PySem.W.AllAlike (rs.map rowD) := PySem.W.AllAlike.of fun b b' => by simp [rowD, PySem.W.alike, PySem.W.alikeAll]
theorem rows_sortable (rs : List Row) : PySem.W.Sortable (rs.map rowD) := PySem.W.Sortable.tuples fun b => ⟨_, _, rfl⟩
theorem row_depth (r : Row) : (rowD r).depth ≤ 8 := by simp [rowD, PyData.depth, PyData.depthAll]
theorem path_inj {ps qs : List Str} (hp : goodParts ps = true) (hq : goodParts qs = true) (h : pathOf ps = pathOf qs) : ps = qs := by
  have h1 := parts_path true hp
  have h2 := parts_path true hq
  rw [h, h2] at h1
  exact (Option.some.inj h1).symm
theorem rowD_inj {a b : Row} (ha : goodParts a.1 = true) (hb : goodParts b.1 = true) (h : rowD a = rowD b) : a = b := by
  unfold rowD at h
  injection h with h
  injection h with h1 h2
  injection h1 with h1
  injection h2 with h2
  injection h2 with h2
  exact Prod.ext (path_inj ha hb h1) h2
theorem map_injOn {α β : Type} {f : α → β} : ∀ {l m : List α}, (∀ a ∈ l, ∀ b ∈ m, f a = f b → a = b) → l.map f = m.map f → l = m
  | [], [], _, _ => rfl
  | [], _ :: _, _, h => nomatch h
  | _ :: _, [], _, h => nomatch h
  | a :: l, b :: m, hi, h => by
    rw [List.map_cons, List.map_cons] at h
    injection h with h1 h2
    rw [hi a (List.mem_cons_self ..) b (List.mem_cons_self ..) h1, map_injOn (fun x hx y hy => hi x (List.mem_cons_of_mem _ hx) y (List.mem_cons_of_mem _ hy)) h2]
theorem sortR_canon {rs qs : List Row} (p : rs.Perm qs) (hg : ∀ r ∈ qs, goodParts r.1 = true) : sortR rs = sortR qs := by
  refine map_injOn (f := rowD) (fun a ha b hb h => ?_) (by rw [sortR_map, sortR_map, sortD_rows p])
  exact rowD_inj (hg a (p.mem_iff.mp ((sortR_perm rs).mem_iff.mp ha))) (hg b ((sortR_perm qs).mem_iff.mp hb)) h
def benR (W : Wd) (vu v : V) : Res (List Row) := if userB W vu = false then .err (.no 3) else match roomV' W (userI vu) v with
  | .err e => .err e
  | .ok ss => if mayOf W (userI vu) (last ss).number 5 = false then .err (.right (userI vu) (last ss).number) else if 12 < ss.length then .err (.no 0) else if 200 < (benOf W (userI vu) ss).length then .err (.no 0) else .ok (benOf W (userI vu) ss)
theorem benR_plain {W : Wd} {vu v : V} {e : Err} (h : benR W vu v = .err e) : e.Plain := by
  unfold benR at h
  split at h
  · cases h; exact plain3
  · split at h
    · rename_i hx
      cases h
      exact roomV_plain hx
    · split at h
      · cases h; trivial
      · split at h
        · cases h; exact plain0
        · split at h
          · cases h; exact plain0
          · cases h
/-! ### in the heap -/
def nmAt (H : Hp) (v : V) : V := match v with
  | .ref a => match H a with
    | some (.ins _ _ fs) => (fs.lookup ("name" : Str)).getD .non
    | _ => .non
  | _ => .non
theorem nmAt_of {K : PySem.W.Frag} {H : Hp} {a : Addr} {z : Std} (h : StandAt K H a z) : nmAt H (.ref a) = .str z.name := by
  obtain ⟨dx, hz⟩ := h
  unfold nmAt
  simp only [hz]
  rfl
theorem nms_map {K : PySem.W.Frag} {H : Hp} : ∀ {as : List Addr} {ss : List Std}, Paired (StandAt K H) as ss → (as.map V.ref).map (nmAt H) = (ss.map (·.name)).map V.str
  | _, _, .nil => rfl
  | _, _, .cons h t => by
    rw [List.map_cons, List.map_cons, List.map_cons, List.map_cons, nms_map t, nmAt_of h]
theorem mask_up {S : List Addr} {H H' : Hp} (e : Ex H H') : Ex (mask S H) (mask S H') := fun a o h => by
  obtain ⟨h1, h2⟩ := mask_at.mp h
  exact mask_at.mpr ⟨h1, e _ _ h2⟩
theorem mask_same {S : List Addr} {H H' : Hp} {p : Addr} (hp : p ∈ S) (off : ∀ b, b ≠ p → H' b = H b) : Ex (mask S H) (mask S H') := fun a o h => by
  obtain ⟨h1, h2⟩ := mask_at.mp h
  refine mask_at.mpr ⟨h1, ?_⟩
  rw [off a fun z => h1 (by rw [z]; exact hp)]
  exact h2
structure BSt (K : PySem.W.Frag) (H0 : Hp) (pf pr : Addr) (W : Wd) (ws : List (Addr × Row)) (ts : List (Addr × List Std)) (H : Hp) : Prop where
  ex : Ex H0 (mask [pf, pr] H)
  f0 : H0 pf = none
  r0 : H0 pr = none
  ne : pf ≠ pr
  hf : H pf = some (.lst (ws.map fun w => V.ref w.1))
  hr : H pr = some (.lst (ts.map fun t => V.ref t.1))
  rw : ∀ w ∈ ws, RowAt (mask [pf, pr] H) w.1 w.2
  sk : ∀ t ∈ ts, StandsAt K (mask [pf, pr] H) t.1 t.2 ∧ SsOk W t.2
section
variable {K : PySem.W.Frag} {H0 H H' : Hp} {pf pr : Addr} {W : Wd} {ws : List (Addr × Row)} {ts : List (Addr × List Std)}
theorem BSt.up (b : BSt K H0 pf pr W ws ts H) (e : Ex H H') : BSt K H0 pf pr W ws ts H' :=
  ⟨b.ex.tr (mask_up e), b.f0, b.r0, b.ne, e _ _ b.hf, e _ _ b.hr, fun w hw => mask_up e _ _ (b.rw w hw), fun t ht => ⟨(b.sk t ht).1.up (mask_up e), (b.sk t ht).2⟩⟩
theorem BSt.found (b : BSt K H0 pf pr W ws ts H) {w : Addr × Row} (hw : RowAt (mask [pf, pr] H) w.1 w.2) (h1 : H' pf = some (.lst ((ws ++ [w]).map fun w => V.ref w.1))) (off : ∀ x, x ≠ pf → H' x = H x) : BSt K H0 pf pr W (ws ++ [w]) ts H' := by
  have m : Ex (mask [pf, pr] H) (mask [pf, pr] H') := mask_same (by simp) off
  refine ⟨b.ex.tr m, b.f0, b.r0, b.ne, h1, by rw [off _ b.ne.symm]; exact b.hr, fun x hx => ?_, fun t ht => ⟨(b.sk t ht).1.up m, (b.sk t ht).2⟩⟩
  rcases List.mem_append.mp hx with hx | hx
  · exact m _ _ (b.rw x hx)
  · rw [List.mem_singleton.mp hx]
    exact m _ _ hw
theorem BSt.rest (b : BSt K H0 pf pr W ws ts H) {ts' : List (Addr × List Std)} (hs : ∀ t ∈ ts', StandsAt K (mask [pf, pr] H) t.1 t.2 ∧ SsOk W t.2) (h1 : H' pr = some (.lst (ts'.map fun t => V.ref t.1))) (off : ∀ x, x ≠ pr → H' x = H x) : BSt K H0 pf pr W ws ts' H' := by
  have m : Ex (mask [pf, pr] H) (mask [pf, pr] H') := mask_same (by simp) off
  exact ⟨b.ex.tr m, b.f0, b.r0, b.ne, by rw [off _ b.ne]; exact b.hf, h1, fun x hx => m _ _ (b.rw x hx), fun t ht => ⟨(hs t ht).1.up m, (hs t ht).2⟩⟩
/-- what is new does not lie in the two lists -/
theorem BSt.fresh (b : BSt K H0 pf pr W ws ts H) (e : Ex H H') {p : Addr} {o : HO} (hp : H p = none) (h : H' p = some o) : mask [pf, pr] H' p = some o := by
  refine mask_at.mpr ⟨fun z => ?_, h⟩
  simp only [List.mem_cons, List.not_mem_nil, or_false] at z
  rcases z with rfl | rfl
  · rw [b.hf] at hp; cases hp
  · rw [b.hr] at hp; cases hp
end
theorem rows_paired {H : Hp} : ∀ (ws : List (Addr × Row)), (∀ w ∈ ws, RowAt H w.1 w.2) → Paired (RowAt H) (ws.map (·.1)) (ws.map (·.2))
  | [], _ => .nil
  | w :: ws, h => .cons (h w (List.mem_cons_self ..)) (rows_paired ws fun x hx => h x (List.mem_cons_of_mem _ hx))
theorem row_dp {K : PySem.W.Frag} {H : Hp} {a : Addr} {r : Row} (h : RowAt H a r) : Dp K H (.ref a) (rowD r) := .tup (SqT.of h) (.cons (.str _) (.cons (.str _) .nil))
end Tm

/-! all by names alone -/
namespace Tm
open PySem PySem.Spec PyProof.Rows L2
def allGo (W : Wd) : Nat → Nat → List Str → List Row
  | 0, _, _ => []
  | m + 1, n, ps => (W.at n).names.flatMap fun p => (ps ++ [p.1], (W.at p.2).kind) :: (if (W.at p.2).kind = "room" then allGo W m p.2 (ps ++ [p.1]) else [])
theorem all_same {W : Wd} : ∀ (n m x : Nat) (ps : List Str), Hgt W n x → n ≤ m → allGo W (m + 1) x ps = allGo W (n + 1) x ps := by
  have key : ∀ (n x : Nat) (ps : List Str), Hgt W n x → allGo W (n + 2) x ps = allGo W (n + 1) x ps := by
    intro n
    induction n with
    | zero =>
      intro x ps h
      have : ∀ l : List (Str × Nat), (∀ p ∈ l, p ∈ (W.at x).names) → (l.flatMap fun p => (ps ++ [p.1], (W.at p.2).kind) :: (if (W.at p.2).kind = "room" then allGo W 1 p.2 (ps ++ [p.1]) else [])) = l.flatMap fun p => (ps ++ [p.1], (W.at p.2).kind) :: (if (W.at p.2).kind = "room" then allGo W 0 p.2 (ps ++ [p.1]) else []) := by
        intro l hl
        induction l with
        | nil => rfl
        | cons p l ih =>
          rw [List.flatMap_cons, List.flatMap_cons, ih fun q hq => hl q (List.mem_cons_of_mem _ hq)]
          have nr : ¬ (W.at p.2).kind = "room" := fun z => h p.2 ⟨p.1, hl p (List.mem_cons_self ..), z⟩
          rw [if_neg nr, if_neg nr]
      exact this _ fun _ h => h
    | succ n ih0 =>
      intro x ps h
      have : ∀ l : List (Str × Nat), (∀ p ∈ l, p ∈ (W.at x).names) → (l.flatMap fun p => (ps ++ [p.1], (W.at p.2).kind) :: (if (W.at p.2).kind = "room" then allGo W (n + 2) p.2 (ps ++ [p.1]) else [])) = l.flatMap fun p => (ps ++ [p.1], (W.at p.2).kind) :: (if (W.at p.2).kind = "room" then allGo W (n + 1) p.2 (ps ++ [p.1]) else []) := by
        intro l hl
        induction l with
        | nil => rfl
        | cons p l ih =>
          rw [List.flatMap_cons, List.flatMap_cons, ih fun q hq => hl q (List.mem_cons_of_mem _ hq)]
          by_cases c : (W.at p.2).kind = "room"
          · rw [if_pos c, if_pos c, ih0 p.2 _ (h p.2 ⟨p.1, hl p (List.mem_cons_self ..), c⟩)]
          · rw [if_neg c, if_neg c]
      exact this _ fun _ h => h
  have up : ∀ (n x : Nat), Hgt W n x → Hgt W (n + 1) x := by
    intro n
    induction n with
    | zero => intro x h c k; exact (h c k).elim
    | succ n ih => intro x h c k; exact ih c (h c k)
  intro n m
  induction m with
  | zero =>
    intro x ps h hm
    have : n = 0 := by omega
    subst this
    rfl
  | succ m ih =>
    intro x ps h hm
    by_cases e : n = m + 1
    · subst e
      rfl
    · have hm' : n ≤ m := by omega
      rw [key m x ps ?_, ih x ps h hm']
      have : ∀ d, Hgt W (n + d) x := by
        intro d
        induction d with
        | zero => exact h
        | succ d ihd => exact up _ _ ihd
      have := this (m - n)
      rwa [show n + (m - n) = m by omega] at this
/-- all rows beneath a room, by names -/
def allOf (W : Wd) (n : Nat) (ps : List Str) : List Row := allGo W (W.nodes.length + 1) n ps
theorem all_eq {W : Wd} (ok : W.Ok) (t : Tree W) {n : Nat} {ps : List Str} : allOf W n ps = (W.at n).names.flatMap fun p => (ps ++ [p.1], (W.at p.2).kind) :: (if (W.at p.2).kind = "room" then allOf W p.2 (ps ++ [p.1]) else []) := by
  have h := t.hgt ok n (Nat.le_refl W.nodes.length)
  unfold allOf
  rw [← all_same _ (W.nodes.length + 1) n ps h (Nat.le_succ _)]
  rfl
/-- how many -/
theorem all_len {W : Wd} : ∀ (m n : Nat) (ps : List Str), (allGo W (m + 1) n ps).length = ((subGo W m n).map fun x => (W.at x).names.length).sum := by
  intro m
  induction m with
  | zero =>
    intro n ps
    show ((W.at n).names.flatMap fun p => (ps ++ [p.1], (W.at p.2).kind) :: (if (W.at p.2).kind = "room" then allGo W 0 p.2 (ps ++ [p.1]) else [])).length = _
    have : ∀ l : List (Str × Nat), (l.flatMap fun p => (ps ++ [p.1], (W.at p.2).kind) :: (if (W.at p.2).kind = "room" then allGo W 0 p.2 (ps ++ [p.1]) else [])).length = l.length := by
      intro l
      induction l with
      | nil => rfl
      | cons p l ih =>
        rw [List.flatMap_cons, List.length_append, ih, List.length_cons, List.length_cons]
        have : (if (W.at p.2).kind = "room" then allGo W 0 p.2 (ps ++ [p.1]) else []) = [] := by split <;> rfl
        rw [this]
        simp
        omega
    rw [this]
    simp [subGo]
  | succ m ih0 =>
    intro n ps
    show ((W.at n).names.flatMap fun p => (ps ++ [p.1], (W.at p.2).kind) :: (if (W.at p.2).kind = "room" then allGo W (m + 1) p.2 (ps ++ [p.1]) else [])).length = _
    have : ∀ l : List (Str × Nat), (l.flatMap fun p => (ps ++ [p.1], (W.at p.2).kind) :: (if (W.at p.2).kind = "room" then allGo W (m + 1) p.2 (ps ++ [p.1]) else [])).length = l.length + ((l.flatMap fun p => if (W.at p.2).kind = "room" then subGo W m p.2 else []).map fun x => (W.at x).names.length).sum := by
      intro l
      induction l with
      | nil => rfl
      | cons p l ih =>
        rw [List.flatMap_cons, List.flatMap_cons, List.length_append, ih, List.map_append, List.sum_append, List.length_cons, List.length_cons]
        by_cases c : (W.at p.2).kind = "room"
        · rw [if_pos c, if_pos c, ih0]
          omega
        · rw [if_neg c, if_neg c]
          simp
          omega
    rw [this]
    show _ = ((n :: (W.at n).names.flatMap fun p => if (W.at p.2).kind = "room" then subGo W m p.2 else []).map fun x => (W.at x).names.length).sum
    rw [List.map_cons, List.sum_cons]
/-- how many names there are -/
def namesN (W : Wd) : Nat := (W.nodes.map fun d => d.names.length).sum
theorem sum_sub {f : Nat → Nat} : ∀ (N : Nat) (l : List Nat), l.Nodup → (∀ x ∈ l, x < N) → (l.map f).sum ≤ ((List.range N).map f).sum := by
  intro N
  induction N with
  | zero =>
    intro l _ h
    cases l with
    | nil => exact Nat.le_refl _
    | cons a l => exact absurd (h a (List.mem_cons_self ..)) (Nat.not_lt_zero _)
  | succ N ih =>
    intro l hl h
    rw [List.range_succ, List.map_append, List.sum_append]
    by_cases c : N ∈ l
    · have p := List.perm_cons_erase c
      have h1 := ih (l.erase N) (hl.erase N) fun x hx => by
        have h2 := h x (List.mem_of_mem_erase hx)
        have h3 : x ≠ N := fun z => by
          rw [z] at hx
          exact (List.Nodup.not_mem_erase hl) hx
        omega
      have h2 := (p.map f).sum_nat
      rw [List.map_cons, List.sum_cons] at h2
      simp
      omega
    · have h1 := ih l hl fun x hx => by
        have h2 := h x hx
        have h3 : x ≠ N := fun z => c (by rw [← z]; exact hx)
        omega
      omega
theorem names_range (W : Wd) : ((List.range W.nodes.length).map fun x => (W.at x).names.length).sum = namesN W := by
  unfold namesN
  congr 1
  refine List.ext_getElem (by simp) fun i h1 h2 => ?_
  have hi : i < W.nodes.length := by simpa using h1
  rw [List.getElem_map, List.getElem_map, List.getElem_range]
  unfold Wd.at
  rw [List.getD_eq_getElem?_getD, List.getElem?_eq_getElem hi]
  rfl
theorem all_few {W : Wd} (ok : W.Ok) (t : Tree W) {n : Nat} {ps : List Str} (hn : n < W.nodes.length) : (allOf W n ps).length ≤ namesN W := by
  unfold allOf
  rw [all_len, ← names_range]
  exact sum_sub _ _ (sub_nodup ok t _ _) fun y hy => (sub_below _ _ hy).lt ok hn
/-! ### how deep rooms lie by names -/
structure Lev (W : Wd) (m : Nat) (dep : Nat → Nat) : Prop where
  top : dep 0 = 0
  kid : ∀ r c, Kid W r c → dep c = dep r + 1
  le : ∀ x, dep x ≤ m
theorem stand_plain {W : Wd} (ho : W.over = []) (k : Nat) (s : Str) : standOf W k s = ⟨k, s, none⟩ := by
  unfold standOf
  rw [ho]
  rfl
theorem Chain.deep {W : Wd} (ho : W.over = []) {m : Nat} {dep : Nat → Nat} (L : Lev W m dep) {ss : List Std} (h : Chain W ss) : ss.length = dep (last ss).number + 1 := by
  induction h with
  | top =>
    show 1 = dep 0 + 1
    rw [L.top]
  | step h1 h2 h3 h4 ih =>
    rename_i ss n k
    have : (last (ss ++ [standOf W k n])).number = k := by
      unfold last
      rw [List.getLastD_concat, stand_plain ho]
    rw [this, List.length_append, List.length_singleton, ih, L.kid _ _ ⟨n, look_mem h2, h3⟩]
/-- ranks rise along a chain -/
theorem Chain.anc {W : Wd} (ho : W.over = []) {rank : Nat → Nat} (hr : ∀ r c, Kid W r c → rank r < rank c) {ss : List Std} (h : Chain W ss) : ∀ z ∈ ss, rank z.number ≤ rank (last ss).number := by
  induction h with
  | top => intro z hz; rw [List.mem_singleton.mp hz]; exact Nat.le_refl _
  | step h1 h2 h3 h4 ih =>
    rename_i ss n k
    have e : last (ss ++ [standOf W k n]) = standOf W k n := by
      unfold last
      rw [List.getLastD_concat]
    have hk : rank (last ss).number < rank k := hr _ _ ⟨n, look_mem h2, h3⟩
    intro z hz
    rw [e, stand_plain ho]
    rcases List.mem_append.mp hz with hz | hz
    · exact Nat.le_trans (ih z hz) (Nat.le_of_lt hk)
    · rw [List.mem_singleton.mp hz, stand_plain ho]
      exact Nat.le_refl _
/-- nothing hangs: what the keeper sees beneath is all, by names -/
theorem ben_all {W : Wd} (ok : W.Ok) (t : Tree W) (ho : W.over = []) {dep : Nat → Nat} (L : Lev W 11 dep) : ∀ (m : Nat) {ss : List Std}, Chain W ss → benGo W 0 m ss = allGo W m (last ss).number (tailNm ss)
  | 0, ss, h => rfl
  | m + 1, ss, h => by
    obtain ⟨rank, hr⟩ := t.rk
    have key : ∀ l : List (Str × Nat), (∀ p ∈ l, p ∈ (W.at (last ss).number).names) → (l.flatMap fun p => (tailNm ss ++ [p.1], (W.at p.2).kind) :: (if goIn W 0 ss p = true then benGo W 0 m (ss ++ [standOf W p.2 p.1]) else [])) = l.flatMap fun p => (tailNm ss ++ [p.1], (W.at p.2).kind) :: (if (W.at p.2).kind = "room" then allGo W m p.2 (tailNm ss ++ [p.1]) else []) := by
      intro l hl
      induction l with
      | nil => rfl
      | cons p l ih =>
        rw [List.flatMap_cons, List.flatMap_cons, ih fun q hq => hl q (List.mem_cons_of_mem _ hq)]
        have hp := hl p (List.mem_cons_self ..)
        by_cases c : (W.at p.2).kind = "room"
        · have kid : Kid W (last ss).number p.2 := ⟨p.1, hp, c⟩
          have hnm := ((ok.at (name_lt (n := p.1) (c := p.2) hp)).nam p hp).1
          have ch : Chain W (ss ++ [standOf W p.2 p.1]) := .step h (look_of_mem ok hp) c hnm
          have hg : goIn W 0 ss p = true := by
            unfold goIn
            rw [decide_eq_true c, stand_plain ho]
            have n1 : p.2 ∉ ss.map (·.number) := fun z => by
              obtain ⟨y, hy, e⟩ := List.mem_map.mp z
              have h1 := h.anc ho hr y hy
              have h2 := hr _ _ kid
              rw [e] at h1
              omega
            have n2 : ss.length < 12 := by
              rw [h.deep ho L]
              have h1 := L.kid _ _ kid
              have h2 := L.le p.2
              omega
            rw [decide_eq_true n1, decide_eq_true n2, may0]
            rfl
          rw [if_pos hg, if_pos c, ben_all ok t ho L m ch]
          have e1 : (last (ss ++ [standOf W p.2 p.1])).number = p.2 := by
            unfold last
            rw [List.getLastD_concat, stand_plain ho]
          have e2 : tailNm (ss ++ [standOf W p.2 p.1]) = tailNm ss ++ [p.1] := by
            unfold tailNm
            rw [tail_snoc h.ne, List.map_append, stand_plain ho]
            rfl
          rw [e1, e2]
        · have hg : goIn W 0 ss p = false := by
            unfold goIn
            rw [decide_eq_false c]
            rfl
          rw [if_neg (by rw [hg]; decide), if_neg c]
    exact key _ fun _ h => h
/-! ### the worlds that are built: how deep, how many names -/
theorem place_cut {W : Wd} {u : Int} {ps : List Str} {ss : List Std} {n : Str} (hg : goodParts ps = true) (h : placeV W u (.str (pathOf ps)) = .ok ss n) : ∃ qs, ps = qs ++ [n] ∧ isName n = true ∧ wayOf W u true qs = .ok ss none := by
  rcases List.eq_nil_or_concat ps with rfl | ⟨qs, m, rfl⟩
  · rw [place_top] at h
    cases h
  · rw [List.concat_eq_append] at h hg ⊢
    cases hn : isName m with
    | false =>
      rw [place_bad hg hn] at h
      cases h
    | true =>
      rw [place_snoc hg hn] at h
      cases hw : wayOf W u true qs with
      | stuck => rw [hw] at h; cases h
      | err e => rw [hw] at h; cases h
      | ok st num =>
        rw [hw] at h
        cases num with
        | some k => cases h
        | none =>
          have h : (if mayOf W u (last st).number 3 = true then PlR.ok st m else .err (.right u (last st).number)) = .ok ss n := h
          split at h
          · cases h
            exact ⟨qs, rfl, hn, hw⟩
          · cases h
theorem lev_made {W : Wd} (ok : W.Ok) {r m : Nat} {n : Str} {d : Nd} (hr : r < W.nodes.length) (hd : d.names = []) {dep : Nat → Nat} (L : Lev W m dep) (hm : dep r + 1 ≤ m) : ∃ dep', Lev (madeW W r n d) m dep' := by
  have hl : (W.add d).nodes.length = W.nodes.length + 1 := Wd.add_len
  have at_ : ∀ j, (madeW W r n d).at j = if j = r then (W.at r).name n W.nodes.length else (W.add d).at j := fun j => Wd.at_put (by rw [hl]; omega)
  have nm : ∀ j p, p ∈ ((madeW W r n d).at j).names → (p ∈ (W.at j).names ∧ p.2 < W.nodes.length) ∨ (j = r ∧ p = (n, W.nodes.length)) := by
    intro j p h
    rw [at_] at h
    split at h
    · rename_i e
      subst e
      rcases List.mem_append.mp h with h | h
      · exact .inl ⟨h, name_lt2 ok h⟩
      · exact .inr ⟨rfl, List.mem_singleton.mp h⟩
    · by_cases c : j < W.nodes.length
      · rw [Wd.add_at c] at h
        exact .inl ⟨h, name_lt2 ok h⟩
      · by_cases c2 : j = W.nodes.length
        · subst c2
          rw [Wd.add_new, hd] at h
          cases h
        · rw [at_big (by rw [hl]; omega)] at h
          cases h
  have kd : ∀ j, j < W.nodes.length → ((madeW W r n d).at j).kind = (W.at j).kind := by
    intro j hj
    rw [at_]
    split
    · rename_i e
      subst e
      rfl
    · rw [Wd.add_at hj]
  refine ⟨fun x => if x = W.nodes.length then dep r + 1 else dep x, ?_, fun a b ⟨s, h1, h2⟩ => ?_, fun x => ?_⟩
  · have := ok.one
    show (if 0 = W.nodes.length then dep r + 1 else dep 0) = 0
    rw [if_neg (by omega)]
    exact L.top
  · rcases nm a _ h1 with ⟨h, hb⟩ | ⟨rfl, h⟩
    · have ha := name_lt h
      dsimp only at hb ⊢
      rw [if_neg (by omega), if_neg (by omega)]
      exact L.kid a b ⟨s, h, by rw [← kd b hb]; exact h2⟩
    · injection h with _ h4
      show (if b = W.nodes.length then dep a + 1 else dep b) = (if a = W.nodes.length then dep a + 1 else dep a) + 1
      rw [if_pos h4, if_neg (by omega)]
  · show (if x = W.nodes.length then dep r + 1 else dep x) ≤ m
    split
    · exact hm
    · exact L.le x
theorem Reach.lev {W : Wd} {k : Nat} (h : Reach W k) : ∃ dep, Lev W 11 dep := by
  induction h with
  | start => exact ⟨fun _ => 0, rfl, fun r c ⟨n, h1, _⟩ => (by
      have hr := name_lt h1
      have e : r = 0 := by
        have : (w0 [7, 7, 9]).nodes.length = 1 := rfl
        omega
      subst e
      cases h1), fun _ => Nat.zero_le _⟩
  | make hR ok hf gd ih =>
    obtain ⟨dep, L⟩ := ih
    obtain ⟨h1, h2⟩ := free_place hf
    obtain ⟨qs, e, hn, hw⟩ := place_cut gd.ps h1
    have ho := hR.small.2.2
    have ch := (wayOf_chain ok hw).1
    have sh := wayOf_short ok hR.two hw
    have dd := ch.deep ho L
    have p3 := gd.p3
    rw [e, List.length_append, List.length_singleton] at p3
    refine lev_made ok (free_lt ok hf) rfl L ?_
    simp at sh
    omega
theorem sum_set {α : Type} (f : α → Nat) (d0 : α) : ∀ (l : List α) (i : Nat) (x : α), i < l.length → ((l.set i x).map f).sum + f (l.getD i d0) = (l.map f).sum + f x
  | [], i, x, h => absurd h (Nat.not_lt_zero _)
  | a :: l, 0, x, h => by
    simp
    omega
  | a :: l, i + 1, x, h => by
    have ih := sum_set f d0 l i x (Nat.lt_of_succ_lt_succ h)
    rw [List.set_cons_succ, List.map_cons, List.sum_cons, List.map_cons, List.sum_cons, List.getD_cons_succ]
    omega
theorem names_put {W : Wd} {i : Nat} {d : Nd} (hi : i < W.nodes.length) : namesN (W.put i d) + (W.at i).names.length = namesN W + d.names.length := sum_set (fun d : Nd => d.names.length) nd0 W.nodes i d hi
theorem names_made {W : Wd} {r : Nat} {n : Str} {d : Nd} (hr : r < W.nodes.length) (hd : d.names = []) : namesN (madeW W r n d) = namesN W + 1 := by
  have h1 := names_put (W := W.add d) (i := r) (d := (W.at r).name n W.nodes.length) (by rw [Wd.add_len]; omega)
  rw [Wd.add_at hr] at h1
  have h2 : namesN (W.add d) = namesN W := by
    unfold namesN Wd.add
    dsimp only
    rw [List.map_append, List.sum_append]
    simp [hd]
  have h3 : ((W.at r).name n W.nodes.length).names.length = (W.at r).names.length + 1 := by
    unfold Nd.name
    simp
  have h4 : namesN (madeW W r n d) = namesN ((W.add d).put r ((W.at r).name n W.nodes.length)) := rfl
  omega
theorem Reach.names {W : Wd} {k : Nat} (h : Reach W k) : namesN W ≤ k := by
  induction h with
  | start => exact Nat.le_refl _
  | make hR ok hf gd ih =>
    rw [names_made (free_lt ok hf) rfl]
    omega
/-- what the keeper sees beneath the top of a world that is built -/
theorem Reach.ben {W : Wd} {k : Nat} (h : Reach W k) (ok : W.Ok) (hk : k ≤ 200) : benR W (.int 0) (.str (pathOf [])) = .ok (allOf W 0 []) := by
  obtain ⟨dep, L⟩ := h.lev
  obtain ⟨sm, gr, ho⟩ := h.small
  have hb : userB W (.int 0) = true := userB_of (by decide) (by rw [gr]; decide)
  have hw : wayOf W 0 true [] = .ok [std0] none := rfl
  have hrm : roomV' W 0 (.str (pathOf [])) = .ok [std0] := by
    rw [room_path rfl]
    unfold roomW
    rw [hw]
  have hall : benOf W 0 [std0] = allOf W 0 [] := by
    unfold benOf allOf
    rw [ben_all ok h.tree ho L _ .top]
    show allGo W 12 0 [] = allGo W (W.nodes.length + 1) 0 []
    have hg : Hgt W 11 0 := by
      have key : ∀ n x, 11 ≤ n + dep x → Hgt W n x := by
        intro n
        induction n with
        | zero =>
          intro x hx c kid
          have h1 := L.kid _ _ kid
          have h2 := L.le c
          omega
        | succ n ih =>
          intro x hx c kid
          exact ih c (by have h1 := L.kid _ _ kid; omega)
      exact key 11 0 (by omega)
    have hg2 := h.tree.hgt ok 0 (Nat.le_refl W.nodes.length)
    by_cases c : W.nodes.length ≤ 11
    · exact all_same _ 11 0 [] hg2 c
    · exact (all_same _ W.nodes.length 0 [] hg (by omega)).symm
  unfold benR
  rw [if_neg (by rw [hb]; decide), show userI (.int 0) = 0 from rfl, hrm]
  dsimp only
  rw [if_neg (by rw [may0]; decide), if_neg (by decide), hall, if_neg]
  have := all_few ok h.tree (n := 0) (ps := []) ok.one
  have := h.names
  omega
/-! ### the law's own walk -/
def RestAt (H : Hp) (a : Addr) (t : Nat × List Str) : Prop := H a = some (.tup [.int t.1, .str (headT t.2)])
structure AOk (W : Wd) (dep : Nat → Nat) (t : Nat × List Str) : Prop where
  lt : t.1 < W.nodes.length
  len : t.2.length = dep t.1
  nm : ∀ s ∈ t.2, isName s = true
def allT (W : Wd) (t : Nat × List Str) : List Row := allOf W t.1 t.2
def weighA (W : Wd) (ts : List (Nat × List Str)) : Nat := (ts.map fun t => (allT W t).length + 1).sum
theorem weighA_app {W : Wd} {a b : List (Nat × List Str)} : weighA W (a ++ b) = weighA W a + weighA W b := by
  unfold weighA
  rw [List.map_append, List.sum_append]
def itemA (W : Wd) (t : Nat × List Str) (p : Str × Nat) : List Row := (t.2 ++ [p.1], (W.at p.2).kind) :: (if (W.at p.2).kind = "room" then allT W (p.2, t.2 ++ [p.1]) else [])
theorem itemA_eq {W : Wd} {t : Nat × List Str} {p : Str × Nat} : itemA W t p = (t.2 ++ [p.1], (W.at p.2).kind) :: (if (W.at p.2).kind = "room" then allT W (p.2, t.2 ++ [p.1]) else []) := rfl
theorem allT_eq {W : Wd} (ok : W.Ok) (tr : Tree W) {t : Nat × List Str} : allT W t = (W.at t.1).names.flatMap (itemA W t) := all_eq ok tr
structure ASt (H0 : Hp) (pf pr : Addr) (W : Wd) (dep : Nat → Nat) (ws : List (Addr × Row)) (ts : List (Addr × (Nat × List Str))) (H : Hp) : Prop where
  ex : Ex H0 (mask [pf, pr] H)
  ne : pf ≠ pr
  hf : H pf = some (.lst (ws.map fun w => V.ref w.1))
  hr : H pr = some (.lst (ts.map fun t => V.ref t.1))
  rw : ∀ w ∈ ws, RowAt (mask [pf, pr] H) w.1 w.2
  sk : ∀ t ∈ ts, RestAt (mask [pf, pr] H) t.1 t.2 ∧ AOk W dep t.2
section
variable {H0 H H' : Hp} {pf pr : Addr} {W : Wd} {dep : Nat → Nat} {ws : List (Addr × Row)} {ts : List (Addr × (Nat × List Str))}
theorem ASt.up (b : ASt H0 pf pr W dep ws ts H) (e : Ex H H') : ASt H0 pf pr W dep ws ts H' :=
  ⟨b.ex.tr (mask_up e), b.ne, e _ _ b.hf, e _ _ b.hr, fun w hw => mask_up e _ _ (b.rw w hw), fun t ht => ⟨mask_up e _ _ (b.sk t ht).1, (b.sk t ht).2⟩⟩
theorem ASt.found (b : ASt H0 pf pr W dep ws ts H) {w : Addr × Row} (hw : RowAt (mask [pf, pr] H) w.1 w.2) (h1 : H' pf = some (.lst ((ws ++ [w]).map fun w => V.ref w.1))) (off : ∀ x, x ≠ pf → H' x = H x) : ASt H0 pf pr W dep (ws ++ [w]) ts H' := by
  have m : Ex (mask [pf, pr] H) (mask [pf, pr] H') := mask_same (by simp) off
  refine ⟨b.ex.tr m, b.ne, h1, by rw [off _ b.ne.symm]; exact b.hr, fun x hx => ?_, fun t ht => ⟨m _ _ (b.sk t ht).1, (b.sk t ht).2⟩⟩
  rcases List.mem_append.mp hx with hx | hx
  · exact m _ _ (b.rw x hx)
  · rw [List.mem_singleton.mp hx]
    exact m _ _ hw
theorem ASt.rest (b : ASt H0 pf pr W dep ws ts H) {ts' : List (Addr × (Nat × List Str))} (hs : ∀ t ∈ ts', RestAt (mask [pf, pr] H) t.1 t.2 ∧ AOk W dep t.2) (h1 : H' pr = some (.lst (ts'.map fun t => V.ref t.1))) (off : ∀ x, x ≠ pr → H' x = H x) : ASt H0 pf pr W dep ws ts' H' := by
  have m : Ex (mask [pf, pr] H) (mask [pf, pr] H') := mask_same (by simp) off
  exact ⟨b.ex.tr m, b.ne, by rw [off _ b.ne]; exact b.hf, h1, fun x hx => m _ _ (b.rw x hx), fun t ht => ⟨m _ _ (hs t ht).1, (hs t ht).2⟩⟩
theorem ASt.fresh (b : ASt H0 pf pr W dep ws ts H) {p : Addr} {o : HO} (hp : H p = none) (h : H' p = some o) : mask [pf, pr] H' p = some o := by
  refine mask_at.mpr ⟨fun z => ?_, h⟩
  simp only [List.mem_cons, List.not_mem_nil, or_false] at z
  rcases z with rfl | rfl
  · rw [b.hf] at hp; cases hp
  · rw [b.hr] at hp; cases hp
end
/-- a dict that is walked, and then is not -/
theorem mask_off {S : List Addr} {H H' : Hp} {d : Addr} (off : ∀ b, b ≠ d → H' b = H b) {a : Addr} (ha : a ≠ d) : mask S H' a = mask S H a := by
  unfold mask
  split
  · rfl
  · exact off a ha
theorem AOk.good {W : Wd} {dep : Nat → Nat} (L : Lev W 11 dep) {t : Nat × List Str} (h : AOk W dep t) {s : Str} (hs : isName s = true) : goodParts (t.2 ++ [s]) = true := by
  refine good_of ?_ fun p hp => ?_
  · rw [List.length_append, List.length_singleton, h.len]
    have := L.le t.1
    omega
  · rcases List.mem_append.mp hp with hp | hp
    · exact name_part (h.nm p hp)
    · rw [List.mem_singleton.mp hp]
      exact name_part hs
theorem AOk.step {W : Wd} {dep : Nat → Nat} (ok : W.Ok) (L : Lev W 11 dep) {t : Nat × List Str} (h : AOk W dep t) {p : Str × Nat} (hp : p ∈ (W.at t.1).names) (hk : (W.at p.2).kind = "room") : AOk W dep (p.2, t.2 ++ [p.1]) := by
  have hn := (ok.at h.lt).nam p hp
  refine ⟨hn.2, ?_, fun s hs => ?_⟩
  · rw [List.length_append, List.length_singleton, h.len]
    exact (L.kid _ _ ⟨p.1, hp, hk⟩).symm
  · rcases List.mem_append.mp hs with hs | hs
    · exact h.nm s hs
    · rw [List.mem_singleton.mp hs]
      exact hn.1
theorem AOk.rows {W : Wd} {dep : Nat → Nat} (ok : W.Ok) (tr : Tree W) (L : Lev W 11 dep) : ∀ (m : Nat) {t : Nat × List Str}, AOk W dep t → ∀ r ∈ allGo W m t.1 t.2, goodParts r.1 = true ∧ ∃ n, r.1.getLast? = some n ∧ isName n = true
  | 0, t, h, r, hr => by cases hr
  | m + 1, t, h, r, hr => by
    unfold allGo at hr
    obtain ⟨p, hp, hr⟩ := List.mem_flatMap.mp hr
    have hn := (ok.at h.lt).nam p hp
    rcases List.mem_cons.mp hr with rfl | hr
    · exact ⟨h.good L hn.1, p.1, by simp, hn.1⟩
    · split at hr
      · rename_i hk
        exact AOk.rows ok tr L m (h.step ok L hp hk) r hr
      · cases hr
/-! ### rows as data -/
theorem depth_le {n : Nat} : ∀ {ds : List PyData}, (∀ d ∈ ds, d.depth ≤ n) → PyData.depthAll ds ≤ n
  | [], _ => by simp [PyData.depthAll]
  | d :: r, h => by
    have h1 := h d (List.mem_cons_self ..)
    have h2 := depth_le (ds := r) fun x hx => h x (List.mem_cons_of_mem _ hx)
    rw [PyData.depthAll]
    omega
theorem shaped_list {ds : List PyData} (h1 : ∀ d ∈ ds, d.depth ≤ 8) (h2 : ∀ d ∈ ds, d.canLay0 = true) : SeqAt.shaped (.list ds) = true := by
  have h := depth_le h1
  unfold SeqAt.shaped
  rw [PyData.canLay0, lay_all ds h2, PyData.depth]
  simp
  omega
theorem row_lay {r : Row} (h1 : goodParts r.1 = true) (h2 : PyData.strOk r.2 = true) : (rowD r).canLay0 = true := by
  have h3 := path_ok (good_all h1).2
  simp [rowD, PyData.canLay0, PyData.canLayAll0, h2, h3]
theorem shaped_rows {rs : List Row} (h : ∀ r ∈ rs, goodParts r.1 = true ∧ PyData.strOk r.2 = true) : SeqAt.shaped (.list (rs.map rowD)) = true := by
  refine shaped_list (fun d hd => ?_) (fun d hd => ?_)
  · obtain ⟨r, _, rfl⟩ := List.mem_map.mp hd
    exact row_depth r
  · obtain ⟨r, hr, rfl⟩ := List.mem_map.mp hd
    exact row_lay (h r hr).1 (h r hr).2
theorem rows_dp {K : PySem.W.Frag} {H : Hp} {p : Addr} {as : List Addr} {rs : List Row} (hp : H p = some (.lst (as.map V.ref))) (h : Paired (RowAt H) as rs) : Dp K H (.ref p) (.list (rs.map rowD)) := by
  refine .lst (SqL.of hp) ?_
  clear hp
  induction h with
  | nil => exact .nil
  | cons h t ih => exact .cons (row_dp h) ih
theorem paired_up {α β : Type} {F G : α → β → Prop} (h : ∀ a b, F a b → G a b) {l : List α} {m : List β} (p : Paired F l m) : Paired G l m := L2.Paired.mapP p h
theorem knd_ok {s : Str} (h : s = "room" ∨ s = "leaf" ∨ s = "hint") : PyData.strOk s = true := by
  rcases h with h | h | h <;> rw [h] <;> decide +kernel
theorem all_kinds {W : Wd} (ok : W.Ok) : ∀ (m n : Nat) (ps : List Str), n < W.nodes.length → ∀ r ∈ allGo W m n ps, r.2 = "room" ∨ r.2 = "leaf" ∨ r.2 = "hint"
  | 0, n, ps, hn, r, hr => by cases hr
  | m + 1, n, ps, hn, r, hr => by
    unfold allGo at hr
    obtain ⟨p, hp, hr⟩ := List.mem_flatMap.mp hr
    have h2 := name_lt2 ok (show (p.1, p.2) ∈ _ from hp)
    rcases List.mem_cons.mp hr with rfl | hr
    · exact (ok.at h2).knd
    · split at hr
      · exact all_kinds ok m _ _ h2 r hr
      · cases hr
/-! ### how many rows there can be, whatever hangs -/
def outN (W : Wd) (S : List Nat) : Nat := ((List.range W.nodes.length).map fun r => if r ∈ S then 0 else (W.at r).names.length).sum
theorem sum_drop {f g : Nat → Nat} {x : Nat} : ∀ (N : Nat), x < N → (∀ r, r ≠ x → g r = f r) → g x = 0 → ((List.range N).map g).sum + f x = ((List.range N).map f).sum := by
  intro N
  induction N with
  | zero => intro h; exact absurd h (Nat.not_lt_zero _)
  | succ N ih =>
    intro hx hg h0
    rw [List.range_succ, List.map_append, List.sum_append, List.map_append, List.sum_append]
    by_cases c : x = N
    · subst c
      have : (List.range x).map g = (List.range x).map f := List.map_congr_left fun r hr => hg r (by have := List.mem_range.mp hr; omega)
      rw [this]
      simp [h0]
    · have := ih (by omega) hg h0
      have e := hg N (fun z => c z.symm)
      simp [e]
      omega
theorem out_cons {W : Wd} {S : List Nat} {x : Nat} (hx : x < W.nodes.length) (hn : x ∉ S) : outN W (S ++ [x]) + (W.at x).names.length = outN W S := by
  have := sum_drop (f := fun r => if r ∈ S then 0 else (W.at r).names.length) (g := fun r => if r ∈ S ++ [x] then 0 else (W.at r).names.length) (x := x) W.nodes.length hx (fun r hr => by
    have : r ∈ S ++ [x] ↔ r ∈ S := by simp [hr]
    by_cases c : r ∈ S
    · simp [c]
    · simp [c, hr]) (by simp)
  unfold outN
  have e : (if x ∈ S then 0 else (W.at x).names.length) = (W.at x).names.length := if_neg hn
  rw [← this]
  show _ = _ + (if x ∈ S then 0 else (W.at x).names.length)
  rw [e]
theorem out_le {W : Wd} {S : List Nat} {x : Nat} (hx : x < W.nodes.length) (hs : x ∈ S) : outN W S + (W.at x).names.length ≤ namesN W := by
  have key : ∀ (N : Nat), x < N → ((List.range N).map fun r => if r ∈ S then 0 else (W.at r).names.length).sum + (W.at x).names.length ≤ ((List.range N).map fun r => (W.at r).names.length).sum := by
    intro N
    induction N with
    | zero => intro h; exact absurd h (Nat.not_lt_zero _)
    | succ N ih =>
      intro hx
      rw [List.range_succ, List.map_append, List.sum_append, List.map_append, List.sum_append]
      have le : ∀ M, ((List.range M).map fun r => if r ∈ S then 0 else (W.at r).names.length).sum ≤ ((List.range M).map fun r => (W.at r).names.length).sum := by
        intro M
        induction M with
        | zero => exact Nat.le_refl _
        | succ M ih =>
          rw [List.range_succ, List.map_append, List.sum_append, List.map_append, List.sum_append]
          have : (if M ∈ S then 0 else (W.at M).names.length) ≤ (W.at M).names.length := by split <;> omega
          simp
          omega
      by_cases c : x = N
      · subst c
        have := le x
        simp [hs]
        omega
      · have := ih (by omega)
        have : (if N ∈ S then 0 else (W.at N).names.length) ≤ (W.at N).names.length := by split <;> omega
        simp
        omega
  rw [← names_range]
  exact key _ hx
theorem two_pow (n : Nat) : 1 + n ≤ 2 ^ n := by
  induction n with
  | zero => exact Nat.le_refl _
  | succ n ih =>
    rw [Nat.pow_succ]
    omega
theorem ben_bound {W : Wd} (ok : W.Ok) {u : Int} : ∀ (m : Nat) (ss : List Std), ss ≠ [] → (∀ z ∈ ss, z.number < W.nodes.length) → (benGo W u m ss).length + 1 ≤ (1 + (W.at (last ss).number).names.length) * 2 ^ outN W (ss.map (·.number))
  | 0, ss, hne, hlt => by
    have : 1 ≤ 2 ^ outN W (ss.map (·.number)) := Nat.one_le_two_pow
    show 0 + 1 ≤ _
    calc 0 + 1 ≤ (1 + (W.at (last ss).number).names.length) * 1 := by omega
      _ ≤ _ := Nat.mul_le_mul_left _ this
  | m + 1, ss, hne, hlt => by
    have h1 : 1 ≤ 2 ^ outN W (ss.map (·.number)) := Nat.one_le_two_pow
    have key : ∀ l : List (Str × Nat), (∀ p ∈ l, p ∈ (W.at (last ss).number).names) → (l.flatMap fun p => (tailNm ss ++ [p.1], (W.at p.2).kind) :: (if goIn W u ss p = true then benGo W u m (ss ++ [standOf W p.2 p.1]) else [])).length ≤ l.length * 2 ^ outN W (ss.map (·.number)) := by
      intro l hl
      induction l with
      | nil => simp
      | cons p l ih =>
        rw [List.flatMap_cons, List.length_append, List.length_cons, List.length_cons, Nat.succ_mul]
        have ih' := ih fun q hq => hl q (List.mem_cons_of_mem _ hq)
        have hp : (if goIn W u ss p = true then benGo W u m (ss ++ [standOf W p.2 p.1]) else []).length + 1 ≤ 2 ^ outN W (ss.map (·.number)) := by
          split
          · rename_i hg
            have hk := name_lt2 ok (show (p.1, p.2) ∈ _ from hl p (List.mem_cons_self ..))
            have hst := stand_lt ok p.1 hk
            have hn : (standOf W p.2 p.1).number ∉ ss.map (·.number) := by
              unfold goIn at hg
              simp only [Bool.and_eq_true, decide_eq_true_eq] at hg
              exact hg.2.1
            have hr := ben_bound ok (u := u) m (ss ++ [standOf W p.2 p.1]) (by simp) (fun z hz => by
              rcases List.mem_append.mp hz with hz | hz
              · exact hlt z hz
              · rw [List.mem_singleton.mp hz]
                exact hst)
            have e1 : last (ss ++ [standOf W p.2 p.1]) = standOf W p.2 p.1 := by
              unfold last
              rw [List.getLastD_concat]
            have e2 : (ss ++ [standOf W p.2 p.1]).map (·.number) = ss.map (·.number) ++ [(standOf W p.2 p.1).number] := by simp
            rw [e1, e2] at hr
            have oc := out_cons hst hn
            refine Nat.le_trans hr ?_
            rw [← oc, Nat.pow_add, Nat.mul_comm]
            exact Nat.mul_le_mul_left _ (two_pow _)
          · simpa using h1
        omega
    have := key _ fun _ h => h
    show ((W.at (last ss).number).names.flatMap fun p => (tailNm ss ++ [p.1], (W.at p.2).kind) :: (if goIn W u ss p = true then benGo W u m (ss ++ [standOf W p.2 p.1]) else [])).length + 1 ≤ _
    rw [Nat.add_mul, Nat.one_mul]
    omega
theorem ben_few {W : Wd} (ok : W.Ok) {u : Int} {m : Nat} {ss : List Std} (hne : ss ≠ []) (hlt : ∀ z ∈ ss, z.number < W.nodes.length) : (benGo W u m ss).length + 1 ≤ 2 ^ namesN W := by
  have hl := last_lt hne hlt
  refine Nat.le_trans (ben_bound ok m ss hne hlt) ?_
  have h1 := out_le (S := ss.map (·.number)) hl (List.mem_map_of_mem (f := (·.number)) (last_mem hne))
  calc (1 + (W.at (last ss).number).names.length) * 2 ^ outN W (ss.map (·.number)) ≤ 2 ^ (W.at (last ss).number).names.length * 2 ^ outN W (ss.map (·.number)) := Nat.mul_le_mul_right _ (two_pow _)
    _ = 2 ^ ((W.at (last ss).number).names.length + outN W (ss.map (·.number))) := (Nat.pow_add ..).symm
    _ ≤ _ := Nat.pow_le_pow_right (by decide) (by omega)
/-! ### more readings -/
section
variable {H : Hp} {Q : VK}
theorem x_dinR {a : Addr} {neg : Bool} {kvs : List (Key × V)} {k : Int} (h : Rd H a (.dK kvs)) (q : Q (.bl (if neg = true then !(valV kvs (.inl k)).isSome else (valV kvs (.inl k)).isSome)) H) : DInK neg (.ref a) (.int k) H Q := ⟨a, _, rfl, .inl ⟨kvs, .inl k, h, rfl, rfl⟩, q⟩
theorem x_dgetIR {a : Addr} {kvs : List (Key × V)} {k : Int} {v : V} (h : Rd H a (.dK kvs)) (l : valV kvs (.inl k) = some v) (q : Q v H) : DGetK (.ref a) (.int k) H Q := ⟨a, v, rfl, .inl ⟨kvs, .inl k, h, rfl, l.symm⟩, q⟩
theorem x_catB {a b : Addr} {xs ys : List V} (ha : H a = some (.lst xs)) (hb : H b = some (.lst ys)) (hz : xs.length + ys.length ≤ sizeLine) (q : ∀ p H1, H p = none → Ex H H1 → H1 p = some (.lst (xs ++ ys)) → Q (.ref p) H1) : rCat (.ref a) (.ref b) H Q :=
  ⟨a, b, xs, ys, rfl, rfl, ha, hb, hz, fun p hp => q p _ hp (Ex.new hp) upd_same⟩
end
theorem overGo_fst {ov : List (Nat × Nat)} : ∀ (m n : Nat) (u v : Option Nat), (overGo ov m n u).1 = (overGo ov m n v).1
  | 0, n, u, v => rfl
  | m + 1, n, u, v => by
    unfold overGo
    split
    · rfl
    · exact overGo_fst m _ _ _
theorem joinL_strokes : ∀ (n : Str) (ns : List Str), TL.joinL [] ((n :: ns).map fun n => 47 :: cs n) = 47 :: TL.joinL [47] ((n :: ns).map cs)
  | n, [] => rfl
  | n, m :: ns => by
    have ih := joinL_strokes m ns
    show (47 :: cs n) ++ ([] ++ TL.joinL [] ((m :: ns).map fun n => 47 :: cs n)) = 47 :: (cs n ++ ([47] ++ TL.joinL [47] ((m :: ns).map cs)))
    rw [ih]
    rfl
theorem join_strokes (ns : List Str) : Txt.join (Str.ofString "") (ns.map fun n => sl ++ n) = headT ns := by
  have h1 : Txt.join (Str.ofString "") (ns.map fun n => sl ++ n) = Str.join (Str.ofString "") (ns.map fun n => sl ++ n) := TL.join_eq _ _
  have h2 : cs (Str.ofString "") = [] := by decide +kernel
  have h3 : cs (Txt.join (Str.ofString "") (ns.map fun n => sl ++ n)) = TL.joinL [] ((ns.map fun n => sl ++ n).map cs) := by
    rw [h1, ← h2]
    exact TL.tl_join _ _
  refine ext_cs ?_
  rw [h3, List.map_map]
  have e : (cs ∘ fun n => sl ++ n) = fun n => 47 :: cs n := by
    funext n
    show cs (sl ++ n) = _
    rw [cs_cat, cs_sl]
    rfl
  rw [e]
  cases ns with
  | nil =>
    unfold headT
    rw [if_pos rfl]
    exact h2.symm
  | cons n ns =>
    unfold headT
    rw [if_neg (by simp), cs_path]
    exact joinL_strokes n ns
theorem stroke_len (n : Str) : (sl ++ n).length = n.length + 1 := by
  rw [len_cs, cs_cat, cs_sl, List.length_append, ← len_cs]
  simp
  omega
theorem strokes_len {ns : List Str} (h : ∀ n ∈ ns, isName n = true) (hl : ns.length ≤ 200) : ((ns.map fun n => sl ++ n).map (·.length)).sum ≤ 20200 ∧ (headT ns).length ≤ 20200 := by
  have h1 : ∀ l : List Str, (∀ n ∈ l, isName n = true) → ((l.map fun n => sl ++ n).map (·.length)).sum ≤ l.length * 101 := by
    intro l hl
    induction l with
    | nil => exact Nat.le_refl _
    | cons n l ih =>
      have ih' := ih fun m hm => hl m (List.mem_cons_of_mem _ hm)
      have hn := (part_facts (name_part (hl n (List.mem_cons_self ..)))).2.2
      rw [List.map_cons, List.map_cons, List.sum_cons, stroke_len, List.length_cons, Nat.succ_mul]
      omega
  have h2 := h1 ns h
  refine ⟨by omega, ?_⟩
  have h3 : Txt.join (Str.ofString "") (ns.map fun n => sl ++ n) = Str.join (Str.ofString "") (ns.map fun n => sl ++ n) := TL.join_eq _ _
  have h4 := StrLaws.join_length_le (Str.ofString "") (ns.map fun n => sl ++ n)
  rw [← join_strokes, h3]
  have h5 : (Str.ofString "").length = 0 := by decide +kernel
  rw [h5, Nat.mul_zero] at h4
  omega
/-- one turn of the own world's chain of what hangs -/
theorem over_step {W : Wd} (ok : W.Ok) {m c f : Nat} (h : (overGo W.over m c none).1 = f) (hf : look f W.over = none) : (look c W.over = none ∧ c = f) ∨ ∃ m' k, m = m' + 1 ∧ look c W.over = some k ∧ k < W.nodes.length ∧ (overGo W.over m' k none).1 = f := by
  cases e : look c W.over with
  | none =>
    refine .inl ⟨rfl, ?_⟩
    cases m with
    | zero => exact h
    | succ m =>
      rw [overGo, e] at h
      exact h
  | some k =>
    cases m with
    | zero =>
      have h : c = f := h
      rw [h, hf] at e
      cases e
    | succ m =>
      rw [overGo, e] at h
      exact .inr ⟨m, k, rfl, rfl, (ok.ovr _ (look_mem e)).2.1, by rw [overGo_fst m k none (some c)]; exact h⟩
/-- more turns bring no more -/
theorem ben_same {W : Wd} {u : Int} : ∀ (m : Nat) {ss : List Std}, ss.length ≤ 12 → 13 - ss.length ≤ m → benGo W u m ss = benOf W u ss := by
  intro m
  induction m with
  | zero => intro ss h1 h2; omega
  | succ m ih =>
    intro ss h1 h2
    rw [benOf_eq h1]
    have : ∀ l : List (Str × Nat), (l.flatMap fun p => (tailNm ss ++ [p.1], (W.at p.2).kind) :: (if goIn W u ss p = true then benGo W u m (ss ++ [standOf W p.2 p.1]) else [])) = l.flatMap (item W u ss) := by
      intro l
      induction l with
      | nil => rfl
      | cons p l ihl =>
        rw [List.flatMap_cons, List.flatMap_cons, ihl, item_eq]
        by_cases c : goIn W u ss p = true
        · rw [if_pos c, if_pos c]
          have hl := goIn_len c
          rw [ih (ss := ss ++ [standOf W p.2 p.1]) (by rw [List.length_append, List.length_singleton]; omega) (by rw [List.length_append, List.length_singleton]; omega)]
        · rw [if_neg c, if_neg c]
    exact this _
theorem hang_names {W : Wd} {a b : Nat} : namesN (hangW W a b) = namesN W := rfl
theorem hangF_names {W W' : Wd} {vu vo vn : V} (h : hangF W vu vo vn = .ok W') : namesN W' = namesN W := by
  unfold hangF at h
  split at h
  · cases h
  · cases h
    rfl
/-- what is told of all that lies beneath -/
theorem ben_path {W : Wd} {u : Int} {ps : List Str} (u0 : 0 ≤ u) (u1 : u < W.groups.length) (hg : goodParts ps = true) : benR W (.int u) (.str (pathOf ps)) = match roomW W u ps with
    | .err e => .err e
    | .ok ss => if mayOf W u (last ss).number 5 = false then .err (.right u (last ss).number) else if 12 < ss.length then .err (.no 0) else if 200 < (benOf W u ss).length then .err (.no 0) else .ok (benOf W u ss) := by
  unfold benR
  rw [if_neg (by rw [userB_of u0 u1]; decide), show userI (.int u) = u from rfl, room_path hg]
  all_goals (cases roomW W u ps <;> rfl)
theorem benR_ok {W : Wd} {vu v : V} {rs : List Row} (h : benR W vu v = .ok rs) : ∃ ss, roomV' W (userI vu) v = .ok ss ∧ ss.length ≤ 12 ∧ rs = benOf W (userI vu) ss ∧ rs.length ≤ 200 := by
  unfold benR at h
  split at h
  · cases h
  · split at h
    · cases h
    · rename_i ss hx
      split at h
      · cases h
      · split at h
        · cases h
        · rename_i h12
          split at h
          · cases h
          · rename_i h200
            cases h
            exact ⟨ss, hx, by omega, rfl, by omega⟩
theorem benR_len {W : Wd} {vu v : V} {rs : List Row} (h : benR W vu v = .ok rs) : rs.length ≤ 200 := by
  obtain ⟨_, _, _, _, h⟩ := benR_ok h
  exact h
theorem benR_good {W : Wd} (ok : W.Ok) {vu v : V} {rs : List Row} (h : benR W vu v = .ok rs) : ∀ r ∈ rs, goodParts r.1 = true ∧ (r.2 = "room" ∨ r.2 = "leaf" ∨ r.2 = "hint") ∧ ∃ n, r.1.getLast? = some n ∧ isName n = true := by
  obtain ⟨ss, h1, h2, rfl, _⟩ := benR_ok h
  obtain ⟨ps, hw⟩ := roomV_way h1
  have wok := wayOf_ok ok hw
  exact benOf_good ok ⟨wok.1, h2, wok.2.1, (wayOf_names ok hw).1⟩
/-! ### /a and /b are always built -/
def HasRoom (W : Wd) (n : Str) : Prop := ∃ k, look n (W.at 0).names = some k ∧ (W.at k).kind = "room"
theorem DeedAt.offS {H H' : Hp} {d : Addr} {S : List Addr} {kind : Str} {u : Int} {ps : List Str} {r0 r1 r2 : Int} {tx : Str} (h : DeedAt H d kind u ps r0 r1 r2 tx) (f : Off S H H') (n : ∀ a ∈ S, ∃ xs, H a = some (.lst xs)) : DeedAt H' d kind u ps r0 r1 r2 tx := by
  obtain ⟨rt, h1, h2, g⟩ := h
  have nt : ∀ {b ys}, H b = some (.tup ys) → b ∉ S := fun {b ys} hb z => by
    obtain ⟨xs, hx⟩ := n b z
    rw [hx] at hb
    cases hb
  exact ⟨rt, f _ _ h1 (nt h1), f _ _ h2 (nt h2), g⟩
def AB (H : Hp) (x y : Addr) : Prop := DeedAt H x "room" 0 ["a"] 7 7 7 "" ∧ DeedAt H y "room" 0 ["b"] 7 5 5 ""
theorem AB.up {H H' : Hp} {x y : Addr} (h : AB H x y) (e : Ex H H') : AB H' x y := ⟨h.1.up e, h.2.up e⟩
theorem AB.offS {H H' : Hp} {x y : Addr} {S : List Addr} (h : AB H x y) (f : Off S H H') (n : ∀ a ∈ S, ∃ xs, H a = some (.lst xs)) : AB H' x y := ⟨h.1.offS f n, h.2.offS f n⟩
theorem ab_of {H : Hp} {d rt : Addr} {kind s tx : Str} {u r0 r1 r2 : Int} (ps : List Str) (h1 : H d = some (.tup [.str kind, .int u, .str s, .ref rt, .str tx])) (h2 : H rt = some (.tup [.int r0, .int r1, .int r2])) (hs : s = pathOf ps)
    (g : R8 r0 ∧ R8 r1 ∧ R8 r2 ∧ tx.length ≤ 1000 ∧ (kind = "room" ∨ (kind = "leaf" ∧ textB (.str tx) = true) ∨ (kind = "hint" ∧ (partsOf false tx).isSome = true)) ∧ (kind = "room" → tx = "") ∧ (kind = "hint" → r0 = 7 ∧ r1 = 7 ∧ r2 = 7) ∧ 0 ≤ u ∧ u < 3 ∧ goodParts ps = true ∧ PyData.strOk tx = true ∧ (kind = "hint" → hintB tx = true) ∧ ps.length ≤ 3) (lp : lpB ps = true := by decide +kernel) : DeedAt H d kind u ps r0 r1 r2 tx := by
  obtain ⟨g0, g1, g2, g3, g4, g5, g6, g7, g8, g9, g10, g11, g12⟩ := g
  refine ⟨rt, by rw [h1, hs], h2, ⟨g0, g1, g2, g3, g4⟩, ?_, g5, g6, g7, g8, g12, lpB_ok lp, g9, g10, g11⟩
  rcases g4 with h | h | h
  · exact .inl h
  · exact .inr (.inl h.1)
  · exact .inr (.inr h.1)
def AbW (i : Nat) (W : Wd) : Prop := (i = 0 ∧ look ("a" : Str) (W.at 0).names = none ∧ look ("b" : Str) (W.at 0).names = none) ∨ (i = 1 ∧ HasRoom W "a" ∧ look ("b" : Str) (W.at 0).names = none) ∨ (2 ≤ i ∧ HasRoom W "a" ∧ HasRoom W "b")
theorem ab_at {H : Hp} {x y d rt : Addr} {dr : List Addr} {i : Nat} {kind s tx : Str} {u : Int} (hab : AB H x y) (hx : ((x :: y :: dr).map V.ref)[i]? = some (.ref d)) (hm : H d = some (.tup [.str kind, .int u, .str s, .ref rt, .str tx])) : (i = 0 → kind = "room" ∧ u = 0 ∧ s = pathOf ["a"]) ∧ (i = 1 → kind = "room" ∧ u = 0 ∧ s = pathOf ["b"]) := by
  obtain ⟨⟨rt1, x1, _, _⟩, ⟨rt2, y1, _, _⟩⟩ := hab
  refine ⟨fun h => ?_, fun h => ?_⟩
  · subst h
    have hx : x = d := V.ref.inj (Option.some.inj hx)
    rw [← hx, x1] at hm
    injection hm with hm
    injection hm with hm
    injection hm with h1 hm
    injection hm with h2 hm
    injection hm with h3 hm
    exact ⟨(V.str.inj h1).symm, (V.int.inj h2).symm, (V.str.inj h3).symm⟩
  · subst h
    have hx : y = d := V.ref.inj (Option.some.inj hx)
    rw [← hx, y1] at hm
    injection hm with hm
    injection hm with hm
    injection hm with h1 hm
    injection hm with h2 hm
    injection hm with h3 hm
    exact ⟨(V.str.inj h1).symm, (V.int.inj h2).symm, (V.str.inj h3).symm⟩
theorem free_top {W : Wd} {n : Str} (hn : isName n = true) (hl : look n (W.at 0).names = none) : freeV W 0 (.str (pathOf [n])) = .ok [std0] n := by
  have hg : goodParts ([] ++ [n]) = true := good_of (by simp) fun p hp => by
    have : p = n := by simpa using hp
    rw [this]
    exact name_part hn
  refine free_of ?_ hl
  have := place_snoc (W := W) (u := 0) (qs := []) hg hn
  rw [show pathOf [n] = pathOf ([] ++ [n]) from rfl, this]
  exact place0
theorem abw_err {W : Wd} {i : Nat} {u : Int} {kind s : Str} {e : Err} (h : AbW i W) (hat : (i = 0 → kind = "room" ∧ u = 0 ∧ s = pathOf ["a"]) ∧ (i = 1 → kind = "room" ∧ u = 0 ∧ s = pathOf ["b"])) (he : freeV W u (.str s) = .err e) : AbW (i + 1) W := by
  rcases h with ⟨h0, h1, h2⟩ | ⟨h0, h1, h2⟩ | ⟨h0, h1, h2⟩
  · obtain ⟨_, rfl, rfl⟩ := hat.1 h0
    rw [free_top (by decide +kernel) h1] at he
    cases he
  · obtain ⟨_, rfl, rfl⟩ := hat.2 h0
    rw [free_top (by decide +kernel) h2] at he
    cases he
  · exact .inr (.inr ⟨by omega, h1, h2⟩)
theorem made_top {W : Wd} {r : Nat} {n : Str} {d : Nd} (ok : W.Ok) (hr : r < W.nodes.length) : ((madeW W r n d).at 0).names = if 0 = r then (W.at 0).names ++ [(n, W.nodes.length)] else (W.at 0).names := by
  have h : (madeW W r n d).at 0 = if 0 = r then (W.at r).name n W.nodes.length else (W.add d).at 0 := Wd.at_put (by rw [Wd.add_len]; omega)
  rw [h]
  by_cases c : 0 = r
  · rw [if_pos c, if_pos c, ← c]
    rfl
  · rw [if_neg c, if_neg c, Wd.add_at ok.one]
theorem made_kind {W : Wd} {r k : Nat} {n : Str} {d : Nd} (hr : r < W.nodes.length) (hk : k < W.nodes.length) : ((madeW W r n d).at k).kind = (W.at k).kind := by
  have h : (madeW W r n d).at k = if k = r then (W.at r).name n W.nodes.length else (W.add d).at k := Wd.at_put (by rw [Wd.add_len]; omega)
  rw [h]
  split
  · rename_i e
    rw [e]
    rfl
  · rw [Wd.add_at hk]
theorem made_newk {W : Wd} {r : Nat} {n : Str} {d : Nd} (hr : r < W.nodes.length) : ((madeW W r n d).at W.nodes.length).kind = d.kind := by
  have h : (madeW W r n d).at W.nodes.length = if W.nodes.length = r then (W.at r).name n W.nodes.length else (W.add d).at W.nodes.length := Wd.at_put (by rw [Wd.add_len]; omega)
  rw [h, if_neg (by omega), Wd.add_new]
theorem hasRoom_made {W : Wd} (ok : W.Ok) {r : Nat} {n m : Str} {d : Nd} (hr : r < W.nodes.length) (h : HasRoom W m) : HasRoom (madeW W r n d) m := by
  obtain ⟨k, h1, h2⟩ := h
  have hk := look_lt ok ok.one h1
  refine ⟨k, ?_, by rw [made_kind hr hk]; exact h2⟩
  rw [made_top ok hr]
  split
  · exact look_snoc h1
  · exact h1
theorem abw_ok {W : Wd} (ok : W.Ok) {i : Nat} {u r0 r1 r2 : Int} {kind s tx : Str} {ss : List Std} {n : Str} (h : AbW i W) (hat : (i = 0 → kind = "room" ∧ u = 0 ∧ s = pathOf ["a"]) ∧ (i = 1 → kind = "room" ∧ u = 0 ∧ s = pathOf ["b"])) (hf : freeV W u (.str s) = .ok ss n) : AbW (i + 1) (madeW W (last ss).number n (ownNd W kind u r0 r1 r2 tx)) := by
  have hl := free_lt ok hf
  rcases h with ⟨h0, h1, h2⟩ | ⟨h0, h1, h2⟩ | ⟨h0, h1, h2⟩
  · obtain ⟨rfl, rfl, rfl⟩ := hat.1 h0
    rw [free_top (by decide +kernel) h1] at hf
    cases hf
    refine .inr (.inl ⟨by omega, ⟨W.nodes.length, ?_, ?_⟩, ?_⟩)
    · rw [made_top ok hl, if_pos (show 0 = (last [std0]).number from rfl), look_app, h1]
      rfl
    · rw [made_newk hl]
      rfl
    · rw [made_top ok hl, if_pos (show 0 = (last [std0]).number from rfl), look_app, h2]
      show look ("b" : Str) [(Str.ofString "a", W.nodes.length)] = none
      rw [look_cons, if_neg (by decide +kernel)]
      rfl
  · obtain ⟨rfl, rfl, rfl⟩ := hat.2 h0
    rw [free_top (by decide +kernel) h2] at hf
    cases hf
    refine .inr (.inr ⟨by omega, hasRoom_made ok hl h1, ⟨W.nodes.length, ?_, ?_⟩⟩)
    · rw [made_top ok hl, if_pos (show 0 = (last [std0]).number from rfl), look_app, h2]
      rfl
    · rw [made_newk hl]
      rfl
  · exact .inr (.inr ⟨by omega, hasRoom_made ok hl h1, hasRoom_made ok hl h2⟩)
theorem abw_end {W : Wd} {i : Nat} (h : AbW i W) (hi : 2 ≤ i) : HasRoom W "a" ∧ HasRoom W "b" := by
  rcases h with ⟨h0, _⟩ | ⟨h0, _⟩ | ⟨_, h1, h2⟩
  · omega
  · omega
  · exact ⟨h1, h2⟩
end Tm

/-! the head: the kit's facts and one Bool more -/
namespace Tm
open PySem L2
/-! ### classes, by Bools -/
theorem clsB_ok {K : PySem.W.Frag} (h : clsB K = true) : ClsK K := by
  unfold clsB at h
  simp only [Bool.and_eq_true] at h
  obtain ⟨h1, h2, h3, h4, h5, h6⟩ := h
  exact ⟨He.cls_ok h1, He.cls_ok h2, He.cls_ok h3, fun f hf => He.noat_ok (List.all_eq_true.mp h4 f hf), fun f hf => He.noat_ok (List.all_eq_true.mp h5 f hf), fun f hf => He.noat_ok (List.all_eq_true.mp h6 f hf)⟩
/-- an error class with an __init__ of its own -/
theorem oexB_ok {K : PySem.W.Frag} {C : Addr} (h : oexB K C = true) : OexC K C := by
  unfold oexB at h
  simp only [Bool.and_eq_true, decide_eq_true_eq] at h
  obtain ⟨h1, h2, h3, h4, h5⟩ := h
  refine ⟨?_, h2, h3, h4, h5⟩
  unfold oexB0 at h1
  split at h1
  · rename_i dd cd sl ho
    split at h1
    · rename_i C' bm k0 k1 k2 k3 n k5 hm hs
      simp only [Bool.and_eq_true, beq_iff_eq, Bool.not_eq_true'] at h1
      obtain ⟨rfl, rfl, hdel, hdc, hr⟩ := h1
      obtain ⟨nm, bs, mro, ns, qn, hd, sn, sub, ab, col, del⟩ := cd
      dsimp only at hm hdel hdc
      subst hm hdel hdc
      have hsl : sl = #[k0, k1, k2, k3, some (.builtin "ValueError.__new__"), k5] := by
        obtain ⟨l⟩ := sl
        simp only at hs
        rw [hs]
      subst hsl
      exact ⟨_, _, _, _, bm, _, _, _, _, _, _, _, _, _, _, ho, hr⟩
    · cases h1
  · cases h1
structure Ini (K : PySem.W.Frag) (x : Str) (fs : List Str) : Prop where
  o : OexC K (He.ga K x)
  i : PySem.W.findIn K (.ref (He.ga K x)) "__init__" = some (some (.ref (He.ma K (He.ga K x) "__init__")))
  t : PySem.W.typeIn K (.ref (He.ma K (He.ga K x) "__init__")) = some (.type "function")
  n : ∀ f ∈ fs, PySem.W.findIn K (.ref (He.ga K x)) f = some none
theorem iniB_ok {K : PySem.W.Frag} {x : Str} {fs : List Str} (h : iniB K x fs = true) : Ini K x fs := by
  unfold iniB at h
  simp only [Bool.and_eq_true, decide_eq_true_eq] at h
  obtain ⟨h1, h2, h3, h4⟩ := h
  exact ⟨oexB_ok h1, h2, h3, fun f hf => of_decide_eq_true (List.all_eq_true.mp h4 f hf)⟩
/-- all that the laws over houses lean on, besides the facts -/
structure More (K : PySem.W.Frag) : Prop where
  e : ErrK K
  x : XfK5 K
  c : ClsK K
  r : Ini K "NoRight" ["user", "number"]
  n : Ini K "NoName" ["name"]
theorem moreB_ok {K : PySem.W.Frag} (h : moreB K = true) : More K := by
  unfold moreB at h
  simp only [Bool.and_eq_true] at h
  obtain ⟨h1, h2, h3, h4, h5⟩ := h
  exact ⟨errB_ok h1, xfK5B_ok h2, clsB_ok h3, iniB_ok h4, iniB_ok h5⟩
/-- where no error is kept -/
structure Less (K : PySem.W.Frag) : Prop where
  c : ClsK K
  r : Ini K "NoRight" ["user", "number"]
  n : Ini K "NoName" ["name"]
theorem lessB_ok {K : PySem.W.Frag} (h : (clsB K && (iniB K "NoRight" ["user", "number"] && iniB K "NoName" ["name"])) = true) : Less K := by
  simp only [Bool.and_eq_true] at h
  exact ⟨clsB_ok h.1, iniB_ok h.2.1, iniB_ok h.2.2⟩
end Tm

/-! dict() of a list of pairs whose keys are texts -/
namespace Tm
open PySem PySem.Spec PyProof.Rows L2
def rDictP (K : PySem.W.Frag) : List V → Hp → VK → Prop := fun vs H Q => ∃ (a : Addr) (as : List Addr) (kvs : List (Str × V)), vs = [.ref a] ∧ SqL K H a (as.map V.ref) ∧ Paired (fun b (kv : Str × V) => SqT K H b [.str kv.1, kv.2]) as kvs ∧ (kvs.map (·.1)).Nodup ∧
  ∀ p, H p = none → Q (.ref p) (upd H p (.dK (kvs.map fun kv => (Sum.inr kv.1, kv.2))))
theorem kv_keys {κ : Type} {xs : List (κ × V)} {ys : List (κ × Value)} (h : KV xs ys) : ys.map (·.1) = xs.map (·.1) := by
  induction h with
  | nil => rfl
  | cons a t ih => rw [List.map_cons, List.map_cons, ih, a.1]
theorem pairs_of {X : Cx} {pins : List (Addr × Obj)} {σ : L2.St} {H : Hp} {s : Shared} (I : L2.Inv X pins σ H s) : ∀ {as : List Addr} {kvs : List (Str × V)} {its : List Value}, Vals (as.map V.ref) its → Paired (fun b (kv : Str × V) => SqT X.K H b [.str kv.1, kv.2]) as kvs →
    ∃ (ps : List (Value × Value)) (ks : List (Key × Value)), its = as.map Value.ref ∧ ps.length = as.length ∧ ks.length = ps.length ∧ KV (kvs.map fun kv => ((Sum.inr kv.1 : Key), kv.2)) ks ∧
      ∀ j k v, ps[j]? = some (k, v) → PairAt s.heap (as.getD j 0) k v ∧ ∃ y, ks[j]? = some (y, v) ∧ keyIs y k = true := by
  intro as kvs its rv hp
  induction hp generalizing its with
  | nil =>
    cases rv
    exact ⟨[], [], rfl, rfl, rfl, .nil, fun j k v h => by simp at h⟩
  | cons hb t ih =>
    rename_i b kv as' kvs'
    cases rv with
    | cons r1 r2 =>
      obtain ⟨ps, ks, e1, e2, e3, e4, e5⟩ := ih r2
      obtain ⟨is, v2, ht, _⟩ := I.tuple hb
      cases v2 with
      | cons w1 w2 => cases w2 with
        | cons w3 w4 =>
          cases w4
          rename_i u1 u2
          obtain ⟨tk, rfl⟩ : ∃ tk, u1 = Value.str kv.1 tk := w1
          refine ⟨(Value.str kv.1 tk, u2) :: ps, (Sum.inr kv.1, u2) :: ks, ?_, by simp [e2], by simp [e3], .cons ⟨rfl, w3⟩ e4, fun j k v hj => ?_⟩
          · rw [show _ = Value.ref b from r1, e1]
            rfl
          · cases j with
            | zero =>
              simp at hj
              obtain ⟨rfl, rfl⟩ := hj
              refine ⟨.inl ?_, _, rfl, ?_⟩
              · exact ht
              · show Value.isStrOf kv.1 (Value.str kv.1 tk) = true
                simp [Value.isStrOf]
            | succ j => exact e5 j k v hj
theorem cr_dictP {X : Cx} (hc : X.calm = true) : CallR X (.type "dict") (rDictP X.K) := by
  intro pins s σ H vs us Q I r h
  obtain ⟨a, as, kvs, rfl, hs, hp, nd, q⟩ := h
  obtain ⟨its, rv, hl, hz⟩ := I.list hs
  rw [Vals.ref1 r]
  obtain ⟨ps, ks, e1, e2, e3, e4, e5⟩ := pairs_of I rv hp
  have hsz : ps.length ≤ sizeLine := by
    rw [e2]
    rw [List.length_map] at hz
    exact hz
  have hh : X.A.handled = none := I.ok.hd hc
  refine PySem.call_dict_pairs (knd := mixKind X.prog X.w) (kvs := ks) (PairArg.list a its.toArray (fun j => as.getD j 0) ps) hh ⟨hl, ?_⟩ ⟨e3, fun i key v hr => ?_⟩ hsz fun h' tk hd hk => ?_
  · refine ⟨by rw [e1]; simp [e2], fun j k v hj => ⟨?_, (e5 j k v hj).1⟩⟩
    have hj' : j < as.length := by
      have := (List.getElem?_eq_some_iff.mp hj).1
      omega
    rw [e1]
    simp [List.getElem?_eq_getElem hj', List.getD_eq_getElem?_getD]
  · obtain ⟨_, y, hy, hi⟩ := e5 i key v hr
    exact ⟨y, hy, hi⟩
  · have hn : (ks.map (·.1)).Nodup := by
      rw [kv_keys e4, List.map_map, show ((fun x : Key × V => x.1) ∘ fun kv : Str × V => ((Sum.inr kv.1 : Key), kv.2)) = (fun s : Str => (Sum.inr s : Key)) ∘ (fun x : Str × V => x.1) from rfl, ← List.map_map]
      exact nd.map _ fun x y hne z => hne (Sum.inr.inj z)
    rw [merged_nil_of_nodup ks hn] at hd
    exact ⟨.ref _, upd H s.heap.objs.size (.dK (kvs.map fun kv => (Sum.inr kv.1, kv.2))), I.laid (fun b o e => hk b o (by simp) e) (Nat.le_refl _) ⟨by rw [List.length_map, ← Paired.length hp]; rw [List.length_map] at hz; exact hz, beq_eq_false_iff_ne.mpr fun z => absurd I.big (by rw [← z]; exact Nat.lt_irrefl _), ks, e4, hd⟩, rfl, q _ (I.hok.fresh (Nat.le_refl _))⟩
end Tm

/-! counted: rows are walked, their names are the law's own, none twice -/
namespace Tm
open PySem PySem.Spec PyProof.Rows L2
theorem tailNm_snoc {W : Wd} {ss : List Std} (h : ss ≠ []) (k : Nat) (n : Str) : tailNm (ss ++ [standOf W k n]) = tailNm ss ++ [n] := by
  unfold tailNm
  rw [tail_snoc h, List.map_append]
  rfl
/-- whose names they are -/
theorem Reach.nml {W : Wd} {k : Nat} (h : Reach W k) : ∀ i, ∀ p ∈ (W.at i).names, p.1 ∈ lnames := by
  induction h with
  | start =>
    intro i p hp
    have hr := name_lt (n := p.1) (c := p.2) hp
    have e : i = 0 := by
      have : (w0 [7, 7, 9]).nodes.length = 1 := rfl
      omega
    subst e
    cases hp
  | @make W' k' kind u ps r0 r1 r2 tx ss n hR ok hf gd ih =>
    obtain ⟨h1, h2⟩ := free_place hf
    obtain ⟨qs, e, hn, hw⟩ := place_cut gd.ps h1
    have hn2 : n ∈ lnames := by
      have hl := gd.lp n (by rw [e]; simp)
      obtain ⟨n1, n2⟩ := name_ne hn
      rcases hl with z | z | z
      · exact absurd z n2
      · exact absurd z n1
      · exact z
    have hr := free_lt ok hf
    intro j p hp
    have at_ : (madeW W' (last ss).number n (ownNd W' kind u r0 r1 r2 tx)).at j = if j = (last ss).number then (W'.at (last ss).number).name n W'.nodes.length else (W'.add (ownNd W' kind u r0 r1 r2 tx)).at j := Wd.at_put (by rw [Wd.add_len]; omega)
    rw [at_] at hp
    split at hp
    · rcases List.mem_append.mp hp with hp | hp
      · exact ih _ p hp
      · rw [List.mem_singleton.mp hp]
        exact hn2
    · by_cases c : j < W'.nodes.length
      · rw [Wd.add_at c] at hp
        exact ih _ p hp
      · by_cases c2 : j = W'.nodes.length
        · subst c2
          rw [Wd.add_new] at hp
          cases hp
        · rw [at_big (by rw [Wd.add_len]; omega)] at hp
          cases hp
/-- a row: the rooms on its way, its name -/
def RowOf (W : Wd) (r : Row) : Prop := ∃ ss n k, Chain W ss ∧ SsOk W ss ∧ look n (W.at (last ss).number).names = some k ∧ r = (tailNm ss ++ [n], (W.at k).kind) ∧ isName n = true
theorem ben_row {W : Wd} (ok : W.Ok) {u : Int} : ∀ (m : Nat) {ss : List Std}, Chain W ss → SsOk W ss → ∀ r ∈ benGo W u m ss, RowOf W r
  | 0, ss, hc, h, r, hr => by cases hr
  | m + 1, ss, hc, h, r, hr => by
    unfold benGo at hr
    obtain ⟨p, hp, hr⟩ := List.mem_flatMap.mp hr
    have hl := last_lt h.ne h.lt
    have hpn := (ok.at hl).nam p hp
    have hlk : look p.1 (W.at (last ss).number).names = some p.2 := look_of_mem ok hp
    rcases List.mem_cons.mp hr with rfl | hr
    · exact ⟨ss, p.1, p.2, hc, h, hlk, rfl, hpn.1⟩
    · split at hr
      · rename_i hg
        have hk : (W.at p.2).kind = "room" := by
          unfold goIn at hg
          rw [Bool.and_eq_true] at hg
          exact of_decide_eq_true hg.1
        exact ben_row ok m (.step hc hlk hk hpn.1) (h.snoc ok (goIn_len hg) hpn.2 hpn.1) r hr
      · cases hr
theorem benR_row {W : Wd} (ok : W.Ok) {vu v : V} {rs : List Row} (h : benR W vu v = .ok rs) : ∀ r ∈ rs, RowOf W r := by
  obtain ⟨ss, h1, h2, rfl, _⟩ := benR_ok h
  obtain ⟨ps, hw⟩ := roomV_way h1
  have wok := wayOf_ok ok hw
  exact ben_row ok _ (wayOf_chain ok hw).1 ⟨wok.1, h2, wok.2.1, (wayOf_names ok hw).1⟩
theorem RowOf.good {W : Wd} {r : Row} (h : RowOf W r) : goodParts r.1 = true := by
  obtain ⟨ss, n, k, hc, hs, hl, rfl, hn⟩ := h
  exact hs.good hn
theorem tailNm_len {ss : List Std} : (tailNm ss).length = ss.length - 1 := by
  unfold tailNm
  rw [List.length_map, List.length_tail]
/-- a row's path, walked by the keeper -/
theorem row_way {W : Wd} {f : Bool} {ss : List Std} {n : Str} (hc : Chain W ss) (hs : SsOk W ss) : ∃ m, wayOf W 0 f (tailNm ss ++ [n]) = wayGo W 0 f (m + 2) ss [n] 0 := by
  have hl := hs.len
  have hp := List.length_pos_iff.mpr hs.ne
  refine ⟨198 - ss.tail.length, ?_⟩
  have := hc.walk (f := f) (198 - ss.tail.length + 2) [n] 0
  rw [show 198 - ss.tail.length + 2 + ss.tail.length = 200 by rw [List.length_tail]; omega] at this
  exact this
theorem stand_kind {W : Wd} (ok : W.Ok) {k : Nat} {n : Str} (h : (W.at k).kind = "room") : (W.at (standOf W k n).number).kind = "room" := by
  have key : ∀ (m j : Nat) (u : Option Nat), (W.at j).kind = "room" → (W.at (overGo W.over m j u).1).kind = "room" := by
    intro m
    induction m with
    | zero => intro j u hj; exact hj
    | succ m ih =>
      intro j u hj
      unfold overGo
      split
      · exact hj
      · rename_i k2 hk2
        exact ih _ _ (ok.ovr _ (look_mem hk2)).2.2.2
  exact key _ _ _ h
theorem row_kind {W : Wd} (ok : W.Ok) {r : Row} (u1 : (0 : Int) < W.groups.length) (h : RowOf W r) : kindR W (.int 0) (.str (pathOf r.1)) = .ok (.str r.2) := by
  have hg := h.good
  obtain ⟨ss, n, k, hc, hs, hl, rfl, hn⟩ := h
  obtain ⟨n1, n2⟩ := name_ne hn
  obtain ⟨m, hm⟩ := row_way (f := false) (n := n) hc hs
  have ha := atR_path (W := W) (f := false) (Int.le_refl 0) u1 hg
  unfold kindR
  rw [ha]
  dsimp only at hm ⊢
  rw [hm]
  have hk := (ok.at (name_lt2 ok (look_mem hl))).knd
  rcases hk with hk | hk | hk
  · rw [go_room rfl n1 n2 hl hk, go_end]
    show Res.ok (PyData.str (W.at (endNum (ss ++ [standOf W k n]) none)).kind) = _
    have : endNum (ss ++ [standOf W k n]) none = (standOf W k n).number := by
      show (last (ss ++ [standOf W k n])).number = _
      unfold last
      rw [List.getLastD_concat]
    rw [this, stand_kind ok hk, hk]
  · rw [go_leaf rfl n1 n2 hl hk, if_neg (by simp)]
    rfl
  · rw [go_hintE rfl n1 n2 hl hk]
    rfl
/-- a room's row: what lies beneath it -/
theorem row_room {W : Wd} (ok : W.Ok) {r : Row} (h : RowOf W r) (hr : r.2 = "room") : ∃ ss, Chain W ss ∧ roomW W 0 r.1 = .ok ss ∧ tailNm ss = r.1 := by
  obtain ⟨ss, n, k, hc, hs, hl, rfl, hn⟩ := h
  obtain ⟨n1, n2⟩ := name_ne hn
  obtain ⟨m, hm⟩ := row_way (f := true) (n := n) hc hs
  refine ⟨ss ++ [standOf W k n], .step hc hl hr hn, ?_, tailNm_snoc hs.ne k n⟩
  unfold roomW
  dsimp only
  rw [hm, go_room rfl n1 n2 hl hr, go_end]
/-- none twice -/
theorem ben_pre {W : Wd} {u : Int} : ∀ (m : Nat) {ss : List Std}, ss ≠ [] → ∀ r ∈ benGo W u m ss, ∃ n t, r.1 = tailNm ss ++ n :: t
  | 0, ss, h, r, hr => by cases hr
  | m + 1, ss, h, r, hr => by
    unfold benGo at hr
    obtain ⟨p, hp, hr⟩ := List.mem_flatMap.mp hr
    rcases List.mem_cons.mp hr with rfl | hr
    · exact ⟨p.1, [], rfl⟩
    · split at hr
      · obtain ⟨n, t, e⟩ := ben_pre m (by simp) r hr
        refine ⟨p.1, n :: t, ?_⟩
        rw [e, tailNm_snoc h]
        simp
      · cases hr
theorem ben_nodup {W : Wd} (ok : W.Ok) {u : Int} : ∀ (m : Nat) {ss : List Std}, ss ≠ [] → (∀ z ∈ ss, z.number < W.nodes.length) → ((benGo W u m ss).map (·.1)).Nodup
  | 0, ss, h, hl => List.nodup_nil
  | m + 1, ss, h, hlt => by
    have hl := last_lt h hlt
    have hd := (ok.at hl).dup
    have hin : ∀ p ∈ (W.at (last ss).number).names, p.2 < W.nodes.length := fun p hp => ((ok.at hl).nam p hp).2
    unfold benGo
    generalize (W.at (last ss).number).names = l at hd hin
    induction l with
    | nil => exact List.nodup_nil
    | cons p l ih =>
      rw [List.map_cons, List.nodup_cons] at hd
      rw [List.flatMap_cons, List.map_append, List.nodup_append]
      have blk : ∀ q : Str × Nat, ∀ x ∈ (((tailNm ss ++ [q.1], (W.at q.2).kind) :: (if goIn W u ss q = true then benGo W u m (ss ++ [standOf W q.2 q.1]) else [])).map (·.1)), ∃ t, x = tailNm ss ++ q.1 :: t := by
        intro q x hx
        obtain ⟨r, hr, rfl⟩ := List.mem_map.mp hx
        rcases List.mem_cons.mp hr with rfl | hr
        · exact ⟨[], rfl⟩
        · split at hr
          · obtain ⟨n, t, e⟩ := ben_pre m (by simp) r hr
            refine ⟨n :: t, ?_⟩
            rw [e, tailNm_snoc h]
            simp
          · cases hr
      refine ⟨?_, ih hd.2 fun q hq => hin q (List.mem_cons_of_mem _ hq), fun a ha b hb z => ?_⟩
      · rw [List.map_cons, List.nodup_cons]
        constructor
        · intro z
          obtain ⟨r, hr, e⟩ := List.mem_map.mp z
          split at hr
          · obtain ⟨n, t, e2⟩ := ben_pre m (by simp) r hr
            rw [tailNm_snoc h] at e2
            have e := e.symm.trans e2
            have := congrArg List.length e
            simp at this
          · cases hr
        · split
          · refine ben_nodup ok m (by simp) fun z hz => ?_
            rcases List.mem_append.mp hz with hz | hz
            · exact hlt z hz
            · rw [List.mem_singleton.mp hz]
              exact stand_lt ok _ (hin p (List.mem_cons_self ..))
          · exact List.nodup_nil
      · obtain ⟨t1, e1⟩ := blk p a ha
        obtain ⟨r, hr, e2⟩ := List.mem_map.mp hb
        obtain ⟨q, hq, hr⟩ := List.mem_flatMap.mp hr
        obtain ⟨t2, e3⟩ := blk q b (List.mem_map.mpr ⟨r, hr, e2⟩)
        rw [e1, e3] at z
        have z := List.append_cancel_left z
        injection z with z1 z2
        exact hd.1 (by rw [z1]; exact List.mem_map.mpr ⟨q, hq, rfl⟩)
theorem benR_nodup {W : Wd} (ok : W.Ok) {vu v : V} {rs : List Row} (h : benR W vu v = .ok rs) : (rs.map (·.1)).Nodup := by
  obtain ⟨ss, h1, h2, rfl, _⟩ := benR_ok h
  obtain ⟨ps, hw⟩ := roomV_way h1
  have wok := wayOf_ok ok hw
  exact ben_nodup ok _ wok.1 wok.2.1
theorem go_few {W : Wd} (ok : W.Ok) (t : Tree W) {n : Nat} {ps : List Str} (m : Nat) (hn : n < W.nodes.length) : (allGo W m n ps).length ≤ namesN W := by
  cases m with
  | zero => exact Nat.zero_le _
  | succ m =>
    rw [all_len, ← names_range]
    exact sum_sub _ _ (sub_nodup ok t _ _) fun y hy => (sub_below _ _ hy).lt ok hn
/-- rooms of which all that lies beneath is told -/
def BenAt (W : Wd) (v : V) : Prop := ∃ s rs, v = .str s ∧ s.length ≤ 1000 ∧ benR W (.int 0) (.str s) = .ok rs
theorem chain_lt {W : Wd} (ok : W.Ok) {ss : List Std} (h : Chain W ss) : ∀ z ∈ ss, z.number < W.nodes.length := by
  induction h with
  | top => intro z hz; rw [List.mem_singleton.mp hz]; exact ok.one
  | step h1 h2 h3 h4 ih =>
    intro z hz
    rcases List.mem_append.mp hz with hz | hz
    · exact ih z hz
    · rw [List.mem_singleton.mp hz]
      exact stand_lt ok _ (name_lt2 ok (look_mem h2))
theorem Reach.benC {W : Wd} {k : Nat} (h : Reach W k) (ok : W.Ok) (hk : k ≤ 200) {ps : List Str} {ss : List Std} (hg : goodParts ps = true) (hr : roomW W 0 ps = .ok ss) (hc : Chain W ss) : BenAt W (.str (pathOf ps)) := by
  obtain ⟨dep, L⟩ := h.lev
  obtain ⟨sm, gr, ho⟩ := h.small
  have hl := path_len hg
  refine ⟨_, benOf W 0 ss, rfl, by omega, ?_⟩
  rw [ben_path (Int.le_refl 0) (by rw [gr]; decide) hg, hr]
  dsimp only
  have hd := hc.deep ho L
  have hd2 := L.le (last ss).number
  have few := go_few ok h.tree (n := (last ss).number) (ps := tailNm ss) (13 - ss.length) (last_lt hc.ne (chain_lt ok hc))
  have nm := h.names
  rw [if_neg (by rw [may0]; decide), if_neg (by omega), if_neg]
  unfold benOf
  rw [ben_all ok h.tree ho L _ hc]
  omega
theorem Reach.benRow {W : Wd} {k : Nat} (h : Reach W k) (ok : W.Ok) (hk : k ≤ 200) {r : Row} (hr : RowOf W r) (hk2 : r.2 = "room") : BenAt W (.str (pathOf r.1)) := by
  obtain ⟨ss, h1, h2, _⟩ := row_room ok hr hk2
  exact h.benC ok hk hr.good h2 h1
theorem Reach.benTop {W : Wd} {k : Nat} (h : Reach W k) (ok : W.Ok) (hk : k ≤ 200) : BenAt W (.str "/") := ⟨_, _, rfl, by decide +kernel, h.ben ok hk⟩
theorem Reach.benAB {W : Wd} {k : Nat} (h : Reach W k) (ok : W.Ok) (hk : k ≤ 200) (ha : HasRoom W "a") : BenAt W (.str "/a/..") := by
  obtain ⟨j, h1, h2⟩ := ha
  have e : roomW W 0 [Str.ofString "a", Str.ofString ".."] = .ok [std0] := by
    unfold roomW
    have : wayOf W 0 true [Str.ofString "a", Str.ofString ".."] = .ok [std0] none := by
      show wayGo W 0 true 200 [std0] [Str.ofString "a", Str.ofString ".."] 0 = _
      rw [go_room rfl (by decide +kernel) (by decide +kernel) h1 h2, go_up rfl]
      rfl
    rw [this]
  have := h.benC ok hk (ps := [Str.ofString "a", Str.ofString ".."]) (by decide +kernel) e .top
  rw [show pathOf [Str.ofString "a", Str.ofString ".."] = Str.ofString "/a/.." by decide +kernel] at this
  exact this
/-- counted by kinds -/
def kix (s : Str) : Nat := if s = "room" then 0 else if s = "leaf" then 1 else 2
/-- a heap in which some lists of one's own have changed -/
theorem GenSt.privS {K : PySem.W.Frag} {H H' : Hp} {t c h o : Addr} {S : List Addr} {L M : Lay} {W V : Wd} (s : GenSt K H t c h L W o M V) (hp : ∀ a ∈ S, a ∉ genS t c h L o M) (hx : ∀ a ∈ S, ∃ xs, H a = some (.lst xs)) (f : Off S H H') : GenSt K H' t c h L W o M V := by
  have nt : ∀ a ∈ S, ∀ ys, H a ≠ some (.tup ys) := fun a ha ys z => by
    obtain ⟨xs, hx⟩ := hx a ha
    rw [hx] at z
    cases z
  have m1 : ∀ a, a ∈ L.g :: fp h L → a ∈ genS t c h L o M := fun a ha => by
    rcases List.mem_cons.mp ha with rfl | ha
    · exact List.mem_cons_self ..
    · exact List.mem_cons_of_mem _ (List.mem_append_left _ (List.mem_cons_of_mem _ (List.mem_cons_of_mem _ ha)))
  have m2 : ∀ a, a ∈ fo o M → a ∈ genS t c h L o M := fun a ha => List.mem_cons_of_mem _ (List.mem_append_right _ ha)
  have mt : t ∈ genS t c h L o M := List.mem_cons_of_mem _ (List.mem_append_left _ (List.mem_cons_self ..))
  have mc : c ∈ genS t c h L o M := List.mem_cons_of_mem _ (List.mem_append_left _ (List.mem_cons_of_mem _ (List.mem_cons_self ..)))
  exact ⟨⟨s.ls.tw.off f (fun z => hp _ z mt) (fun z => hp _ z mc), s.ls.hh.off f (fun a ha z => hp a ha (m1 a z)) nt, s.ls.tf, s.ls.cf, s.ls.gc, s.ls.ok⟩, s.ow.off f (fun a ha z => hp a ha (m2 a z)) nt, s.tf, s.cf, s.df⟩
theorem GenSt.new {K : PySem.W.Frag} {H : Hp} {t c h o p : Addr} {L M : Lay} {W V : Wd} (s : GenSt K H t c h L W o M V) (hp : H p = none) : p ∉ genS t c h L o M := fun z => by
  obtain ⟨x, hx⟩ := s.there p z
  rw [hp] at hx
  cases hx
theorem kix_lt (s : Str) : kix s < 3 := by
  unfold kix
  split
  · decide
  · split <;> decide
/-- rows that rise: their paths rise -/
theorem leD_path {a b : Row} (h : leD (rowD a) (rowD b) = true) : leD (.str (pathOf a.1)) (.str (pathOf b.1)) = true := by
  by_cases e : pathOf a.1 = pathOf b.1
  · rw [e]
    rcases leD_total (.str (pathOf b.1)) (.str (pathOf b.1)) with z | z <;> exact z
  · have ne : (Sum.inr (pathOf b.1).cps.toList : Int ⊕ List Nat) ≠ .inr (pathOf a.1).cps.toList := fun z => e (PySem.W.str_of_cps (Sum.inr.inj z)).symm
    have k : PySem.W.dataLt (rowD b) (rowD a) = PySem.W.dataLt (.str (pathOf b.1)) (.str (pathOf a.1)) :=
      (PySem.W.lex_pre [.inl 1] _ _).trans (PySem.W.lex_atom ne _ _)
    unfold leD at h ⊢
    rw [← k]
    exact h
theorem sortR_sorted (rs : List Row) : (sortR rs).Pairwise (fun a b => leD (rowD a) (rowD b) = true) := by
  have h := sortD_sorted (rs.map rowD)
  rw [← sortR_map, List.pairwise_map] at h
  exact h
def pz (r : Row) : V × PyData := (.str (pathOf r.1), .str (pathOf r.1))
theorem sorted_paths {rs : List Row} (p : Row → Bool) : (((sortR rs).filter p).map pz).mergeSort leZ = ((sortR rs).filter p).map pz := by
  refine List.mergeSort_of_pairwise ?_
  rw [List.pairwise_map]
  exact ((sortR_sorted rs).imp fun h => leD_path h).filter p
/-- the end of a path, cut out by signs -/
theorem slice_len (z : Str) (lo hi : Option Int) : (Txt.slice z lo hi).length ≤ z.length := by
  rw [← C8.cutS_slice]
  unfold cutS
  show (_ : List _).toArray.size ≤ z.cps.size
  rw [List.size_toArray, List.length_take, List.length_drop, Array.length_toList]
  omega
theorem end_is {qs : List Str} {n nm : Str} (hn : isPart n = true) (hm : isPart nm = true) : (Txt.slice (pathOf (qs ++ [n])) (some ((pathOf (qs ++ [n])).length - nm.length - 1)) none = sl ++ nm) ↔ n = nm := by
  have e : cs (pathOf (qs ++ [n])) = cs (headT qs) ++ 47 :: cs n := by
    rw [path_snoc, cs_cat, cs_cat, cs_sl]
    simp
  have l1 := len_cs (pathOf (qs ++ [n]))
  have l2 := len_cs nm
  have l3 := len_cs n
  have el : (cs (pathOf (qs ++ [n]))).length = (cs (headT qs)).length + 1 + (cs n).length := by
    rw [e, List.length_append, List.length_cons]
    omega
  constructor
  · intro h
    by_cases c : (0 : Int) ≤ (pathOf (qs ++ [n])).length - nm.length - 1
    · rw [← S_cs (pathOf (qs ++ [n])), SX.slice_from (by rw [S_cs]; exact c), ← S_cs (sl ++ nm)] at h
      have h := SX.S_inj h
      rw [cs_cat, cs_sl, e] at h
      -- both end behind their last stroke
      have h2 : 47 :: cs nm <:+ cs (headT qs) ++ 47 :: cs n := by
        rw [show 47 :: cs nm = [47] ++ cs nm from rfl, ← h]
        exact List.drop_suffix _ _
      have nn1 := (part_facts hn).2.1
      have nn2 := (part_facts hm).2.1
      have h3 : 47 :: cs n <:+ cs (headT qs) ++ 47 :: cs n := List.suffix_append _ _
      have key : ∀ {a b : List Nat}, 47 ∉ b → 47 :: a <:+ 47 :: b → a = b := by
        intro a b hb hs
        rcases List.suffix_cons_iff.mp hs with z | z
        · injection z
        · exact absurd (z.subset (List.mem_cons_self ..)) hb
      have : cs n = cs nm := by
        rcases Nat.le_total (47 :: cs nm).length (47 :: cs n).length with z | z
        · exact (key nn1 (List.suffix_of_suffix_length_le h2 h3 z)).symm
        · exact key nn2 (List.suffix_of_suffix_length_le h3 h2 z)
      rw [← S_cs n, ← S_cs nm, this]
    · have h1 := slice_len (pathOf (qs ++ [n])) (some ((pathOf (qs ++ [n])).length - nm.length - 1)) none
      rw [h] at h1
      have h2 : (sl ++ nm).length = nm.length + 1 := stroke_len nm
      omega
  · rintro rfl
    have a1 : ((pathOf (qs ++ [n])).length : Int) - n.length - 1 = ((cs (headT qs)).length : Int) := by omega
    rw [a1, ← S_cs (pathOf (qs ++ [n])), SX.slice_from (by omega), e, Int.toNat_natCast, List.drop_left, ← S_cs (sl ++ n), cs_cat, cs_sl]
    rfl
end Tm

/-! what is named by parts, by names alone; a room moved -/
namespace Tm
open PySem PySem.Spec PyProof.Rows L2
def nAt (W : Wd) : Nat → List Str → Option Nat
  | n, [] => some n
  | n, s :: ps => (look s (W.at n).names).bind fun k => nAt W k ps
theorem nAt_app {W : Wd} : ∀ (n : Nat) (ps qs : List Str), nAt W n (ps ++ qs) = (nAt W n ps).bind fun k => nAt W k qs
  | n, [], qs => rfl
  | n, s :: ps, qs => by
    show (look s (W.at n).names).bind (fun k => nAt W k (ps ++ qs)) = ((look s (W.at n).names).bind fun k => nAt W k ps).bind _
    cases look s (W.at n).names with
    | none => rfl
    | some k => exact nAt_app k ps qs
theorem nAt_snoc {W : Wd} {n k : Nat} {ps : List Str} {s : Str} (h : nAt W n (ps ++ [s]) = some k) : ∃ r, nAt W n ps = some r ∧ look s (W.at r).names = some k := by
  rw [nAt_app] at h
  cases hr : nAt W n ps with
  | none => rw [hr] at h; cases h
  | some r =>
    rw [hr] at h
    refine ⟨r, rfl, ?_⟩
    have h : (look s (W.at r).names).bind (fun k => some k) = some k := h
    cases hl : look s (W.at r).names with
    | none => rw [hl] at h; cases h
    | some j => rw [hl] at h; exact h
theorem nAt_step {W : Wd} {n r k : Nat} {ps : List Str} {s : Str} (h : nAt W n ps = some r) (hl : look s (W.at r).names = some k) : nAt W n (ps ++ [s]) = some k := by
  rw [nAt_app, h]
  show (look s (W.at r).names).bind _ = _
  rw [hl]
  rfl
theorem nAt_lt {W : Wd} (ok : W.Ok) : ∀ {n k : Nat} {ps : List Str}, n < W.nodes.length → nAt W n ps = some k → k < W.nodes.length
  | n, k, [], hn, h => by cases h; exact hn
  | n, k, s :: ps, hn, h => by
    cases hl : look s (W.at n).names with
    | none =>
      have h : (look s (W.at n).names).bind (fun k => nAt W k ps) = some k := h
      rw [hl] at h
      cases h
    | some j =>
      have h : (look s (W.at n).names).bind (fun k => nAt W k ps) = some k := h
      rw [hl] at h
      exact nAt_lt ok (name_lt2 ok (look_mem hl)) h
theorem room_of_name {W : Wd} (ok : W.Ok) {r k : Nat} {s : Str} (h : look s (W.at r).names = some k) : (W.at r).kind = "room" := by
  have hm := look_mem h
  have hr := name_lt hm
  refine Decidable.byContradiction fun z => ?_
  rw [(ok.at hr).lf z] at hm
  cases hm
/-- a room is named by one path alone -/
theorem nAt_one {W : Wd} (ok : W.Ok) (t : Tree W) : ∀ (m : Nat) {ps qs : List Str} {k : Nat}, ps.length ≤ m → nAt W 0 ps = some k → nAt W 0 qs = some k → (W.at k).kind = "room" → ps = qs := by
  intro m
  induction m with
  | zero =>
    intro ps qs k hl h1 h2 hk
    have : ps = [] := List.length_eq_zero_iff.mp (by omega)
    subst this
    cases h1
    rcases List.eq_nil_or_concat qs with rfl | ⟨qs', s, rfl⟩
    · rfl
    · rw [List.concat_eq_append] at h2
      obtain ⟨r, _, hr⟩ := nAt_snoc h2
      exact absurd ⟨s, look_mem hr, hk⟩ (t.top r)
  | succ m ih =>
    intro ps qs k hl h1 h2 hk
    rcases List.eq_nil_or_concat ps with rfl | ⟨ps', s, rfl⟩
    · cases h1
      rcases List.eq_nil_or_concat qs with rfl | ⟨qs', s, rfl⟩
      · rfl
      · rw [List.concat_eq_append] at h2
        obtain ⟨r, _, hr⟩ := nAt_snoc h2
        exact absurd ⟨s, look_mem hr, hk⟩ (t.top r)
    · rw [List.concat_eq_append] at h1 hl ⊢
      obtain ⟨r, h1r, hr⟩ := nAt_snoc h1
      rcases List.eq_nil_or_concat qs with rfl | ⟨qs', s', rfl⟩
      · cases h2
        exact absurd ⟨s, look_mem hr, hk⟩ (t.top r)
      · rw [List.concat_eq_append] at h2 ⊢
        obtain ⟨r', h2r, hr'⟩ := nAt_snoc h2
        obtain ⟨e1, e2⟩ := t.one _ _ _ _ _ (look_mem hr) (look_mem hr') hk
        subst e1
        subst e2
        rw [ih (by rw [List.length_append, List.length_singleton] at hl; omega) h1r h2r (room_of_name ok hr)]
/-- all rows, as what is named -/
theorem go_mem {W : Wd} (ok : W.Ok) : ∀ (m n : Nat) (ps : List Str) (r : Row), r ∈ allGo W m n ps ↔ ∃ qs k, r = (ps ++ qs, (W.at k).kind) ∧ qs ≠ [] ∧ qs.length ≤ m ∧ nAt W n qs = some k
  | 0, n, ps, r => by
    constructor
    · intro h
      cases h
    · rintro ⟨qs, k, _, h2, h3, _⟩
      exact absurd (List.length_eq_zero_iff.mp (by omega)) h2
  | m + 1, n, ps, r => by
    unfold allGo
    rw [List.mem_flatMap]
    constructor
    · rintro ⟨p, hp, hr⟩
      have hlk : look p.1 (W.at n).names = some p.2 := look_of_mem ok hp
      rcases List.mem_cons.mp hr with rfl | hr
      · refine ⟨[p.1], p.2, rfl, by simp, by simp, ?_⟩
        show (look p.1 (W.at n).names).bind _ = _
        rw [hlk]
        rfl
      · split at hr
        · obtain ⟨qs, k, h1, h2, h3, h4⟩ := (go_mem ok m p.2 (ps ++ [p.1]) r).mp hr
          refine ⟨p.1 :: qs, k, by rw [h1]; simp, by simp, by rw [List.length_cons]; omega, ?_⟩
          show (look p.1 (W.at n).names).bind _ = _
          rw [hlk]
          exact h4
        · cases hr
    · rintro ⟨qs, k, h1, h2, h3, h4⟩
      cases qs with
      | nil => exact absurd rfl h2
      | cons s qs =>
        have h4 : (look s (W.at n).names).bind (fun k => nAt W k qs) = some k := h4
        cases hl : look s (W.at n).names with
        | none => rw [hl] at h4; cases h4
        | some j =>
          rw [hl] at h4
          have h4 : nAt W j qs = some k := h4
          refine ⟨(s, j), look_mem hl, ?_⟩
          cases qs with
          | nil =>
            cases h4
            rw [h1]
            exact List.mem_cons_self ..
          | cons s2 qs =>
            have hj : (W.at j).kind = "room" := by
              have h5 : (look s2 (W.at j).names).bind (fun k => nAt W k qs) = some k := h4
              cases hl2 : look s2 (W.at j).names with
              | none => rw [hl2] at h5; cases h5
              | some i => exact room_of_name ok hl2
            refine List.mem_cons_of_mem _ ?_
            rw [if_pos hj]
            refine (go_mem ok m j (ps ++ [s]) r).mpr ⟨s2 :: qs, k, by rw [h1]; simp, by simp, by rw [List.length_cons] at h3; omega, h4⟩
theorem go_big {W : Wd} (ok : W.Ok) (t : Tree W) {m n : Nat} {ps : List Str} (h : W.nodes.length + 1 ≤ m) : allGo W m n ps = allOf W n ps := by
  have hg := t.hgt ok n (Nat.le_refl W.nodes.length)
  obtain ⟨m', rfl⟩ : ∃ m', m = m' + 1 := ⟨m - 1, by omega⟩
  exact all_same _ m' n ps hg (by omega)
theorem all_mem {W : Wd} (ok : W.Ok) (t : Tree W) {n : Nat} {ps : List Str} {r : Row} : r ∈ allOf W n ps ↔ ∃ qs k, r = (ps ++ qs, (W.at k).kind) ∧ qs ≠ [] ∧ nAt W n qs = some k := by
  constructor
  · intro h
    obtain ⟨qs, k, h1, h2, _, h4⟩ := (go_mem ok _ _ _ _).mp h
    exact ⟨qs, k, h1, h2, h4⟩
  · rintro ⟨qs, k, h1, h2, h4⟩
    rw [← go_big ok t (m := W.nodes.length + 1 + qs.length) (by omega)]
    exact (go_mem ok _ _ _ _).mpr ⟨qs, k, h1, h2, by omega, h4⟩
/-- as deep as the rows tell: what the keeper sees is all -/
theorem ben_deep {W : Wd} (ok : W.Ok) (t : Tree W) (ho : W.over = []) : ∀ (m : Nat) {ss : List Std}, Chain W ss → (∀ r ∈ allGo W m (last ss).number (tailNm ss), r.2 = "room" → r.1.length ≤ 11) → benGo W 0 m ss = allGo W m (last ss).number (tailNm ss)
  | 0, ss, h, hd => rfl
  | m + 1, ss, h, hd => by
    obtain ⟨rank, hr⟩ := t.rk
    have sl1 : (tailNm ss).length + 1 = ss.length := by
      have := List.length_pos_iff.mpr h.ne
      rw [tailNm_len]
      omega
    unfold allGo at hd
    have key : ∀ l : List (Str × Nat), (∀ p ∈ l, p ∈ (W.at (last ss).number).names) → (l.flatMap fun p => (tailNm ss ++ [p.1], (W.at p.2).kind) :: (if goIn W 0 ss p = true then benGo W 0 m (ss ++ [standOf W p.2 p.1]) else [])) = l.flatMap fun p => (tailNm ss ++ [p.1], (W.at p.2).kind) :: (if (W.at p.2).kind = "room" then allGo W m p.2 (tailNm ss ++ [p.1]) else []) := by
      intro l hl
      induction l with
      | nil => rfl
      | cons p l ih =>
        rw [List.flatMap_cons, List.flatMap_cons, ih fun q hq => hl q (List.mem_cons_of_mem _ hq)]
        have hp := hl p (List.mem_cons_self ..)
        by_cases c : (W.at p.2).kind = "room"
        · have kid : Kid W (last ss).number p.2 := ⟨p.1, hp, c⟩
          have hnm := ((ok.at (name_lt (n := p.1) (c := p.2) hp)).nam p hp).1
          have ch : Chain W (ss ++ [standOf W p.2 p.1]) := .step h (look_of_mem ok hp) c hnm
          have hlen := hd (tailNm ss ++ [p.1], (W.at p.2).kind) (List.mem_flatMap.mpr ⟨p, hp, List.mem_cons_self ..⟩) c
          rw [List.length_append, List.length_singleton] at hlen
          have hg : goIn W 0 ss p = true := by
            unfold goIn
            rw [decide_eq_true c, stand_plain ho]
            have n1 : p.2 ∉ ss.map (·.number) := fun z => by
              obtain ⟨y, hy, e⟩ := List.mem_map.mp z
              have h1 := h.anc ho hr y hy
              have h2 := hr _ _ kid
              rw [e] at h1
              omega
            rw [decide_eq_true n1, decide_eq_true (show ss.length < 12 by omega), may0]
            rfl
          have e1 : (last (ss ++ [standOf W p.2 p.1])).number = p.2 := by
            unfold last
            rw [List.getLastD_concat, stand_plain ho]
          have e2 := tailNm_snoc (W := W) h.ne p.2 p.1
          rw [if_pos hg, if_pos c, ben_deep ok t ho m ch, e1, e2]
          intro r hr' hrk
          rw [e1, e2] at hr'
          refine hd r (?_) hrk
          exact (List.mem_flatMap.mpr ⟨p, hp, List.mem_cons_of_mem _ (by rw [if_pos c]; exact hr')⟩)
        · have hg : goIn W 0 ss p = false := by
            unfold goIn
            rw [decide_eq_false c]
            rfl
          rw [if_neg (by rw [hg]; decide), if_neg c]
    exact key _ fun _ h => h
/-- rooms by names: the walk -/
theorem nAt_chain {W : Wd} (ok : W.Ok) (ho : W.over = []) : ∀ (m : Nat) {ps : List Str} {k : Nat}, ps.length ≤ m → nAt W 0 ps = some k → (W.at k).kind = "room" → ∃ ss, Chain W ss ∧ tailNm ss = ps ∧ (last ss).number = k := by
  intro m
  induction m with
  | zero =>
    intro ps k hl h hk
    have : ps = [] := List.length_eq_zero_iff.mp (by omega)
    subst this
    cases h
    exact ⟨[std0], .top, rfl, rfl⟩
  | succ m ih =>
    intro ps k hl h hk
    rcases List.eq_nil_or_concat ps with rfl | ⟨ps', s, rfl⟩
    · cases h
      exact ⟨[std0], .top, rfl, rfl⟩
    · rw [List.concat_eq_append] at h hl ⊢
      obtain ⟨r, h1, h2⟩ := nAt_snoc h
      obtain ⟨ss, c1, c2, c3⟩ := ih (by rw [List.length_append, List.length_singleton] at hl; omega) h1 (room_of_name ok h2)
      rw [← c3] at h2
      refine ⟨ss ++ [standOf W k s], .step c1 h2 hk ((ok.at (name_lt (look_mem h2))).nam _ (look_mem h2)).1, by rw [tailNm_snoc c1.ne, c2], ?_⟩
      unfold last
      rw [List.getLastD_concat, stand_plain ho]
theorem chain_nAt {W : Wd} (ho : W.over = []) {ss : List Std} (h : Chain W ss) : nAt W 0 (tailNm ss) = some (last ss).number := by
  induction h with
  | top => rfl
  | step h1 h2 h3 h4 ih =>
    rw [tailNm_snoc h1.ne]
    have e1 : ∀ (ss : List Std) (k : Nat) (n : Str), (last (ss ++ [standOf W k n])).number = k := fun ss k n => by
      unfold last
      rw [List.getLastD_concat, stand_plain ho]
    rw [e1]
    exact nAt_step ih h2
/-! ### a room is moved -/
theorem look_drop {s n : Str} : ∀ l : List (Str × Nat), look s (dropN n l) = if s = n then none else look s l
  | [] => by unfold dropN; split <;> rfl
  | (a, b) :: l => by
    have ih := look_drop (s := s) (n := n) l
    unfold dropN at ih ⊢
    rw [List.filter_cons]
    by_cases c : a = n
    · rw [if_neg (by simp [c]), ih]
      by_cases d : s = n
      · rw [if_pos d, if_pos d]
      · rw [if_neg d, if_neg d]
        show _ = if a = s then some b else look s l
        rw [if_neg fun z => d (z.symm.trans c)]
    · rw [if_pos (by simp [c])]
      show (if a = s then some b else look s _) = _
      rw [ih]
      by_cases d : a = s
      · rw [if_pos d, if_neg fun z => c (d.trans z)]
        show _ = if a = s then some b else look s l
        rw [if_pos d]
      · rw [if_neg d]
        show _ = if s = n then none else if a = s then some b else look s l
        rw [if_neg (c := a = s) d]
theorem look_put {s m : Str} {k : Nat} : ∀ l : List (Str × Nat), look m l = none → look s (l ++ [(m, k)]) = if s = m then some k else look s l
  | [], _ => by
    show (if m = s then some k else none) = if s = m then some k else none
    by_cases c : m = s
    · rw [if_pos c, if_pos c.symm]
    · rw [if_neg c, if_neg fun z => c z.symm]
  | (a, b) :: l, h => by
    have h : (if a = m then some b else look m l) = none := h
    by_cases ca : a = m
    · rw [if_pos ca] at h
      cases h
    · rw [if_neg ca] at h
      show (if a = s then some b else look s (l ++ [(m, k)])) = _
      rw [look_put l h]
      by_cases c : a = s
      · rw [if_pos c, if_neg fun z => ca (c.trans z)]
        show _ = if a = s then some b else look s l
        rw [if_pos c]
      · rw [if_neg c]
        show _ = if s = m then some k else if a = s then some b else look s l
        rw [if_neg (c := a = s) c]
structure Mv (W : Wd) (P : List Str) (n : Str) (k r : Nat) (P2 : List Str) (m : Str) (r2 : Nat) : Prop where
  ok : W.Ok
  t : Tree W
  ho : W.over = []
  h1 : nAt W 0 P = some r
  h2 : look n (W.at r).names = some k
  hk : (W.at k).kind = "room"
  h3 : nAt W 0 P2 = some r2
  k2 : (W.at r2).kind = "room"
  h4 : look m (W.at r2).names = none
  nb : ¬ (P ++ [n]) <+: P2
section
variable {W : Wd} {P : List Str} {n : Str} {k r : Nat} {P2 : List Str} {m : Str} {r2 : Nat}
theorem Mv.lr (M : Mv W P n k r P2 m r2) : r < W.nodes.length := name_lt (look_mem M.h2)
theorem Mv.lr2 (M : Mv W P n k r P2 m r2) : r2 < W.nodes.length := nAt_lt M.ok M.ok.one M.h3
theorem Mv.old (M : Mv W P n k r P2 m r2) : nAt W 0 (P ++ [n]) = some k := nAt_step M.h1 M.h2
theorem Mv.new (M : Mv W P n k r P2 m r2) : nAt W 0 (P2 ++ [m]) = none := by
  rw [nAt_app, M.h3]
  show (look m (W.at r2).names).bind _ = _
  rw [M.h4]
  rfl
theorem Mv.kind (M : Mv W P n k r P2 m r2) (j : Nat) : ((moveW W r n k r2 m).at j).kind = (W.at j).kind ∧ ((moveW W r n k r2 m).at j).text = (W.at j).text := by
  have a1 : (moveW W r n k r2 m).at j = if j = r2 then ((dropW W r n).at r2).name m k else (dropW W r n).at j := Wd.at_put (by rw [show (dropW W r n).nodes.length = W.nodes.length from Wd.len_put]; exact M.lr2)
  have a2 : ∀ j, (dropW W r n).at j = if j = r then { W.at r with names := dropN n (W.at r).names } else W.at j := fun j => drop_at M.lr
  rw [a1]
  split
  · rename_i e
    subst e
    rw [a2]
    split
    · rename_i e
      subst e
      exact ⟨rfl, rfl⟩
    · exact ⟨rfl, rfl⟩
  · rw [a2]
    split
    · rename_i e
      subst e
      exact ⟨rfl, rfl⟩
    · exact ⟨rfl, rfl⟩
theorem Mv.look (M : Mv W P n k r P2 m r2) (j : Nat) (s : Str) : look s ((moveW W r n k r2 m).at j).names = if j = r2 ∧ s = m then some k else if j = r ∧ s = n then none else look s (W.at j).names := by
  have a1 : (moveW W r n k r2 m).at j = if j = r2 then ((dropW W r n).at r2).name m k else (dropW W r n).at j := Wd.at_put (by rw [show (dropW W r n).nodes.length = W.nodes.length from Wd.len_put]; exact M.lr2)
  have a2 : ∀ j, (dropW W r n).at j = if j = r then { W.at r with names := dropN n (W.at r).names } else W.at j := fun j => drop_at M.lr
  have a3 : ∀ j s, Tm.look s ((dropW W r n).at j).names = if j = r ∧ s = n then none else Tm.look s (W.at j).names := fun j s => by
    rw [a2]
    by_cases c : j = r
    · subst c
      rw [if_pos rfl]
      show Tm.look s (dropN n (W.at j).names) = _
      rw [look_drop]
      by_cases d : s = n
      · rw [if_pos d, if_pos ⟨rfl, d⟩]
      · rw [if_neg d, if_neg fun z => d z.2]
    · rw [if_neg c, if_neg fun z => c z.1]
  rw [a1]
  by_cases c : j = r2
  · subst c
    rw [if_pos rfl]
    show Tm.look s (((dropW W r n).at j).names ++ [(m, k)]) = _
    rw [look_put _ (by
      rw [a3]
      split
      · rfl
      · exact M.h4), a3]
    by_cases d : s = m
    · rw [if_pos d, if_pos ⟨rfl, d⟩]
    · rw [if_neg d, if_neg (c := j = j ∧ s = m) fun z => d z.2]
  · rw [if_neg c, if_neg (c := j = r2 ∧ s = m) fun z => c z.1, a3]
theorem Mv.sub (M : Mv W P n k r P2 m r2) : ∀ (ps qs : List Str) (j : Nat), nAt W 0 qs = some j → (P ++ [n]) <+: qs → nAt (moveW W r n k r2 m) j ps = nAt W j ps
  | [], qs, j, h, hp => rfl
  | s :: ps, qs, j, h, hp => by
    have e1 : ¬ j = r2 := fun z => by
      subst z
      rw [nAt_one M.ok M.t _ (Nat.le_refl _) h M.h3 M.k2] at hp
      exact M.nb hp
    have e2 : ¬ j = r := fun z => by
      subst z
      rw [nAt_one M.ok M.t _ (Nat.le_refl _) h M.h1 (room_of_name M.ok M.h2)] at hp
      have := hp.length_le
      rw [List.length_append, List.length_singleton] at this
      omega
    show (Tm.look s ((moveW W r n k r2 m).at j).names).bind _ = (Tm.look s (W.at j).names).bind _
    rw [M.look, if_neg fun z => e1 z.1, if_neg fun z => e2 z.1]
    cases hl : Tm.look s (W.at j).names with
    | none => rfl
    | some i => exact M.sub ps (qs ++ [s]) i (nAt_step h hl) (hp.trans (List.prefix_append _ _))
theorem snoc_pre {A B : List Str} {x y : Str} (h : A ++ [x] <+: B ++ [y]) : A ++ [x] = B ++ [y] ∨ A ++ [x] <+: B := by
  rcases List.prefix_concat_iff.mp h with z | z
  · exact .inl z
  · exact .inr z
theorem Mv.npre (M : Mv W P n k r P2 m r2) {qs : List Str} {j : Nat} (h : nAt W 0 qs = some j) : ¬ (P2 ++ [m]) <+: qs := fun ⟨u, hu⟩ => by
  rw [← hu, nAt_app, M.new] at h
  cases h
theorem Mv.ne (M : Mv W P n k r P2 m r2) : P2 ++ [m] ≠ P ++ [n] := fun z => by
  have := M.new
  rw [z, M.old] at this
  cases this
theorem Mv.top (M : Mv W P n k r P2 m r2) : ∀ (ps qs : List Str) (j : Nat), nAt W 0 qs = some j → ¬ (P ++ [n]) <+: qs → nAt (moveW W r n k r2 m) j ps = if (P2 ++ [m]) <+: qs ++ ps then nAt W k ((qs ++ ps).drop (P2 ++ [m]).length) else if (P ++ [n]) <+: qs ++ ps then none else nAt W j ps
  | [], qs, j, h, hp => by
    rw [List.append_nil, if_neg (M.npre h), if_neg hp]
    rfl
  | s :: ps, qs, j, h, hp => by
    show (Tm.look s ((moveW W r n k r2 m).at j).names).bind _ = _
    rw [M.look]
    by_cases c1 : j = r2 ∧ s = m
    · obtain ⟨e1, e2⟩ := c1
      subst e1
      subst e2
      have e := nAt_one M.ok M.t _ (Nat.le_refl _) h M.h3 M.k2
      rw [if_pos ⟨rfl, rfl⟩, e, show P2 ++ s :: ps = P2 ++ [s] ++ ps by simp, if_pos (List.prefix_append _ _), List.drop_left]
      exact M.sub ps (P ++ [n]) k M.old (List.prefix_refl _)
    rw [if_neg c1]
    by_cases c2 : j = r ∧ s = n
    · obtain ⟨e1, e2⟩ := c2
      subst e1
      subst e2
      have e := nAt_one M.ok M.t _ (Nat.le_refl _) h M.h1 (room_of_name M.ok M.h2)
      rw [if_pos ⟨rfl, rfl⟩, e, show P ++ s :: ps = P ++ [s] ++ ps by simp]
      have hn : ¬ (P2 ++ [m]) <+: P ++ [s] ++ ps := fun z => by
        rcases List.prefix_or_prefix_of_prefix z (List.prefix_append (P ++ [s]) ps) with y | y
        · rcases snoc_pre y with y | y
          · exact M.ne y
          · exact M.npre M.h1 y
        · rcases snoc_pre y with y | y
          · exact M.ne y.symm
          · exact M.nb y
      rw [if_neg hn, if_pos (List.prefix_append _ _)]
      rfl
    rw [if_neg c2]
    cases hl : Tm.look s (W.at j).names with
    | none =>
      have hn : ¬ (P2 ++ [m]) <+: qs ++ s :: ps := fun z => by
        have z : (P2 ++ [m]) <+: qs ++ [s] ++ ps := by simpa using z
        rcases List.prefix_or_prefix_of_prefix z (List.prefix_append (qs ++ [s]) ps) with y | y
        · rcases snoc_pre y with y | y
          · obtain ⟨y1, y2⟩ := List.append_inj' y rfl
            rw [← y1, M.h3] at h
            cases h
            cases y2
            exact c1 ⟨rfl, rfl⟩
          · exact M.npre h y
        · rcases snoc_pre y with y | y
          · obtain ⟨y1, y2⟩ := List.append_inj' y rfl
            rw [y1, M.h3] at h
            cases h
            cases y2
            exact c1 ⟨rfl, rfl⟩
          · obtain ⟨u, hu⟩ := y
            have h3 := M.h3
            rw [← hu, nAt_app, nAt_app, h] at h3
            have h3 : (((Tm.look s (W.at j).names).bind fun k => nAt W k []).bind fun k => nAt W k u) = some r2 := h3
            rw [hl] at h3
            cases h3
      rw [if_neg hn]
      split
      · rfl
      · show _ = (Tm.look s (W.at j).names).bind _
        rw [hl]
        rfl
    | some i =>
      have hp' : ¬ (P ++ [n]) <+: qs ++ [s] := fun z => by
        rcases snoc_pre z with z | z
        · obtain ⟨z1, z2⟩ := List.append_inj' z rfl
          rw [← z1, M.h1] at h
          cases h
          cases z2
          exact c2 ⟨rfl, rfl⟩
        · exact hp z
      have ih := M.top ps (qs ++ [s]) i (nAt_step h hl) hp'
      rw [List.append_assoc, List.singleton_append] at ih
      have e : nAt W j (s :: ps) = nAt W i ps := by
        show (Tm.look s (W.at j).names).bind _ = _
        rw [hl]
        rfl
      rw [e]
      exact ih
theorem Mv.at0 (M : Mv W P n k r P2 m r2) (ps : List Str) : nAt (moveW W r n k r2 m) 0 ps = if (P2 ++ [m]) <+: ps then nAt W k (ps.drop (P2 ++ [m]).length) else if (P ++ [n]) <+: ps then none else nAt W 0 ps := by
  have := M.top ps [] 0 rfl (fun z => by have := z.length_le; simp at this)
  rwa [List.nil_append] at this
end
/-! ### paths as signs -/
def fl (ps : List Str) : List Nat := ps.flatMap fun p => 47 :: cs p
theorem fl_app (ps qs : List Str) : fl (ps ++ qs) = fl ps ++ fl qs := List.flatMap_append
theorem head_cs : ∀ (m : Nat) (ps : List Str), ps.length ≤ m → cs (headT ps) = fl ps := by
  intro m
  induction m with
  | zero =>
    intro ps h
    have : ps = [] := List.length_eq_zero_iff.mp (by omega)
    subst this
    decide +kernel
  | succ m ih =>
    intro ps h
    rcases List.eq_nil_or_concat ps with rfl | ⟨qs, n, rfl⟩
    · decide +kernel
    · rw [List.concat_eq_append] at h ⊢
      have e : headT (qs ++ [n]) = headT qs ++ sl ++ n := by
        rw [← path_snoc]
        unfold headT
        rw [if_neg (by simp)]
      rw [e, cs_cat, cs_cat, cs_sl, ih qs (by rw [List.length_append, List.length_singleton] at h; omega), fl_app]
      simp [fl]
theorem path_cs {ps : List Str} (h : ps ≠ []) : cs (pathOf ps) = fl ps := by
  rw [← head_cs _ ps (Nat.le_refl _)]
  unfold headT
  rw [if_neg h]
theorem seg_eq {a b x y : List Nat} (ha : 47 ∉ a) (hb : 47 ∉ b) (hy : y = [] ∨ ∃ z, y = 47 :: z) (h : a ++ 47 :: x <+: b ++ y) : a = b ∧ 47 :: x <+: y := by
  induction a generalizing b with
  | nil =>
    cases b with
    | nil => exact ⟨rfl, h⟩
    | cons c b =>
      obtain ⟨u, hu⟩ := h
      injection hu with h1 h2
      exact absurd (by rw [← h1]; exact List.mem_cons_self ..) hb
  | cons d a ih =>
    cases b with
    | nil =>
      obtain ⟨u, hu⟩ := h
      rcases hy with rfl | ⟨z, rfl⟩
      · cases hu
      · injection hu with h1 h2
        exact absurd (by rw [← h1]; exact List.mem_cons_self ..) ha
    | cons c b =>
      obtain ⟨u, hu⟩ := h
      injection hu with h1 h2
      obtain ⟨e1, e2⟩ := ih (fun z => ha (List.mem_cons_of_mem _ z)) (b := b) (fun z => hb (List.mem_cons_of_mem _ z)) ⟨u, h2⟩
      exact ⟨by rw [h1, e1], e2⟩
theorem fl_head (ps : List Str) : fl ps = [] ∨ ∃ z, fl ps = 47 :: z := by
  cases ps with
  | nil => exact .inl rfl
  | cons p ps => exact .inr ⟨_, rfl⟩
theorem fl_pre : ∀ (qs ps : List Str), (∀ p ∈ qs, 47 ∉ cs p) → (∀ p ∈ ps, 47 ∉ cs p) → (fl qs ++ [47] <+: fl ps ↔ qs <+: ps ∧ qs ≠ ps)
  | [], [], _, _ => by
    constructor
    · rintro ⟨u, hu⟩
      cases hu
    · rintro ⟨_, z⟩
      exact absurd rfl z
  | [], p :: ps, _, _ => ⟨fun _ => ⟨List.nil_prefix, by simp⟩, fun _ => ⟨cs p ++ fl ps, rfl⟩⟩
  | q :: qs, [], _, _ => by
    constructor
    · rintro ⟨u, hu⟩
      cases hu
    · rintro ⟨⟨u, hu⟩, _⟩
      cases hu
  | q :: qs, p :: ps, hq, hp => by
    have nq := hq q (List.mem_cons_self ..)
    have np := hp p (List.mem_cons_self ..)
    have ih := fl_pre qs ps (fun x hx => hq x (List.mem_cons_of_mem _ hx)) (fun x hx => hp x (List.mem_cons_of_mem _ hx))
    constructor
    · intro h
      have h : 47 :: (cs q ++ (fl qs ++ [47])) <+: 47 :: (cs p ++ fl ps) := by
        have : fl (q :: qs) ++ [47] = 47 :: (cs q ++ (fl qs ++ [47])) := by simp [fl]
        rw [this] at h
        exact h
      obtain ⟨_, h⟩ := List.cons_prefix_cons.mp h
      obtain ⟨x, hx⟩ : ∃ x, fl qs ++ [47] = 47 :: x := by
        rcases fl_head qs with z | ⟨z, hz⟩
        · exact ⟨[], by rw [z]; rfl⟩
        · exact ⟨z ++ [47], by rw [hz]; rfl⟩
      rw [hx] at h
      obtain ⟨e1, e2⟩ := seg_eq nq np (fl_head ps) h
      rw [← hx] at e2
      obtain ⟨z1, z2⟩ := ih.mp e2
      have e : q = p := by rw [← S_cs q, ← S_cs p, e1]
      subst e
      exact ⟨List.cons_prefix_cons.mpr ⟨rfl, z1⟩, fun z => z2 (List.cons.inj z).2⟩
    · rintro ⟨h1, h2⟩
      obtain ⟨e, h3⟩ := List.cons_prefix_cons.mp h1
      subst e
      have := ih.mpr ⟨h3, fun z => h2 (by rw [z])⟩
      have e : fl (q :: qs) ++ [47] = (47 :: cs q) ++ (fl qs ++ [47]) := by simp [fl]
      have e2 : fl (q :: ps) = (47 :: cs q) ++ fl ps := by simp [fl]
      rw [e, e2]
      exact (List.prefix_append_right_inj _).mpr this
theorem no47 {ps : List Str} (h : goodParts ps = true) : ∀ p ∈ ps, 47 ∉ cs p := fun p hp => (part_facts ((good_all h).2 p hp)).2.1
/-- ahead of a path: another one -/
theorem ahead_is {ps qs : List Str} (hp : goodParts ps = true) (hq : goodParts qs = true) (np : ps ≠ []) (nq : qs ≠ []) : (Txt.slice (pathOf ps) none (some ((pathOf qs).length + 1)) = pathOf qs ++ sl) ↔ qs <+: ps ∧ qs ≠ ps := by
  rw [← fl_pre qs ps (no47 hq) (no47 hp)]
  have l1 := len_cs (pathOf qs)
  rw [path_cs nq] at l1
  rw [← S_cs (pathOf ps), path_cs np, SX.slice_to (by omega), ← S_cs (pathOf qs ++ sl), cs_cat, cs_sl, path_cs nq, show (((pathOf qs).length : Int) + 1).toNat = (fl qs ++ [47]).length by rw [List.length_append, List.length_singleton]; omega]
  rw [List.prefix_iff_eq_take]
  exact ⟨fun h => (SX.S_inj h).symm, fun h => by rw [← h]⟩
theorem ahead_nil {qs : List Str} (nq : qs ≠ []) : ¬ (Txt.slice (Str.ofString "") none (some ((pathOf qs).length + 1)) = pathOf qs ++ sl) := fun h => by
  have h1 := slice_len (Str.ofString "") none (some ((pathOf qs).length + 1))
  rw [h] at h1
  have h2 : (pathOf qs ++ sl).length = (pathOf qs).length + 1 := by
    rw [len_cs, cs_cat, List.length_append, ← len_cs, cs_sl]
    rfl
  have h3 : (Str.ofString "").length = 0 := by decide +kernel
  omega
/-- the path on from there, behind another one -/
theorem behind_is {old new qs : List Str} (no : old ≠ []) (nn : new ≠ []) : pathOf new ++ Txt.slice (pathOf (old ++ qs)) (some (pathOf old).length) none = pathOf (new ++ qs) := by
  have l1 := len_cs (pathOf old)
  rw [path_cs no] at l1
  have e : Txt.slice (pathOf (old ++ qs)) (some (pathOf old).length) none = SX.S (fl qs) := by
    rw [← S_cs (pathOf (old ++ qs)), path_cs (by simp [no]), SX.slice_from (by omega), fl_app, show ((pathOf old).length : Int).toNat = (fl old).length by omega, List.drop_left]
  rw [e, ← S_cs (pathOf (new ++ qs)), path_cs (by simp [nn]), fl_app, ← S_cs (pathOf new ++ SX.S (fl qs)), cs_cat, path_cs nn]
theorem count_sl {ps : List Str} (hp : goodParts ps = true) (np : ps ≠ []) : Txt.count (pathOf ps) sl = ps.length := by
  have e : Txt.count (pathOf ps) sl = PyProof.Rows.cnt 47 (cs (pathOf ps)) := PyProof.Rows.count_is (pathOf ps) 47
  rw [e, path_cs np]
  have h := no47 hp
  clear e hp np
  induction ps with
  | nil => rfl
  | cons p ps ih =>
    have e1 : fl (p :: ps) = 47 :: (cs p ++ fl ps) := rfl
    have e2 : ∀ l : List Nat, 47 ∉ l → PyProof.Rows.cnt 47 l = 0 := by
      intro l
      induction l with
      | nil => intro _; rfl
      | cons x l ih =>
        intro hl
        rw [PyProof.Rows.cnt_cons, if_neg fun z => hl (by rw [z]; exact List.mem_cons_self ..), ih fun z => hl (List.mem_cons_of_mem _ z)]
        rfl
    rw [e1, PyProof.Rows.cnt_cons, if_pos rfl, PyProof.Rows.cnt_append, e2 _ (h p (List.mem_cons_self ..)), ih fun q hq => h q (List.mem_cons_of_mem _ hq), List.length_cons]
    omega
/-! ### rows of the world in which a room is moved -/
theorem go_pre {W : Wd} (ok : W.Ok) {m n : Nat} {ps : List Str} : ∀ r ∈ allGo W m n ps, ∃ s t, r.1 = ps ++ s :: t := fun r hr => by
  obtain ⟨qs, k, h1, h2, _, _⟩ := (go_mem ok m n ps r).mp hr
  cases qs with
  | nil => exact absurd rfl h2
  | cons s t => exact ⟨s, t, by rw [h1]⟩
theorem go_nodup {W : Wd} (ok : W.Ok) : ∀ (m n : Nat) (ps : List Str), n < W.nodes.length → ((allGo W m n ps).map (·.1)).Nodup
  | 0, n, ps, _ => List.nodup_nil
  | m + 1, n, ps, hn => by
    have hd := (ok.at hn).dup
    have hin : ∀ p ∈ (W.at n).names, p.2 < W.nodes.length := fun p hp => ((ok.at hn).nam p hp).2
    unfold allGo
    generalize (W.at n).names = l at hd hin
    induction l with
    | nil => exact List.nodup_nil
    | cons p l ih =>
      rw [List.map_cons, List.nodup_cons] at hd
      rw [List.flatMap_cons, List.map_append, List.nodup_append]
      have blk : ∀ q : Str × Nat, ∀ x ∈ (((ps ++ [q.1], (W.at q.2).kind) :: (if (W.at q.2).kind = "room" then allGo W m q.2 (ps ++ [q.1]) else [])).map (·.1)), ∃ t, x = ps ++ q.1 :: t := by
        intro q x hx
        obtain ⟨r, hr, rfl⟩ := List.mem_map.mp hx
        rcases List.mem_cons.mp hr with rfl | hr
        · exact ⟨[], rfl⟩
        · split at hr
          · obtain ⟨s, t, e⟩ := go_pre ok r hr
            exact ⟨s :: t, by rw [e]; simp⟩
          · cases hr
      refine ⟨?_, ih hd.2 fun q hq => hin q (List.mem_cons_of_mem _ hq), fun a ha b hb z => ?_⟩
      · rw [List.map_cons, List.nodup_cons]
        constructor
        · intro z
          obtain ⟨r, hr, e⟩ := List.mem_map.mp z
          split at hr
          · obtain ⟨s, t, e2⟩ := go_pre ok r hr
            have e := e.symm.trans e2
            have := congrArg List.length e
            simp at this
          · cases hr
        · split
          · exact go_nodup ok m _ _ (hin p (List.mem_cons_self ..))
          · exact List.nodup_nil
      · obtain ⟨t1, e1⟩ := blk p a ha
        obtain ⟨r, hr, e2⟩ := List.mem_map.mp hb
        obtain ⟨q, hq, hr⟩ := List.mem_flatMap.mp hr
        obtain ⟨t2, e3⟩ := blk q b (List.mem_map.mpr ⟨r, hr, e2⟩)
        rw [e1, e3] at z
        have z := List.append_cancel_left z
        injection z with z1 z2
        exact hd.1 (by rw [z1]; exact List.mem_map.mpr ⟨q, hq, rfl⟩)
theorem nodup_map {α β : Type} {f : α → β} : ∀ {l : List α}, (l.map f).Nodup → l.Nodup
  | [], _ => List.nodup_nil
  | a :: l, h => by
    rw [List.map_cons, List.nodup_cons] at h
    exact List.nodup_cons.mpr ⟨fun z => h.1 (List.mem_map.mpr ⟨a, z, rfl⟩), nodup_map h.2⟩
theorem all_nodup {W : Wd} (ok : W.Ok) {n : Nat} {ps : List Str} (hn : n < W.nodes.length) : (allOf W n ps).Nodup := nodup_map (go_nodup ok _ n ps hn)
/-- a path elsewhere -/
def mvP (old new : List Str) (r : Row) : Row := (new ++ r.1.drop old.length, r.2)
def offB (old : List Str) (r : Row) : Bool := !decide (old <+: r.1)
section
variable {W : Wd} {P : List Str} {n : Str} {k r : Nat} {P2 : List Str} {m : Str} {r2 : Nat}
theorem Mv.tree (M : Mv W P n k r P2 m r2) : Tree (moveW W r n k r2 m) := by
  refine tree_move M.t M.lr M.lr2 (look_mem M.h2) M.hk fun b => ?_
  have key : ∀ {j}, Below W k j → ∃ qs, nAt W 0 (P ++ [n] ++ qs) = some j := by
    intro j b
    induction b with
    | self => exact ⟨[], by rw [List.append_nil]; exact M.old⟩
    | step h1 h2 ih =>
      obtain ⟨qs, hq⟩ := ih
      obtain ⟨s, h3, _⟩ := h2
      exact ⟨qs ++ [s], by rw [← List.append_assoc]; exact nAt_step hq (look_of_mem M.ok h3)⟩
  obtain ⟨qs, hq⟩ := key b
  have := nAt_one M.ok M.t _ (Nat.le_refl _) hq M.h3 M.k2
  exact M.nb (by rw [← this]; exact List.prefix_append _ _)
theorem Mv.inner (M : Mv W P n k r P2 m r2) (ok' : (moveW W r n k r2 m).Ok) {ps : List Str} {x : Row} : x ∈ allOf (moveW W r n k r2 m) k ps ↔ x ∈ allOf W k ps := by
  rw [all_mem ok' M.tree, all_mem M.ok M.t]
  constructor
  · rintro ⟨qs, j, h1, h2, h3⟩
    exact ⟨qs, j, by rw [h1, (M.kind j).1], h2, by rw [← M.sub qs _ k M.old (List.prefix_refl _)]; exact h3⟩
  · rintro ⟨qs, j, h1, h2, h3⟩
    exact ⟨qs, j, by rw [h1, (M.kind j).1], h2, by rw [M.sub qs _ k M.old (List.prefix_refl _)]; exact h3⟩
theorem all_shift {W : Wd} (ok : W.Ok) (t : Tree W) {k : Nat} {old new : List Str} {x : Row} : x ∈ allOf W k new ↔ ∃ y ∈ allOf W k old, x = mvP old new y := by
  rw [all_mem ok t]
  constructor
  · rintro ⟨qs, j, h1, h2, h3⟩
    refine ⟨(old ++ qs, (W.at j).kind), (all_mem ok t).mpr ⟨qs, j, rfl, h2, h3⟩, ?_⟩
    unfold mvP
    rw [h1, List.drop_left]
  · rintro ⟨y, hy, rfl⟩
    obtain ⟨qs, j, h1, h2, h3⟩ := (all_mem ok t).mp hy
    refine ⟨qs, j, ?_, h2, h3⟩
    unfold mvP
    rw [h1, List.drop_left]
theorem mv_inj {W : Wd} (ok : W.Ok) (t : Tree W) {k : Nat} {old new : List Str} (hk : k < W.nodes.length) : ((allOf W k old).map (mvP old new)).Nodup := by
  have nd := all_nodup ok (ps := old) hk
  have hp : ∀ x ∈ allOf W k old, ∃ qs, x.1 = old ++ qs := fun x hx => by
    obtain ⟨qs, j, h1, _, _⟩ := (all_mem ok t).mp hx
    exact ⟨qs, by rw [h1]⟩
  generalize allOf W k old = l at nd hp
  induction l with
  | nil => exact List.nodup_nil
  | cons x l ih =>
    rw [List.nodup_cons] at nd
    rw [List.map_cons, List.nodup_cons]
    refine ⟨fun z => ?_, ih nd.2 fun y hy => hp y (List.mem_cons_of_mem _ hy)⟩
    obtain ⟨y, hy, e⟩ := List.mem_map.mp z
    obtain ⟨q1, e1⟩ := hp x (List.mem_cons_self ..)
    obtain ⟨q2, e2⟩ := hp y (List.mem_cons_of_mem _ hy)
    unfold mvP at e
    rw [e1, e2, List.drop_left, List.drop_left] at e
    injection e with e3 e4
    have e3 := List.append_cancel_left e3
    have : x = y := Prod.ext (by rw [e1, e2, e3]) e4.symm
    exact nd.1 (by rw [this]; exact hy)
theorem Mv.rows (M : Mv W P n k r P2 m r2) (ok' : (moveW W r n k r2 m).Ok) : (allOf (moveW W r n k r2 m) 0 []).Perm ((allOf W 0 []).filter (offB (P ++ [n])) ++ (allOf W k (P ++ [n])).map (mvP (P ++ [n]) (P2 ++ [m])) ++ [((P2 ++ [m], Str.ofString "room") : Row)]) := by
  have hkl : k < W.nodes.length := name_lt2 M.ok (look_mem M.h2)
  have offN : ∀ x ∈ (allOf W 0 []).filter (offB (P ++ [n])), ¬ (P2 ++ [m]) <+: x.1 := fun x hx => by
    obtain ⟨hx, _⟩ := List.mem_filter.mp hx
    obtain ⟨qs, j, h1, h2, h3⟩ := (all_mem M.ok M.t).mp hx
    rw [h1]
    exact M.npre h3
  have dueN : ∀ x ∈ (allOf W k (P ++ [n])).map (mvP (P ++ [n]) (P2 ++ [m])), (P2 ++ [m]) <+: x.1 ∧ x.1 ≠ P2 ++ [m] := fun x hx => by
    obtain ⟨y, hy, rfl⟩ := List.mem_map.mp hx
    obtain ⟨qs, j, h1, h2, h3⟩ := (all_mem M.ok M.t).mp hy
    refine ⟨List.prefix_append _ _, fun z => h2 ?_⟩
    unfold mvP at z
    rw [h1, List.drop_left] at z
    have := congrArg List.length z
    rw [List.length_append (as := P2 ++ [m])] at this
    exact List.length_eq_zero_iff.mp (by omega)
  refine (List.perm_ext_iff_of_nodup (all_nodup ok' ok'.one) ?_).mpr fun x => ?_
  · rw [List.nodup_append, List.nodup_append]
    refine ⟨⟨(all_nodup M.ok M.ok.one).filter _, mv_inj M.ok M.t hkl, fun a ha b hb z => ?_⟩, List.nodup_cons.mpr ⟨fun z => (nomatch z), List.nodup_nil⟩, fun a ha b hb z => ?_⟩
    · exact offN a ha (by rw [z]; exact (dueN b hb).1)
    · rw [List.mem_singleton.mp hb] at z
      rcases List.mem_append.mp ha with ha | ha
      · exact offN a ha (by rw [z]; exact List.prefix_refl _)
      · exact (dueN a ha).2 (by rw [z])
  · rw [all_mem ok' M.tree, List.mem_append, List.mem_append, List.mem_singleton, List.mem_filter, all_mem M.ok M.t]
    constructor
    · rintro ⟨qs, j, h1, h2, h3⟩
      rw [M.at0] at h3
      rw [List.nil_append] at h1
      rw [(M.kind j).1] at h1
      by_cases c1 : (P2 ++ [m]) <+: qs
      · rw [if_pos c1] at h3
        obtain ⟨u, rfl⟩ := c1
        rw [List.drop_left] at h3
        cases u with
        | nil =>
          cases h3
          right
          rw [h1, List.append_nil, M.hk]
        | cons s u =>
          left; right
          refine List.mem_map.mpr ⟨(P ++ [n] ++ s :: u, (W.at j).kind), (all_mem M.ok M.t).mpr ⟨s :: u, j, rfl, by simp, h3⟩, ?_⟩
          unfold mvP
          rw [List.drop_left, h1]
      · rw [if_neg c1] at h3
        by_cases c2 : (P ++ [n]) <+: qs
        · rw [if_pos c2] at h3
          cases h3
        · rw [if_neg c2] at h3
          left; left
          refine ⟨⟨qs, j, by rw [h1]; rfl, h2, h3⟩, ?_⟩
          unfold offB
          rw [h1, decide_eq_false c2]
          rfl
    · rintro ((⟨⟨qs, j, h1, h2, h3⟩, h4⟩ | h) | h)
      · refine ⟨qs, j, by rw [h1, (M.kind j).1], h2, ?_⟩
        rw [M.at0, if_neg (M.npre h3), if_neg, h3]
        intro z
        unfold offB at h4
        rw [h1] at h4
        have h4 : (!decide ((P ++ [n]) <+: qs)) = true := h4
        rw [decide_eq_true z] at h4
        cases h4
      · obtain ⟨y, hy, rfl⟩ := List.mem_map.mp h
        obtain ⟨qs, j, h1, h2, h3⟩ := (all_mem M.ok M.t).mp hy
        refine ⟨P2 ++ [m] ++ qs, j, ?_, by simp, ?_⟩
        · unfold mvP
          rw [h1, List.drop_left, (M.kind j).1]
          rfl
        · rw [M.at0, if_pos (List.prefix_append _ _), List.drop_left, h3]
      · refine ⟨P2 ++ [m], k, by rw [h, (M.kind k).1, M.hk]; rfl, by simp, ?_⟩
        rw [M.at0, if_pos (List.prefix_refl _), List.drop_length]
        rfl
end
/-! ### walks of the keeper where nothing hangs -/
theorem chain_way {W : Wd} {f : Bool} {ss : List Std} (hc : Chain W ss) (hl : ss.length ≤ 12) (rest : List Str) : wayOf W 0 f (tailNm ss ++ rest) = wayGo W 0 f (201 - ss.length) ss rest 0 := by
  have hp := List.length_pos_iff.mpr hc.ne
  have h := hc.walk (f := f) (201 - ss.length) rest 0
  rw [show 201 - ss.length + ss.tail.length = 200 by rw [List.length_tail]; omega] at h
  exact h
theorem chain_len {ss : List Std} (h : ss ≠ []) : ss.length = (tailNm ss).length + 1 := by
  have hp := List.length_pos_iff.mpr h
  rw [tailNm_len]
  omega
theorem chain_room {W : Wd} {ss : List Std} (hc : Chain W ss) (hl : ss.length ≤ 12) : roomW W 0 (tailNm ss) = .ok ss := by
  have h := chain_way (f := true) hc hl []
  rw [List.append_nil, show 201 - ss.length = (200 - ss.length) + 1 by omega, go_end] at h
  unfold roomW
  rw [h]
theorem split_snoc {ps : List Str} {n : Str} (hg : goodParts (ps ++ [n]) = true) (hn : isName n = true) : splitOf (pathOf (ps ++ [n])) = some (ps, n) := by
  unfold splitOf
  rw [parts_path true hg]
  simp [hn]
theorem chain_place {W : Wd} {ss : List Std} {n : Str} (hc : Chain W ss) (hg : goodParts (tailNm ss ++ [n]) = true) (hn : isName n = true) : placeV W 0 (.str (pathOf (tailNm ss ++ [n]))) = .ok ss n := by
  have hl := (good_all hg).1
  rw [List.length_append, List.length_singleton] at hl
  have hl2 : ss.length ≤ 12 := by rw [chain_len hc.ne]; omega
  have h := chain_way (f := true) hc hl2 []
  rw [List.append_nil, show 201 - ss.length = (200 - ss.length) + 1 by omega, go_end] at h
  rw [placeV_way (split_snoc hg hn), h, place0]
theorem chain_pre {W : Wd} (ho : W.over = []) {ss : List Std} (h : Chain W ss) : ∀ z ∈ ss, ∃ pre, pre <+: tailNm ss ∧ nAt W 0 pre = some z.number := by
  induction h with
  | top =>
    intro z hz
    rw [List.mem_singleton.mp hz]
    exact ⟨[], List.nil_prefix, rfl⟩
  | @step ss n k h1 h2 h3 h4 ih =>
    intro z hz
    rcases List.mem_append.mp hz with hz | hz
    · obtain ⟨pre, p1, p2⟩ := ih z hz
      refine ⟨pre, ?_, p2⟩
      rw [tailNm_snoc h1.ne]
      exact p1.trans (List.prefix_append _ _)
    · refine ⟨tailNm (ss ++ [standOf W k n]), List.prefix_refl _, ?_⟩
      have e := chain_nAt ho (Chain.step h1 h2 h3 h4)
      rw [e, List.mem_singleton.mp hz]
      unfold last
      rw [List.getLastD_concat]
theorem below_nAt {W : Wd} (ok : W.Ok) {Q : List Str} {k j : Nat} (h : nAt W 0 Q = some k) (b : Below W k j) : ∃ qs, nAt W 0 (Q ++ qs) = some j := by
  induction b with
  | self => exact ⟨[], by rw [List.append_nil]; exact h⟩
  | step h1 h2 ih =>
    obtain ⟨qs, hq⟩ := ih
    obtain ⟨s, h3, _⟩ := h2
    exact ⟨qs ++ [s], by rw [← List.append_assoc]; exact nAt_step hq (look_of_mem ok h3)⟩
section
variable {W : Wd} {P : List Str} {n : Str} {k r : Nat} {P2 : List Str} {m : Str} {r2 : Nat}
theorem Mv.moveF (M : Mv W P n k r P2 m r2) (u1 : (0 : Int) < W.groups.length) (g1 : goodParts (P ++ [n]) = true) (g2 : goodParts (P2 ++ [m]) = true) (hm : isName m = true) : ∃ ss st, (last ss).number = r ∧ (last st).number = r2 ∧ Tm.moveF W (.int 0) (.str (pathOf (P ++ [n]))) (.str (pathOf (P2 ++ [m]))) = .ok (ss, n, k, st, m) := by
  obtain ⟨ss, c1, c2, c3⟩ := nAt_chain M.ok M.ho _ (Nat.le_refl _) M.h1 (room_of_name M.ok M.h2)
  obtain ⟨st, d1, d2, d3⟩ := nAt_chain M.ok M.ho _ (Nat.le_refl _) M.h3 M.k2
  have hn : isName n = true := ((M.ok.at M.lr).nam _ (look_mem M.h2)).1
  refine ⟨ss, st, c3, d3, ?_⟩
  have p1 := chain_place c1 (n := n) (by rw [c2]; exact g1) hn
  have p2 := chain_place d1 (n := m) (by rw [d2]; exact g2) hm
  rw [c2] at p1
  rw [d2] at p2
  have f2 := free_of p2 (by rw [d3]; exact M.h4)
  have e1 : moveR W (.int 0) (.str (pathOf (P ++ [n]))) (.str (pathOf (P2 ++ [m]))) = .ok (ss, n, k, st, m) := by
    unfold moveR
    rw [if_neg (by rw [userB_of (Int.le_refl 0) u1]; decide)]
    have e2 : namedR W (userI (.int 0)) (.str (pathOf (P ++ [n]))) = .ok (ss, n, k) := by
      unfold namedR
      rw [show userI (.int 0) = 0 from rfl, p1]
      dsimp only
      rw [c3, M.h2]
    rw [e2]
    dsimp only
    rw [show userI (.int 0) = 0 from rfl, f2]
  unfold Tm.moveF
  rw [e1]
  dsimp only
  have b0 : boundB W k = false := by
    unfold boundB
    rw [M.ho]
    rfl
  have n1 : ¬ (k ∈ st.map (·.number) ∨ (last st).number ∈ roomsOf W k) := fun z => by
    rcases z with z | z
    · obtain ⟨y, hy, e⟩ := List.mem_map.mp z
      obtain ⟨pre, q1, q2⟩ := chain_pre M.ho d1 y hy
      rw [e] at q2
      have := nAt_one M.ok M.t _ (Nat.le_refl _) q2 M.old M.hk
      rw [this, d2] at q1
      exact M.nb q1
    · obtain ⟨qs, hq⟩ := below_nAt M.ok M.old (sub_below _ _ z)
      rw [d3] at hq
      have := nAt_one M.ok M.t _ (Nat.le_refl _) hq M.h3 M.k2
      exact M.nb (by rw [← this]; exact List.prefix_append _ _)
  rw [if_pos M.hk, if_neg (by rw [b0]; decide), if_neg n1]
theorem Mv.about (M : Mv W P n k r P2 m r2) (j : Nat) : aboutD ((moveW W r n k r2 m).at j) = aboutD (W.at j) := by
  have a1 : (moveW W r n k r2 m).at j = if j = r2 then ((dropW W r n).at r2).name m k else (dropW W r n).at j := Wd.at_put (by rw [show (dropW W r n).nodes.length = W.nodes.length from Wd.len_put]; exact M.lr2)
  have a2 : ∀ j, (dropW W r n).at j = if j = r then { W.at r with names := dropN n (W.at r).names } else W.at j := fun j => drop_at M.lr
  rw [a1]
  split
  · rename_i e
    subst e
    rw [a2]
    split
    · rename_i e
      subst e
      rfl
    · rfl
  · rw [a2]
    split
    · rename_i e
      subst e
      rfl
    · rfl
theorem Mv.ho' (M : Mv W P n k r P2 m r2) : (moveW W r n k r2 m).over = [] := M.ho
theorem Mv.newAt (M : Mv W P n k r P2 m r2) (qs : List Str) : nAt (moveW W r n k r2 m) 0 (P2 ++ [m] ++ qs) = nAt W k qs := by
  rw [M.at0, if_pos (List.prefix_append _ _), List.drop_left]
theorem Mv.goalAt (M : Mv W P n k r P2 m r2) : nAt (moveW W r n k r2 m) 0 P2 = some r2 := by
  rw [M.at0, if_neg fun z => by have := z.length_le; rw [List.length_append, List.length_singleton] at this; omega, if_neg M.nb, M.h3]
theorem Mv.parAt (M : Mv W P n k r P2 m r2) : nAt (moveW W r n k r2 m) 0 P = some r := by
  rw [M.at0, if_neg (M.npre M.h1), if_neg fun z => by have := z.length_le; rw [List.length_append, List.length_singleton] at this; omega, M.h1]
/-- rows beneath a room, as many parts as there may be -/
theorem ben_rows {W : Wd} (ok : W.Ok) (t : Tree W) (ho : W.over = []) (u1 : (0 : Int) < W.groups.length) {ps : List Str} {j : Nat} (hg : goodParts ps = true) (hl : ps.length ≤ 11) (hj : nAt W 0 ps = some j) (hk : (W.at j).kind = "room") (h11 : ∀ x ∈ allOf W j ps, x.1.length ≤ 12 ∧ (x.2 = "room" → x.1.length ≤ 11)) (h200 : (allOf W j ps).length ≤ 200) : ∃ rs, benR W (.int 0) (.str (pathOf ps)) = .ok rs ∧ rs.Perm (allOf W j ps) := by
  obtain ⟨ss, c1, c2, c3⟩ := nAt_chain ok ho _ (Nat.le_refl _) hj hk
  have sl := chain_len c1.ne
  rw [c2] at sl
  have jl : j < W.nodes.length := nAt_lt ok ok.one hj
  have mem : ∀ x, x ∈ allGo W (13 - ss.length) j ps ↔ x ∈ allOf W j ps := fun x => by
    rw [go_mem ok, all_mem ok t]
    constructor
    · rintro ⟨qs, i, h1, h2, _, h4⟩
      exact ⟨qs, i, h1, h2, h4⟩
    · rintro ⟨qs, i, h1, h2, h4⟩
      refine ⟨qs, i, h1, h2, ?_, h4⟩
      have := (h11 x ((all_mem ok t).mpr ⟨qs, i, h1, h2, h4⟩)).1
      rw [h1, List.length_append] at this
      omega
  have e : benOf W 0 ss = allGo W (13 - ss.length) j ps := by
    unfold benOf
    rw [ben_deep ok t ho _ c1, c3, c2]
    rw [c3, c2]
    exact fun x hx => (h11 x ((mem x).mp hx)).2
  have pm : (allGo W (13 - ss.length) j ps).Perm (allOf W j ps) := (List.perm_ext_iff_of_nodup (nodup_map (go_nodup ok _ j ps jl)) (all_nodup ok jl)).mpr mem
  refine ⟨benOf W 0 ss, ?_, by rw [e]; exact pm⟩
  have hr := chain_room c1 (by omega)
  rw [c2] at hr
  rw [ben_path (Int.le_refl 0) u1 hg, hr]
  dsimp only
  rw [if_neg (by rw [may0]; decide), if_neg (by omega), if_neg]
  rw [e, pm.length_eq]
  omega
/-- at the old place there is nothing -/
theorem Mv.gone (M : Mv W P n k r P2 m r2) (ok' : (moveW W r n k r2 m).Ok) (u1 : (0 : Int) < W.groups.length) (g1 : goodParts (P ++ [n]) = true) (hnm : n ≠ m) : kindR (moveW W r n k r2 m) (.int 0) (.str (pathOf (P ++ [n]))) = .err (.name n) := by
  obtain ⟨ss, c1, c2, c3⟩ := nAt_chain ok' M.ho' _ (Nat.le_refl _) M.parAt (by rw [(M.kind r).1]; exact room_of_name M.ok M.h2)
  have hn : isName n = true := ((M.ok.at M.lr).nam _ (look_mem M.h2)).1
  obtain ⟨n1, n2⟩ := name_ne hn
  have hl := (good_all g1).1
  rw [List.length_append, List.length_singleton] at hl
  have sl := chain_len c1.ne
  rw [c2] at sl
  have ha := atR_path (W := moveW W r n k r2 m) (f := false) (Int.le_refl 0) u1 g1
  have hw := chain_way (f := false) c1 (by omega) [n]
  rw [c2, show 201 - ss.length = (200 - ss.length) + 1 by omega, go_name rfl n1 n2 (by rw [c3, M.look, if_neg fun z => hnm z.2, if_pos ⟨rfl, rfl⟩])] at hw
  unfold kindR
  rw [ha, hw]
  rfl
/-- into itself -/
theorem Mv.deeper (M : Mv W P n k r P2 m r2) (ok' : (moveW W r n k r2 m).Ok) (u1 : (0 : Int) < W.groups.length) (g2 : goodParts (P2 ++ [m]) = true) (hm : isName m = true) {Q : List Str} {j : Nat} {s : Str} (hQ : (P2 ++ [m]) <+: Q) (hj : nAt (moveW W r n k r2 m) 0 Q = some j) (hk : (W.at j).kind = "room") (hs : isName s = true) (gq : goodParts (Q ++ [s]) = true) (hl : Tm.look s ((moveW W r n k r2 m).at j).names = none) : Tm.moveF (moveW W r n k r2 m) (.int 0) (.str (pathOf (P2 ++ [m]))) (.str (pathOf (Q ++ [s]))) = .err (.no 12) := by
  have ho' := M.ho'
  obtain ⟨ss, c1, c2, c3⟩ := nAt_chain ok' ho' _ (Nat.le_refl _) M.goalAt (by rw [(M.kind r2).1]; exact M.k2)
  obtain ⟨st, d1, d2, d3⟩ := nAt_chain ok' ho' _ (Nat.le_refl _) hj (by rw [(M.kind j).1]; exact hk)
  have p1 := chain_place c1 (n := m) (by rw [c2]; exact g2) hm
  have p2 := chain_place d1 (n := s) (by rw [d2]; exact gq) hs
  rw [c2] at p1
  rw [d2] at p2
  have f2 := free_of p2 (by rw [d3]; exact hl)
  have lk : Tm.look m ((moveW W r n k r2 m).at r2).names = some k := by rw [M.look, if_pos ⟨rfl, rfl⟩]
  have e1 : moveR (moveW W r n k r2 m) (.int 0) (.str (pathOf (P2 ++ [m]))) (.str (pathOf (Q ++ [s]))) = .ok (ss, m, k, st, s) := by
    unfold moveR
    rw [if_neg (by rw [userB_of (W := moveW W r n k r2 m) (Int.le_refl 0) u1]; decide)]
    have e2 : namedR (moveW W r n k r2 m) (userI (.int 0)) (.str (pathOf (P2 ++ [m]))) = .ok (ss, m, k) := by
      unfold namedR
      rw [show userI (.int 0) = 0 from rfl, p1]
      dsimp only
      rw [c3, lk]
    rw [e2]
    dsimp only
    rw [show userI (.int 0) = 0 from rfl, f2]
  unfold Tm.moveF
  rw [e1]
  dsimp only
  have b0 : boundB (moveW W r n k r2 m) k = false := by
    unfold boundB
    rw [ho']
    rfl
  have n1 : k ∈ st.map (·.number) ∨ (last st).number ∈ roomsOf (moveW W r n k r2 m) k := by
    left
    -- the stand by the prefix
    have key : ∀ {ss : List Std}, Chain (moveW W r n k r2 m) ss → ∀ pre, pre <+: tailNm ss → ∃ z ∈ ss, nAt (moveW W r n k r2 m) 0 pre = some z.number := by
      intro ss h
      induction h with
      | top =>
        intro pre hp
        have : pre = [] := List.prefix_nil.mp hp
        subst this
        exact ⟨std0, List.mem_singleton.mpr rfl, rfl⟩
      | @step ss n' k' h1 h2 h3 h4 ih =>
        intro pre hp
        rw [tailNm_snoc h1.ne] at hp
        rcases List.prefix_concat_iff.mp hp with e | hp
        · refine ⟨standOf _ k' n', List.mem_append_right _ (List.mem_singleton.mpr rfl), ?_⟩
          have := chain_nAt ho' (Chain.step h1 h2 h3 h4)
          rw [tailNm_snoc h1.ne] at this
          rw [e, this]
          unfold last
          rw [List.getLastD_concat]
        · obtain ⟨z, z1, z2⟩ := ih pre hp
          exact ⟨z, List.mem_append_left _ z1, z2⟩
    obtain ⟨z, z1, z2⟩ := key d1 (P2 ++ [m]) (by rw [d2]; exact hQ)
    have e := M.newAt []
    rw [List.append_nil] at e
    rw [e] at z2
    cases z2
    exact List.mem_map.mpr ⟨z, z1, rfl⟩
  rw [if_pos (by rw [(M.kind k).1]; exact M.hk), if_neg (by rw [b0]; decide), if_pos n1]
/-- up again -/
theorem Mv.up (M : Mv W P n k r P2 m r2) (ok' : (moveW W r n k r2 m).Ok) (u1 : (0 : Int) < W.groups.length) (hm : isName m = true) (hl : P2.length ≤ 10) (gu : goodParts (P2 ++ [m] ++ [Str.ofString ".."]) = true) : trueR (moveW W r n k r2 m) (.int 0) (.str (pathOf (P2 ++ [m] ++ [Str.ofString ".."]))) = .ok P2 := by
  have ho' := M.ho'
  obtain ⟨ss, c1, c2, c3⟩ := nAt_chain ok' ho' _ (Nat.le_refl _) M.goalAt (by rw [(M.kind r2).1]; exact M.k2)
  have lk : Tm.look m ((moveW W r n k r2 m).at (last ss).number).names = some k := by rw [c3, M.look, if_pos ⟨rfl, rfl⟩]
  have c4 : Chain (moveW W r n k r2 m) (ss ++ [standOf (moveW W r n k r2 m) k m]) := .step c1 lk (by rw [(M.kind k).1]; exact M.hk) hm
  have sl := chain_len c1.ne
  rw [c2] at sl
  have ha := atR_path (W := moveW W r n k r2 m) (f := true) (Int.le_refl 0) u1 gu
  have hw := chain_way (f := true) c4 (by rw [List.length_append, List.length_singleton]; omega) [Str.ofString ".."]
  rw [tailNm_snoc c1.ne, c2, List.length_append, List.length_singleton, show 201 - (ss.length + 1) = (198 - ss.length) + 1 + 1 by omega, go_up rfl, go_end, List.length_append, List.length_singleton] at hw
  rw [show max 1 (ss.length + 1 - 1) = ss.length by have := List.length_pos_iff.mpr c1.ne; omega, List.take_left] at hw
  unfold trueR
  rw [ha, hw]
  show Res.ok (ss.tail.map (·.name)) = _
  rw [show ss.tail.map (·.name) = tailNm ss from rfl, c2]
end
/-! ### lists of rows in the heap -/
theorem pairs_ws {F : Addr → Row → Prop} : ∀ {as : List Addr} {rs : List Row}, Paired F as rs → ∃ ws : List (Addr × Row), ws.map (·.1) = as ∧ ws.map (·.2) = rs ∧ ∀ w ∈ ws, F w.1 w.2
  | _, _, .nil => ⟨[], rfl, rfl, fun w hw => nomatch hw⟩
  | _, _, .cons (a := a) (b := b) h t => by
    obtain ⟨ws, w1, w2, w3⟩ := pairs_ws t
    refine ⟨(a, b) :: ws, by rw [List.map_cons, w1], by rw [List.map_cons, w2], fun w hw => ?_⟩
    rcases List.mem_cons.mp hw with rfl | hw
    · exact h
    · exact w3 w hw
theorem x_srtR {K : PySem.W.Frag} {H : Hp} {Q : VK} {a : Addr} {as : List Addr} {rs : List Row} (h : H a = some (.lst (as.map V.ref))) (hp : Paired (RowAt H) as rs) (q : ∀ p as' H', H p = none → Ex H H' → H' p = some (.lst (as'.map V.ref)) → Paired (RowAt H') as' (sortR rs) → Q (.ref p) H') : rSrtD K [.ref a] H Q := by
  obtain ⟨ws, w1, w2, w3⟩ := pairs_ws hp
  let zs : List (V × PyData) := ws.map wz
  have zl : (zs.map (·.1)) = as.map V.ref := by rw [← w1, List.map_map, List.map_map]; rfl
  have zr : (zs.map (·.2)) = (ws.map (·.2)).map rowD := by rw [List.map_map, List.map_map]; rfl
  refine ⟨a, zs, rfl, by rw [zl]; exact SqL.of h, fun z hz => ?_, by rw [zr]; exact rows_alike _, by rw [zr]; exact rows_sortable _, fun z hz => ?_, fun p3 hp3 => ?_⟩
  · obtain ⟨w, hw, rfl⟩ := List.mem_map.mp hz
    exact row_dp (w3 w hw)
  · obtain ⟨w, hw, rfl⟩ := List.mem_map.mp hz
    exact row_depth _
  have e11 := Ex.new (o := HO.lst ((zs.mergeSort leZ).map (·.1))) hp3
  have es : (zs.mergeSort leZ) = (ws.mergeSort leW).map wz := sort_zs ws
  have hsr : ((ws.mergeSort leW).map (·.2)) = sortR rs := by rw [← w2]; exact sort_pairs ws
  have h11 := upd_same (H := H) (a := p3) (o := HO.lst ((zs.mergeSort leZ).map (·.1)))
  generalize upd H p3 (HO.lst ((zs.mergeSort leZ).map (·.1))) = H11 at e11 h11 ⊢
  have hpair := rows_paired (H := H11) (ws.mergeSort leW) fun w hw => e11 _ _ (w3 w ((List.mergeSort_perm _ _).mem_iff.mp hw))
  rw [hsr] at hpair
  refine q p3 ((ws.mergeSort leW).map (·.1)) _ hp3 e11 ?_ hpair
  rw [h11, es, List.map_map, List.map_map]
  rfl
theorem paired_fm {F : Addr → Row → Prop} {pv : V → Bool} {fv : V → V} {p : Row → Bool} {f : Row → V} (hk : ∀ a r, F a r → pv (.ref a) = p r ∧ fv (.ref a) = f r) : ∀ {as : List Addr} {rs : List Row}, Paired F as rs → ((as.map V.ref).filter pv).map fv = (rs.filter p).map f
  | _, _, .nil => rfl
  | _, _, .cons (a := a) (b := b) h t => by
    obtain ⟨h1, h2⟩ := hk a b h
    rw [List.map_cons, List.filter_cons, List.filter_cons, h1]
    cases hp : p b with
    | true =>
      rw [if_pos rfl, if_pos rfl, List.map_cons, List.map_cons, paired_fm hk t, h2]
    | false =>
      rw [if_neg (by decide), if_neg (by decide)]
      exact paired_fm hk t
theorem paired_flt {F : Addr → Row → Prop} {pv : V → Bool} {p : Row → Bool} (hk : ∀ a r, F a r → pv (.ref a) = p r) : ∀ {as : List Addr} {rs : List Row}, Paired F as rs → ∃ as', (as.map V.ref).filter pv = as'.map V.ref ∧ Paired F as' (rs.filter p)
  | _, _, .nil => ⟨[], rfl, .nil⟩
  | _, _, .cons (a := a) (b := b) h t => by
    obtain ⟨as', e1, e2⟩ := paired_flt hk t
    rw [List.map_cons, List.filter_cons, List.filter_cons, hk a b h]
    cases hp : p b with
    | true =>
      rw [if_pos rfl, if_pos rfl, e1]
      exact ⟨a :: as', rfl, .cons h e2⟩
    | false =>
      rw [if_neg (by decide), if_neg (by decide)]
      exact ⟨as', e1, e2⟩
theorem paired_app2 {F : Addr → Row → Prop} : ∀ {as : List Addr} {rs : List Row} {bs : List Addr} {qs : List Row}, Paired F as rs → Paired F bs qs → Paired F (as ++ bs) (rs ++ qs)
  | _, _, _, _, .nil, h => h
  | _, _, _, _, .cons h t, h2 => .cons h (paired_app2 t h2)
/-- a comprehension of new tuples -/
theorem x_lcLGT {K : PySem.W.Frag} {a : Addr} {as : List Addr} {rs : List Row} {f : Row → Row} {g : TG} {s2 : V → L2.St} {te : TE} {vs : List Nat} {σ : L2.St} {H : Hp} {Q : VK} (h : SqL K H a (as.map V.ref)) (hp : Paired (RowAt H) as rs) (hw : ∀ x, wipe (s2 x) vs = wipe σ vs) (hz : as.length ≤ 100000)
    (hg : ∀ b r, RowAt H b r → ∀ H', Ex H H' → ∀ R : L2.St → Hp → Prop, R (s2 (.ref b)) H' → g (.ref b) (wipe σ vs) H' R)
    (he : ∀ b r, r ∈ rs → RowAt H b r → ∀ H', Ex H H' → ∀ R : VK, (∀ tp H2, H' tp = none → Ex H' H2 → RowAt H2 tp (f r) → R (.ref tp) H2) → te (s2 (.ref b)) H' R)
    (q : ∀ D as' H', H D = none → Ex H H' → H' D = some (.lst (as'.map V.ref)) → Paired (RowAt H') as' (rs.map f) → Q (.ref D) H') : ∃ b, V.ref a = .ref b ∧ (∃ xs, SqL K H b xs) ∧ LcK (Itl K b) g tYes te vs σ Q H := by
  refine ⟨a, rfl, ⟨_, h⟩, fun D hD => ?_⟩
  refine lc_it (walk_list (xs := as.map V.ref)) (fun i H' => Ex H H' ∧ ∃ as', H' D = some (.lst (as'.map V.ref)) ∧ as'.length = i ∧ Paired (RowAt H') as' ((rs.take i).map f)) ⟨Ex.new hD, [], upd_same, rfl, .nil⟩ (fun i H' _ z => z.1.sq h) ?_ (fun H' z => ?_)
  · rintro i x H' H'' hi ⟨e, as', hl, ln, hpr⟩ ⟨rfl, hx⟩
    rw [List.getElem?_map] at hx
    obtain ⟨b, hb, rfl⟩ := Option.map_eq_some_iff.mp hx
    obtain ⟨r, hr, hrow⟩ : ∃ r, rs[i]? = some r ∧ RowAt H b r := by
      clear hl ln hpr e hz h hi hg he q hx
      induction hp generalizing i with
      | nil => simp at hb
      | cons h0 t ih =>
        cases i with
        | zero =>
          simp at hb
          subst hb
          exact ⟨_, rfl, h0⟩
        | succ i => exact ih i (by simpa using hb)
    have hil := (List.getElem?_eq_some_iff.mp hb).1
    refine hg b r hrow H'' e _ ⟨hw _, ?_⟩
    show te _ H'' _
    refine he b r (List.mem_of_getElem? hr) hrow H'' e _ fun tp H3 htp e3 h3 => ⟨_, e3 D _ hl, ?_, fun x o hx => ?_, as' ++ [tp], ?_, ?_, ?_⟩
    · rw [List.length_map]
      have h3 : (100000 : Nat) < sizeLine := by decide
      omega
    · have hne : x ≠ D := fun z => by rw [z, hD] at hx; cases hx
      rw [upd_ne hne]
      exact e3 x o (e x o hx)
    · rw [upd_same, List.map_append]
      rfl
    · rw [List.length_append, List.length_singleton, ln]
    · have hDt : ∀ {z : Addr} {w : Row}, RowAt H3 z w → RowAt (upd H3 D (.lst (as'.map V.ref ++ [.ref tp]))) z w := fun {z w} hz => by
        have hz' : H3 z = some (.tup [.str (pathOf w.1), .str w.2]) := hz
        have : z ≠ D := fun y => by rw [y, e3 D _ hl] at hz'; cases hz'
        exact (upd_ne this).trans hz'
      rw [take_snoc hr, List.map_append]
      exact paired_app2 (paired_up (fun z w hz => hDt (e3 _ _ hz)) hpr) (.cons (hDt h3) .nil)
  · obtain ⟨e, as', hl, ln, hpr⟩ := z
    rw [List.take_of_length_le (by rw [List.length_map, hp.length]; exact Nat.le_refl _)] at hpr
    exact q D as' H' hD e hl hpr
theorem nAt_names {W : Wd} {Pn : Str → Prop} (hP : ∀ i, ∀ p ∈ (W.at i).names, Pn p.1) : ∀ {n j : Nat} {ps : List Str}, nAt W n ps = some j → ∀ p ∈ ps, Pn p
  | n, j, [], h, p, hp => nomatch hp
  | n, j, s :: ps, h, p, hp => by
    have h : (look s (W.at n).names).bind (fun k => nAt W k ps) = some j := h
    cases hl : look s (W.at n).names with
    | none => rw [hl] at h; cases h
    | some i =>
      rw [hl] at h
      rcases List.mem_cons.mp hp with rfl | hp
      · exact hP n _ (look_mem hl)
      · exact nAt_names hP h p hp
theorem ok_names {W : Wd} (ok : W.Ok) : ∀ i, ∀ p ∈ (W.at i).names, isName p.1 = true := fun i p hp => ((ok.at (name_lt (n := p.1) (c := p.2) hp)).nam p hp).1
theorem Reach.deep {W : Wd} {k : Nat} (h : Reach W k) (ok : W.Ok) {ps : List Str} {j : Nat} (hj : nAt W 0 ps = some j) : ps.length ≤ 12 ∧ ((W.at j).kind = "room" → ps.length ≤ 11) := by
  obtain ⟨dep, L⟩ := h.lev
  have ho := h.small.2.2
  have key : ∀ {ps : List Str} {j : Nat}, nAt W 0 ps = some j → (W.at j).kind = "room" → ps.length ≤ 11 := fun {ps j} hj hk => by
    obtain ⟨ss, c1, c2, c3⟩ := nAt_chain ok ho _ (Nat.le_refl _) hj hk
    have d := c1.deep ho L
    have d2 := L.le (last ss).number
    have sl := chain_len c1.ne
    rw [c2] at sl
    omega
  refine ⟨?_, key hj⟩
  rcases List.eq_nil_or_concat ps with rfl | ⟨qs, s, rfl⟩
  · exact Nat.zero_le _
  · rw [List.concat_eq_append] at hj ⊢
    obtain ⟨r, h1, h2⟩ := nAt_snoc hj
    have := key h1 (room_of_name ok h2)
    rw [List.length_append, List.length_singleton]
    omega
theorem Reach.benRows {W : Wd} {k : Nat} (h : Reach W k) (ok : W.Ok) (hk2 : k ≤ 200) {ps : List Str} {j : Nat} (hj : nAt W 0 ps = some j) (hk : (W.at j).kind = "room") : ∃ rs, benR W (.int 0) (.str (pathOf ps)) = .ok rs ∧ rs.Perm (allOf W j ps) := by
  have jl : j < W.nodes.length := nAt_lt ok ok.one hj
  have hl := (h.deep ok hj).2 hk
  refine ben_rows ok h.tree h.small.2.2 (by rw [h.small.2.1]; decide) (good_of (by omega) fun p hp => name_part (nAt_names (Pn := fun p => isName p = true) (ok_names ok) hj p hp)) hl hj hk (fun x hx => ?_) ?_
  · obtain ⟨qs, i, h1, h2, h3⟩ := (all_mem ok h.tree).mp hx
    have := h.deep ok (ps := ps ++ qs) (j := i) (by rw [nAt_app, hj]; exact h3)
    rw [h1]
    exact this
  · have := all_few ok h.tree (ps := ps) jl
    have := h.names
    omega
/-- the rooms to which one may go, by paths -/
def roomB (r : Row) : Bool := decide (r.2 = "room")
def pvR (r : Row) : V := .str (pathOf r.1)
def gB (old : List Str) (v : V) : Bool := match v with
  | .str s => !decide (s = pathOf old) && !decide (Txt.slice s none (some ((pathOf old).length + 1)) = pathOf old ++ sl)
  | _ => false
theorem off_str {ps old : List Str} (hp : goodParts ps = true) (hq : goodParts old = true) (np : ps ≠ []) (nq : old ≠ []) : gB old (.str (pathOf ps)) = !decide (old <+: ps) := by
  unfold gB
  dsimp only
  rw [decide_eq_decide.mpr (ahead_is hp hq np nq)]
  by_cases c : old = ps
  · subst c
    rw [decide_eq_true rfl, decide_eq_true (List.prefix_refl _)]
    rfl
  · have c1 : ¬ pathOf ps = pathOf old := fun z => c (path_inj hp hq z).symm
    rw [decide_eq_false c1]
    by_cases d : old <+: ps
    · rw [decide_eq_true d, decide_eq_true ⟨d, c⟩]
      rfl
    · rw [decide_eq_false d, decide_eq_false fun z => d z.1]
      rfl
theorem off_nil {old : List Str} (nq : old ≠ []) : gB old (.str "") = true := by
  unfold gB
  dsimp only
  have c1 : ¬ Str.ofString "" = pathOf old := fun z => by
    have h1 := len_cs (pathOf old)
    rw [path_cs nq] at h1
    have h2 : (Str.ofString "").length = 0 := by decide +kernel
    rw [← z] at h1
    cases old with
    | nil => exact nq rfl
    | cons p ps =>
      have : (fl (p :: ps)).length = (cs p ++ fl ps).length + 1 := rfl
      omega
  rw [decide_eq_false c1, decide_eq_false (ahead_nil nq)]
  rfl
/-- which goal is drawn: a room that is not beneath the old one -/
theorem goal_of12 {W : Wd} {k : Nat} (h : Reach W k) (ok : W.Ok) {old : List Str} (gq : goodParts old = true) (nq : old ≠ []) {g : V} (hg : g ∈ ((((sortR (allOf W 0 [])).filter roomB).map pvR) ++ [V.str ""]).filter (gB old)) : ∃ P2 r2, g = .str (headT P2) ∧ nAt W 0 P2 = some r2 ∧ (W.at r2).kind = "room" ∧ ¬ old <+: P2 ∧ P2.length ≤ 11 ∧ goodParts P2 = true := by
  obtain ⟨h1, h2⟩ := List.mem_filter.mp hg
  rcases List.mem_append.mp h1 with h1 | h1
  · obtain ⟨r, hr, rfl⟩ := List.mem_map.mp h1
    obtain ⟨hr, hk⟩ := List.mem_filter.mp hr
    have hk : r.2 = "room" := of_decide_eq_true hk
    obtain ⟨qs, j, e1, e2, e3⟩ := (all_mem ok h.tree).mp ((sortR_perm _).mem_iff.mp hr)
    rw [List.nil_append] at e1
    have hkj : (W.at j).kind = "room" := by rw [e1] at hk; exact hk
    have hl := (h.deep ok e3).2 hkj
    have hgd : goodParts qs = true := good_of (by omega) fun p hp => name_part (nAt_names (Pn := fun p => isName p = true) (ok_names ok) e3 p hp)
    have h2 : gB old (.str (pathOf r.1)) = true := h2
    rw [e1] at h2
    dsimp only at h2
    rw [off_str hgd gq e2 nq] at h2
    refine ⟨qs, j, ?_, e3, hkj, fun z => ?_, hl, hgd⟩
    · unfold pvR headT
      rw [e1, if_neg e2]
    · rw [decide_eq_true z] at h2
      cases h2
  · rw [List.mem_singleton.mp h1]
    refine ⟨[], 0, rfl, rfl, ok.top, fun z => nq (List.prefix_nil.mp z), Nat.zero_le _, rfl⟩
theorem old_of12 {W : Wd} {k : Nat} (h : Reach W k) (ok : W.Ok) {v : V} (hv : v ∈ ((sortR (allOf W 0 [])).filter roomB).map pvR) : ∃ P n k r, v = .str (pathOf (P ++ [n])) ∧ nAt W 0 P = some r ∧ look n (W.at r).names = some k ∧ (W.at k).kind = "room" ∧ n ∈ lnames ∧ goodParts (P ++ [n]) = true ∧ (P ++ [n]).length ≤ 11 := by
  obtain ⟨r, hr, rfl⟩ := List.mem_map.mp hv
  obtain ⟨hr, hk⟩ := List.mem_filter.mp hr
  have hk : r.2 = "room" := of_decide_eq_true hk
  obtain ⟨qs, j, e1, e2, e3⟩ := (all_mem ok h.tree).mp ((sortR_perm _).mem_iff.mp hr)
  rw [List.nil_append] at e1
  have hkj : (W.at j).kind = "room" := by rw [e1] at hk; exact hk
  have hl := (h.deep ok e3).2 hkj
  have hgd : goodParts qs = true := good_of (by omega) fun p hp => name_part (nAt_names (Pn := fun p => isName p = true) (ok_names ok) e3 p hp)
  rcases List.eq_nil_or_concat qs with rfl | ⟨P, n, rfl⟩
  · exact absurd rfl e2
  · rw [List.concat_eq_append] at *
    obtain ⟨r', h1, h2⟩ := nAt_snoc e3
    exact ⟨P, n, j, r', by unfold pvR; rw [e1], h1, h2, hkj, h.nml _ _ (look_mem h2), hgd, hl⟩
theorem new_str (P2 : List Str) : headT P2 ++ Str.ofString "/moved" = pathOf (P2 ++ [Str.ofString "moved"]) := by
  rw [path_snoc]
  rw [← S_cs (headT P2 ++ Str.ofString "/moved"), ← S_cs (headT P2 ++ sl ++ Str.ofString "moved"), cs_cat, cs_cat, cs_cat, List.append_assoc, show cs (Str.ofString "/moved") = cs sl ++ cs (Str.ofString "moved") by decide +kernel]
/-! ### reading what is named -/
def textAt (W : Wd) (ps : List Str) : Str := match nAt W 0 ps with
  | some k => (W.at k).text
  | none => ""
def txV (W : Wd) (v : V) : V := match v with
  | .str s => .str (match partsOf true s with
    | some ps => textAt W ps
    | none => "")
  | _ => .non
theorem txV_path {W : Wd} {ps : List Str} (h : goodParts ps = true) : txV W (.str (pathOf ps)) = .str (textAt W ps) := by
  unfold txV
  dsimp only
  rw [parts_path true h]
theorem leaf_read {W : Wd} (ok : W.Ok) (ho : W.over = []) (u1 : (0 : Int) < W.groups.length) {ps : List Str} {j : Nat} (hg : goodParts ps = true) (hj : nAt W 0 ps = some j) (hk : (W.at j).kind = "leaf") : readR W (.int 0) (.str (pathOf ps)) = .ok j ∧ textAt W ps = (W.at j).text := by
  refine ⟨?_, by unfold textAt; rw [hj]⟩
  rcases List.eq_nil_or_concat ps with rfl | ⟨qs, s, rfl⟩
  · cases hj
    rw [ok.top] at hk
    exact absurd hk (by decide +kernel)
  · rw [List.concat_eq_append] at hj hg ⊢
    obtain ⟨r, h1, h2⟩ := nAt_snoc hj
    obtain ⟨ss, c1, c2, c3⟩ := nAt_chain ok ho _ (Nat.le_refl _) h1 (room_of_name ok h2)
    have hn : isName s = true := ok_names ok _ _ (look_mem h2)
    obtain ⟨n1, n2⟩ := name_ne hn
    have hl := (good_all hg).1
    rw [List.length_append, List.length_singleton] at hl
    have sl := chain_len c1.ne
    rw [c2] at sl
    have ha := atR_path (W := W) (f := true) (Int.le_refl 0) u1 hg
    have hw := chain_way (f := true) c1 (by omega) [s]
    rw [c2, show 201 - ss.length = (200 - ss.length) + 1 by omega, go_leaf rfl n1 n2 (by rw [c3]; exact h2) hk, if_neg (by simp)] at hw
    unfold readR
    rw [ha, hw]
    show (if (W.at j).kind = "leaf" then if mayOf W 0 j 4 = true then Res.ok j else _ else _) = _
    rw [if_pos hk, if_pos (may0 W j 4)]
theorem room_about {W : Wd} (ok : W.Ok) (ho : W.over = []) (u1 : (0 : Int) < W.groups.length) {ps : List Str} {j : Nat} (hg : goodParts ps = true) (hl : ps.length ≤ 11) (hj : nAt W 0 ps = some j) (hk : (W.at j).kind = "room") : aboutR W (.int 0) (.str (pathOf ps)) = .ok (aboutD (W.at j)) := by
  obtain ⟨ss, c1, c2, c3⟩ := nAt_chain ok ho _ (Nat.le_refl _) hj hk
  have sl := chain_len c1.ne
  rw [c2] at sl
  have ha := atR_path (W := W) (f := true) (Int.le_refl 0) u1 hg
  have hw := chain_way (f := true) c1 (by omega) []
  rw [List.append_nil, c2, show 201 - ss.length = (200 - ss.length) + 1 by omega, go_end] at hw
  unfold aboutR
  rw [ha, hw]
  show Res.ok (aboutD (W.at (last ss).number)) = _
  rw [c3]
def leafB (r : Row) : Bool := decide (r.2 = "leaf")
/-- what is read of a list of rows -/
theorem reads_ok {W : Wd} (ok : W.Ok) (ho : W.over = []) (u1 : (0 : Int) < W.groups.length) {x : Row} {j : Nat} (hg : goodParts x.1 = true) (hj : nAt W 0 x.1 = some j) (hk : x.2 = (W.at j).kind) (hl : leafB x = true) : readR W (.int 0) (.str (pathOf x.1)) = .ok j ∧ textAt W x.1 = (W.at j).text := leaf_read ok ho u1 hg hj (by rw [← hk]; exact of_decide_eq_true hl)
/-! ### after the move -/
theorem count_sl' {ps : List Str} (hp : ∀ p ∈ ps, isPart p = true) (np : ps ≠ []) : Txt.count (pathOf ps) sl = ps.length := by
  have e : Txt.count (pathOf ps) sl = PyProof.Rows.cnt 47 (cs (pathOf ps)) := PyProof.Rows.count_is (pathOf ps) 47
  rw [e, path_cs np]
  have h : ∀ p ∈ ps, 47 ∉ cs p := fun p hx => (part_facts (hp p hx)).2.1
  clear e hp np
  induction ps with
  | nil => rfl
  | cons p ps ih =>
    have e1 : fl (p :: ps) = 47 :: (cs p ++ fl ps) := rfl
    have e2 : ∀ l : List Nat, 47 ∉ l → PyProof.Rows.cnt 47 l = 0 := by
      intro l
      induction l with
      | nil => intro _; rfl
      | cons x l ih =>
        intro hl
        rw [PyProof.Rows.cnt_cons, if_neg fun z => hl (by rw [z]; exact List.mem_cons_self ..), ih fun z => hl (List.mem_cons_of_mem _ z)]
        rfl
    rw [e1, PyProof.Rows.cnt_cons, if_pos rfl, PyProof.Rows.cnt_append, e2 _ (h p (List.mem_cons_self ..)), ih fun q hq => h q (List.mem_cons_of_mem _ hq), List.length_cons]
    omega
theorem paired_in {F : Addr → Row → Prop} : ∀ {as : List Addr} {rs : List Row}, Paired F as rs → ∀ {all : List Row}, (∀ r ∈ rs, r ∈ all) → Paired (fun a r => F a r ∧ r ∈ all) as rs
  | _, _, .nil, _, _ => .nil
  | _, _, .cons h t, _, k => .cons ⟨h, k _ (List.mem_cons_self ..)⟩ (paired_in t fun r hr => k r (List.mem_cons_of_mem _ hr))
section
variable {W : Wd} {P : List Str} {n : Str} {k r : Nat} {P2 : List Str} {m : Str} {r2 : Nat}
theorem Mv.benNew (M : Mv W P n k r P2 m r2) (ok' : (moveW W r n k r2 m).Ok) (u1 : (0 : Int) < W.groups.length) (gn : goodParts (P2 ++ [m]) = true) (hl : (P2 ++ [m]).length ≤ 11) {rs1 : List Row} (pm1 : rs1.Perm (allOf W k (P ++ [n]))) (few : rs1.length ≤ 200) (h10 : ∀ x ∈ (sortR rs1).map (mvP (P ++ [n]) (P2 ++ [m])), x.1.length ≤ 10) : ∃ rs, benR (moveW W r n k r2 m) (.int 0) (.str (pathOf (P2 ++ [m]))) = .ok rs ∧ rs.Perm ((sortR rs1).map (mvP (P ++ [n]) (P2 ++ [m]))) := by
  have hkl : k < W.nodes.length := name_lt2 M.ok (look_mem M.h2)
  have hkl' : k < (moveW W r n k r2 m).nodes.length := by
    have : (moveW W r n k r2 m).nodes.length = W.nodes.length := by
      show ((dropW W r n).put _ _).nodes.length = _
      rw [Wd.len_put]
      exact Wd.len_put
    omega
  have pm : (allOf (moveW W r n k r2 m) k (P2 ++ [m])).Perm ((sortR rs1).map (mvP (P ++ [n]) (P2 ++ [m]))) := by
    have p1 : (allOf (moveW W r n k r2 m) k (P2 ++ [m])).Perm ((allOf W k (P ++ [n])).map (mvP (P ++ [n]) (P2 ++ [m]))) := by
      refine (List.perm_ext_iff_of_nodup (all_nodup ok' hkl') (mv_inj M.ok M.t hkl)).mpr fun x => ?_
      rw [M.inner ok', all_shift M.ok M.t (old := P ++ [n]), List.mem_map]
      constructor
      · rintro ⟨y, h1, h2⟩
        exact ⟨y, h1, h2.symm⟩
      · rintro ⟨y, h1, h2⟩
        exact ⟨y, h1, h2.symm⟩
    exact p1.trans (((sortR_perm rs1).trans pm1).map _).symm
  have newA := M.newAt []
  rw [List.append_nil] at newA
  obtain ⟨rs, h1, h2⟩ := ben_rows ok' M.tree M.ho' u1 gn hl newA (by rw [(M.kind k).1]; exact M.hk) (fun x hx => by
    have := h10 x (pm.mem_iff.mp hx)
    exact ⟨by omega, fun _ => by omega⟩) (by rw [pm.length_eq, List.length_map, (sortR_perm _).length_eq]; exact few)
  exact ⟨rs, h1, h2.trans pm⟩
theorem Mv.benTop (M : Mv W P n k r P2 m r2) (ok' : (moveW W r n k r2 m).Ok) (u1 : (0 : Int) < W.groups.length) (hl : (P2 ++ [m]).length ≤ 11) {rs1 : List Row} (pm1 : rs1.Perm (allOf W k (P ++ [n]))) (few : namesN W ≤ 90) (h10 : ∀ x ∈ (sortR rs1).map (mvP (P ++ [n]) (P2 ++ [m])), x.1.length ≤ 10) (h10' : ∀ x ∈ (sortR (allOf W 0 [])).filter (offB (P ++ [n])), x.1.length ≤ 10) : ∃ rs, benR (moveW W r n k r2 m) (.int 0) (.str "/") = .ok rs ∧ rs.Perm ((sortR (allOf W 0 [])).filter (offB (P ++ [n])) ++ (sortR rs1).map (mvP (P ++ [n]) (P2 ++ [m])) ++ [((P2 ++ [m], Str.ofString "room") : Row)]) := by
  have hkl : k < W.nodes.length := name_lt2 M.ok (look_mem M.h2)
  have pm : (allOf (moveW W r n k r2 m) 0 []).Perm ((sortR (allOf W 0 [])).filter (offB (P ++ [n])) ++ (sortR rs1).map (mvP (P ++ [n]) (P2 ++ [m])) ++ [((P2 ++ [m], Str.ofString "room") : Row)]) :=
    (M.rows ok').trans (List.Perm.append_right _ (List.Perm.append ((sortR_perm _).filter _).symm (((sortR_perm rs1).trans pm1).map _).symm))
  have f1 := all_few M.ok M.t (n := 0) (ps := []) M.ok.one
  have f2 := all_few M.ok M.t (n := k) (ps := P ++ [n]) hkl
  obtain ⟨rs, h1, h2⟩ := ben_rows ok' M.tree M.ho' u1 (ps := []) rfl (Nat.zero_le _) rfl ok'.top (fun x hx => by
    rcases List.mem_append.mp (pm.mem_iff.mp hx) with z | z
    · rcases List.mem_append.mp z with z | z
      · have := h10' x z
        exact ⟨by omega, fun _ => by omega⟩
      · have := h10 x z
        exact ⟨by omega, fun _ => by omega⟩
    · rw [List.mem_singleton.mp z]
      exact ⟨by dsimp only; omega, fun _ => hl⟩) (by
    rw [pm.length_eq, List.length_append, List.length_append, List.length_singleton, List.length_map, (sortR_perm _).length_eq, pm1.length_eq]
    have := List.length_filter_le (offB (P ++ [n])) (sortR (allOf W 0 []))
    rw [(sortR_perm _).length_eq] at this
    omega)
  exact ⟨rs, h1, h2.trans pm⟩
theorem Mv.goal10 (M : Mv W P n k r P2 m r2) (h10' : ∀ x ∈ (sortR (allOf W 0 [])).filter (offB (P ++ [n])), x.1.length ≤ 10) : P2.length ≤ 10 := by
  cases hP : P2 with
  | nil => exact Nat.zero_le _
  | cons s qs =>
    rw [← hP]
    have hm : ((P2, (W.at r2).kind) : Row) ∈ allOf W 0 [] := (all_mem M.ok M.t).mpr ⟨P2, r2, rfl, by rw [hP]; simp, M.h3⟩
    refine h10' _ (List.mem_filter.mpr ⟨(sortR_perm _).mem_iff.mpr hm, ?_⟩)
    unfold offB
    dsimp only
    rw [decide_eq_false M.nb]
    rfl
theorem Mv.reads (M : Mv W P n k r P2 m r2) (ok' : (moveW W r n k r2 m).Ok) (u1 : (0 : Int) < W.groups.length) {x : Row} {qs : List Str} {j : Nat} (hx : x = (P ++ [n] ++ qs, (W.at j).kind)) (hj : nAt W k qs = some j) (g' : goodParts (mvP (P ++ [n]) (P2 ++ [m]) x).1 = true) (hl : leafB x = true) : readR (moveW W r n k r2 m) (.int 0) (.str (pathOf (mvP (P ++ [n]) (P2 ++ [m]) x).1)) = .ok j ∧ ((moveW W r n k r2 m).at j).text = textAt W x.1 ∧ textAt (moveW W r n k r2 m) (mvP (P ++ [n]) (P2 ++ [m]) x).1 = textAt W x.1 := by
  have e : (mvP (P ++ [n]) (P2 ++ [m]) x).1 = P2 ++ [m] ++ qs := by
    unfold mvP
    rw [hx, List.drop_left]
  have h1 : nAt (moveW W r n k r2 m) 0 (mvP (P ++ [n]) (P2 ++ [m]) x).1 = some j := by rw [e, M.newAt, hj]
  have hk : (mvP (P ++ [n]) (P2 ++ [m]) x).2 = ((moveW W r n k r2 m).at j).kind := by
    rw [(M.kind j).1]
    unfold mvP
    rw [hx]
  obtain ⟨r1, r2'⟩ := reads_ok ok' M.ho' u1 g' h1 hk hl
  have tx : textAt W x.1 = (W.at j).text := by
    have : nAt W 0 x.1 = some j := by rw [hx]; dsimp only; rw [nAt_app, M.old]; exact hj
    unfold textAt
    rw [this]
  refine ⟨r1, by rw [tx, (M.kind j).2], by rw [r2', tx, (M.kind j).2]⟩
end
theorem shaped_about (d : Nd) : SeqAt.shaped (aboutD d) = true := by
  unfold SeqAt.shaped aboutD
  simp [PyData.canLay0, PyData.canLayAll0, PyData.depth, PyData.depthAll]
end Tm

/-! rooms copied, rooms cleared -/
namespace Tm
open PySem PySem.Spec PyProof.Rows L2
/-- names in their order -/
def sortN (l : List (Str × Nat)) : List (Str × Nat) := (sortS (l.map (·.1))).map fun s => (s, (look s l).getD 0)
theorem sortN_perm {W : Wd} (ok : W.Ok) {x : Nat} (hx : x < W.nodes.length) : (sortN (W.at x).names).Perm (W.at x).names := names_perm ok hx (sortS_perm _)
theorem sortN_keys (l : List (Str × Nat)) : (sortN l).map (·.1) = sortS (l.map (·.1)) := by
  unfold sortN
  rw [List.map_map]
  exact List.map_id _
def copyNd (W : Wd) (u : Int) (x : Nat) : Nd := ⟨(W.at x).kind, u, W.groups.getD u.toNat 0, (W.at x).r0, (W.at x).r1, (W.at x).r2, [], (W.at x).text, 1⟩
def copyL (go : Wd → Nat → Wd) (k : Nat) : List (Str × Nat) → Wd → Wd
  | [], W => W
  | p :: r, W => copyL go k r (nameW (go W p.2) k p.1 W.nodes.length)
def copyGo (u : Int) : Nat → Wd → Nat → Wd
  | 0, W, x => W.add (copyNd W u x)
  | n + 1, W, x => copyL (copyGo u n) W.nodes.length (sortN (W.at x).names) (W.add (copyNd W u x))
/-- how deep names go -/
def Nst (W : Wd) : Nat → Nat → Prop
  | 0, x => (W.at x).names = []
  | n + 1, x => ∀ p ∈ (W.at x).names, Nst W n p.2
def sizeGo (W : Wd) : Nat → Nat → Nat
  | 0, _ => 1
  | n + 1, x => 1 + ((W.at x).names.map fun p => sizeGo W n p.2).sum
theorem nst_le {W : Wd} : ∀ (n m x : Nat), n ≤ m → Nst W n x → Nst W m x
  | 0, 0, _, _, h => h
  | 0, m + 1, x, _, h => fun p hp => by
    have h : (W.at x).names = [] := h
    rw [h] at hp
    cases hp
  | n + 1, 0, _, hl, _ => absurd hl (by omega)
  | n + 1, m + 1, x, hl, h => fun p hp => nst_le n m p.2 (by omega) (h p hp)
theorem nst_hgt {W : Wd} (ok : W.Ok) : ∀ (n x : Nat), Hgt W n x → Nst W (n + 1) x
  | n, x, h => fun p hp => by
    have lt := name_lt2 ok (n := p.1) (c := p.2) hp
    by_cases k : (W.at p.2).kind = "room"
    · have kid : Kid W x p.2 := ⟨p.1, hp, k⟩
      cases n with
      | zero => exact (h _ kid).elim
      | succ n => exact nst_hgt ok n p.2 (h _ kid)
    · exact nst_le 0 n _ (Nat.zero_le _) ((ok.at lt).lf k)
theorem nst_old {W W' : Wd} (ok : W.Ok) (old : ∀ i, i < W.nodes.length → W'.at i = W.at i) : ∀ (n x : Nat), x < W.nodes.length → Nst W n x → Nst W' n x
  | 0, x, hx, h => by
    show (W'.at x).names = []
    rw [old x hx]
    exact h
  | n + 1, x, hx, h => fun p hp => by
    rw [old x hx] at hp
    exact nst_old ok old n p.2 (name_lt2 ok (n := p.1) hp) (h p hp)
theorem size_old {W W' : Wd} (ok : W.Ok) (old : ∀ i, i < W.nodes.length → W'.at i = W.at i) : ∀ (n x : Nat), x < W.nodes.length → sizeGo W' n x = sizeGo W n x
  | 0, _, _ => rfl
  | n + 1, x, hx => by
    show 1 + ((W'.at x).names.map fun p => sizeGo W' n p.2).sum = 1 + ((W.at x).names.map fun p => sizeGo W n p.2).sum
    rw [old x hx]
    congr 2
    exact List.map_congr_left fun p hp => size_old ok old n p.2 (name_lt2 ok (n := p.1) hp)
theorem add_ok {W : Wd} (ok : W.Ok) {d : Nd} (hd : d.New) : (W.add d).Ok := by
  have hl : (W.add d).nodes.length = W.nodes.length + 1 := Wd.add_len
  refine ⟨ok.grp, by rw [hl]; omega, by rw [Wd.add_at ok.one]; exact ok.top, fun e he => ?_, fun p hp => ?_, ok.odup, ok.end_⟩
  · rcases List.mem_append.mp (show e ∈ W.nodes ++ [d] from he) with he | he
    · have o := ok.nod e he
      exact ⟨fun p hp => ⟨(o.nam p hp).1, by rw [hl]; have := (o.nam p hp).2; omega⟩, o.dup, o.hnt, o.txt, o.rts, o.knd, o.lf⟩
    · rw [List.mem_singleton.mp he]
      exact ⟨fun p hp => (by rw [hd.nam] at hp; cases hp), (by rw [hd.nam]; exact .nil), hd.hnt, hd.txt, hd.rts, hd.knd, fun _ => hd.nam⟩
  · have := ok.ovr p hp
    rw [hl, Wd.add_at this.1, Wd.add_at this.2.1]
    exact ⟨by omega, by omega, this.2.2⟩
theorem copyNd_new {W : Wd} (ok : W.Ok) {u : Int} {x : Nat} (hx : x < W.nodes.length) : (copyNd W u x).New := ⟨rfl, (ok.at hx).hnt, (ok.at hx).txt, (ok.at hx).rts, (ok.at hx).knd⟩
/-- what a copy brings about -/
structure CpOk (W : Wd) (s : Nat) (kd : Str) (W' : Wd) : Prop where
  ok : W'.Ok
  len : W'.nodes.length = W.nodes.length + s
  pos : 0 < s
  old : ∀ i, i < W.nodes.length → W'.at i = W.at i
  grp : W'.groups = W.groups
  ovr : W'.over = W.over
  knd : (W'.at W.nodes.length).kind = kd
  sml : ∀ i, (W'.at i).names.length ≤ 63
structure CpMid (W : Wd) (kd : Str) (l : List Str) (s : Nat) (W' : Wd) : Prop where
  ok : W'.Ok
  len : W'.nodes.length = W.nodes.length + 1 + s
  old : ∀ i, i < W.nodes.length → W'.at i = W.at i
  grp : W'.groups = W.groups
  ovr : W'.over = W.over
  knd : (W'.at W.nodes.length).kind = kd
  nms : (W'.at W.nodes.length).names.map (·.1) = l
  sml : ∀ i, (W'.at i).names.length ≤ 63
theorem mid_start {W : Wd} (ok : W.Ok) (sm : ∀ i, (W.at i).names.length ≤ 63) {u : Int} {x : Nat} (hx : x < W.nodes.length) : CpMid W (W.at x).kind [] 0 (W.add (copyNd W u x)) := by
  refine ⟨add_ok ok (copyNd_new ok hx), Wd.add_len, fun i hi => Wd.add_at hi, rfl, rfl, by rw [Wd.add_new]; rfl, by rw [Wd.add_new]; rfl, fun i => ?_⟩
  by_cases e : i < W.nodes.length
  · rw [Wd.add_at e]
    exact sm i
  · by_cases e2 : i = W.nodes.length
    · rw [e2, Wd.add_new]
      exact Nat.zero_le _
    · rw [at_big (by rw [Wd.add_len]; omega)]
      exact Nat.zero_le _
theorem look_keys {n : Str} {l : List (Str × Nat)} (h : n ∉ l.map (·.1)) : look n l = none := by
  cases e : look n l with
  | none => rfl
  | some v => exact absurd (List.mem_map_of_mem (f := (·.1)) (look_mem e)) h
theorem mid_step {W Wi W2 : Wd} {l : List Str} {s s' : Nat} {kd kd' nm : Str} (M : CpMid W kd l s Wi) (C : CpOk Wi s' kd' W2) (hn : isName nm = true) (hnl : nm ∉ l) (hk : kd = "room") (h63 : l.length < 63) : CpMid W kd (l ++ [nm]) (s + s') (nameW W2 W.nodes.length nm Wi.nodes.length) := by
  have li := M.len
  have l2 := C.len
  have hp := C.pos
  have kat : W2.at W.nodes.length = Wi.at W.nodes.length := C.old _ (by omega)
  have hr : W.nodes.length < W2.nodes.length := by omega
  have hlk : look nm (W2.at W.nodes.length).names = none := look_keys (by rw [kat, M.nms]; exact hnl)
  refine ⟨nameW_ok C.ok hr (by rw [kat, M.knd, hk]) hn hlk (by omega), by rw [len_name]; omega, fun i hi => ?_, C.grp.trans M.grp, C.ovr.trans M.ovr, ?_, ?_, fun i => ?_⟩
  · rw [name_at hr, if_neg (by omega), C.old i (by omega), M.old i hi]
  · rw [name_kind hr, kat]
    exact M.knd
  · rw [name_at hr, if_pos rfl, kat]
    show ((Wi.at W.nodes.length).names ++ [(nm, Wi.nodes.length)]).map (·.1) = _
    rw [List.map_append, M.nms]
    rfl
  · rw [name_at hr]
    split
    · show ((W2.at W.nodes.length).names ++ [_]).length ≤ 63
      have : (Wi.at W.nodes.length).names.length = l.length := by rw [← M.nms, List.length_map]
      rw [kat, List.length_append, List.length_singleton]
      omega
    · exact C.sml i
/-- the names of a room, one by one -/
theorem mid_list {u : Int} {n : Nat} (ih : ∀ (W : Wd) (x : Nat), W.Ok → (∀ i, (W.at i).names.length ≤ 63) → x < W.nodes.length → Nst W n x → CpOk W (sizeGo W n x) (W.at x).kind (copyGo u n W x)) {W : Wd} (ok : W.Ok) {kd : Str} (hk : kd = "room") :
    ∀ (l : List (Str × Nat)) {Wi : Wd} {done : List Str} {s : Nat}, CpMid W kd done s Wi → (∀ p ∈ l, isName p.1 = true ∧ p.2 < W.nodes.length ∧ Nst W n p.2) → (done ++ l.map (·.1)).Nodup → done.length + l.length ≤ 63 → CpMid W kd (done ++ l.map (·.1)) (s + (l.map fun p => sizeGo W n p.2).sum) (copyL (copyGo u n) W.nodes.length l Wi)
  | [], Wi, done, s, M, _, _, _ => by
    rw [List.map_nil, List.append_nil]
    exact M
  | p :: r, Wi, done, s, M, hl, hd, h63 => by
    obtain ⟨h1, h2, h3⟩ := hl p (List.mem_cons_self ..)
    have lt : p.2 < Wi.nodes.length := by have := M.len; omega
    have C := ih Wi p.2 M.ok M.sml lt (nst_old ok M.old n _ h2 h3)
    rw [size_old ok M.old n _ h2] at C
    rw [List.length_cons] at h63
    rw [List.map_cons] at hd
    have nl : p.1 ∉ done := fun z => (List.nodup_append.mp hd).2.2 _ z _ (List.mem_cons_self ..) rfl
    have M2 := mid_step M C h1 nl hk (by omega)
    have e : done ++ p.1 :: r.map (·.1) = (done ++ [p.1]) ++ r.map (·.1) := by simp
    have := mid_list ih ok hk r M2 (fun q hq => hl q (List.mem_cons_of_mem _ hq)) (by rw [← e]; exact hd) (by rw [List.length_append, List.length_singleton]; omega)
    rw [List.map_cons, e, List.map_cons, List.sum_cons, ← Nat.add_assoc]
    exact this
theorem mid_end {W W' : Wd} {kd : Str} {l : List Str} {s : Nat} (M : CpMid W kd l s W') : CpOk W (1 + s) kd W' := ⟨M.ok, by rw [M.len]; omega, by omega, M.old, M.grp, M.ovr, M.knd, M.sml⟩
theorem sum_perm {l m : List Nat} (h : l.Perm m) : l.sum = m.sum := by
  induction h with
  | nil => rfl
  | cons x _ ih => rw [List.sum_cons, List.sum_cons, ih]
  | swap x y l => rw [List.sum_cons, List.sum_cons, List.sum_cons, List.sum_cons]; omega
  | trans _ _ a b => exact a.trans b
theorem names_room {W : Wd} (ok : W.Ok) {x : Nat} (hx : x < W.nodes.length) {p : Str × Nat} (hp : p ∈ (W.at x).names) : (W.at x).kind = "room" := by
  by_cases k : (W.at x).kind = "room"
  · exact k
  · rw [(ok.at hx).lf k] at hp
    cases hp
theorem copy_ok {u : Int} : ∀ (n : Nat) (W : Wd) (x : Nat), W.Ok → (∀ i, (W.at i).names.length ≤ 63) → x < W.nodes.length → Nst W n x → CpOk W (sizeGo W n x) (W.at x).kind (copyGo u n W x)
  | 0, W, x, ok, sm, hx, _ => mid_end (mid_start ok sm hx)
  | n + 1, W, x, ok, sm, hx, hn => by
    have pm := sortN_perm ok hx
    have M := mid_start (u := u) ok sm hx
    cases hnm : (W.at x).names with
    | nil =>
      have e : sortN (W.at x).names = [] := by rw [hnm]; rfl
      show CpOk W (1 + ((W.at x).names.map fun p => sizeGo W n p.2).sum) _ (copyL (copyGo u n) W.nodes.length (sortN (W.at x).names) (W.add (copyNd W u x)))
      rw [e, hnm]
      exact mid_end M
    | cons q r =>
      have hk : (W.at x).kind = "room" := names_room ok hx (p := q) (by rw [hnm]; exact List.mem_cons_self ..)
      have kd : ((sortN (W.at x).names).map (·.1)).Nodup := (pm.map (·.1)).nodup_iff.mpr (ok.at hx).dup
      have M2 := mid_list (u := u) (copy_ok n) ok hk (sortN (W.at x).names) M (fun p hp => by
        have hp := pm.mem_iff.mp hp
        exact ⟨((ok.at hx).nam p hp).1, ((ok.at hx).nam p hp).2, hn p hp⟩) (by rw [List.nil_append]; exact kd) (by
        rw [pm.length_eq]
        have := sm x
        simp only [List.length_nil]
        omega)
      have C := mid_end M2
      rw [Nat.zero_add, sum_perm (pm.map fun p => sizeGo W n p.2)] at C
      exact C
/-! ### the house grows and grows -/
theorem off_grew {h : Addr} {L L1 : Lay} {H H1 H2 : Hp} (o1 : Off (fp h L) H H1) (g1 : Grew h L L1 H) (o2 : Off (fp h L1) H1 H2) : Off (fp h L) H H2 := fun a o ha hn => by
  refine o2 a o (o1 a o ha hn) fun z => ?_
  rcases g1.2 a z with z | z
  · exact hn z
  · rw [z] at ha
    cases ha
theorem grew_trans {h : Addr} {L L1 L2 : Lay} {H H1 : Hp} (o1 : Off (fp h L) H H1) (g1 : Grew h L L1 H) (g2 : Grew h L1 L2 H1) : Grew h L L2 H := by
  refine ⟨⟨g2.1.1.trans g1.1.1, g2.1.2.1.trans g1.1.2.1, g2.1.2.2.trans g1.1.2.2⟩, fun a ha => ?_⟩
  rcases g2.2 a ha with z | z
  · exact g1.2 a z
  · by_cases m : a ∈ fp h L
    · exact .inl m
    · refine .inr ?_
      cases e : H a with
      | none => rfl
      | some o => rw [o1 a o e m] at z; cases z
theorem out_grew {h : Addr} {L L1 : Lay} {H : Hp} {p : Addr} {o : HO} (g : Grew h L L1 H) (hp : H p = some o) (hn : p ∉ fp h L) : p ∉ fp h L1 := fun z => by
  rcases g.2 p z with z | z
  · exact hn z
  · rw [z] at hp
    cases hp
theorem add_text {W : Wd} {d : Nd} {t : Str} : (W.add d).put W.nodes.length { (W.add d).at W.nodes.length with text := t } = W.add { d with text := t } := by
  rw [Wd.add_new]
  unfold Wd.put Wd.add
  simp only [Wd.mk.injEq, true_and, and_true]
  rw [List.set_append_right _ _ (Nat.le_refl _), Nat.sub_self]
  rfl
theorem copyL_snoc (go : Wd → Nat → Wd) (k : Nat) (p : Str × Nat) : ∀ (l : List (Str × Nat)) (W : Wd), copyL go k (l ++ [p]) W = nameW (go (copyL go k l W) p.2) k p.1 (copyL go k l W).nodes.length
  | [], _ => rfl
  | q :: r, W => copyL_snoc go k p r _
/-! ### whether all rooms beneath one may be handled -/
def freeR (W : Wd) (u : Int) (n : Nat) (right : Int) : Option Err := if (roomsOf W n).any (boundB W) = true then some (.no 11) else ((List.range W.nodes.length).find? fun i => decide (i ∈ roomsOf W n) && !mayOf W u i right).map fun i : Nat => Err.right u (i : Int)
theorem freeR_plain {W : Wd} {u : Int} {n : Nat} {right : Int} {e : Err} (h : freeR W u n right = some e) : e.Plain := by
  unfold freeR at h
  split at h
  · cases h
    exact plain11
  · obtain ⟨i, _, rfl⟩ := Option.map_eq_some_iff.mp h
    exact trivial
/-- the least one -/
theorem find_least {p : Nat → Bool} {N i : Nat} (hi : i < N) (h : p i = true) (hl : ∀ j, j < i → p j = false) : (List.range N).find? p = some i := by
  rw [List.find?_range_eq_some]
  exact ⟨h, List.mem_range.mpr hi, fun j hj => by rw [hl j hj]; rfl⟩
theorem find_no {p : Nat → Bool} {N : Nat} (h : ∀ j, j < N → p j = false) : (List.range N).find? p = none := by
  rw [List.find?_eq_none]
  exact fun j hj => by rw [h j (List.mem_range.mp hj)]; decide
def copyR (W : Wd) (vu vo vn : V) : Res (Nat × List Std × Str) := if userB W vu = false then .err (.no 3) else match roomV' W (userI vu) vo with
  | .err e => .err e
  | .ok ss => match freeV W (userI vu) vn with
    | .err e => .err e
    | .ok st m => match freeR W (userI vu) (last ss).number 5 with
      | some e => .err e
      | none => if (last ss).number ∈ st.map (·.number) then .err (.no 12) else .ok ((last ss).number, st, m)
def copyW (W : Wd) (u : Int) (x r : Nat) (m : Str) : Wd := nameW (copyGo u 13 W x) r m W.nodes.length
theorem copyR_plain {W : Wd} {vu vo vn : V} {e : Err} (h : copyR W vu vo vn = .err e) : e.Plain := by
  unfold copyR at h
  split at h
  · cases h; exact plain3
  · split at h
    · rename_i he
      cases h
      exact roomV_plain he
    · split at h
      · rename_i he
        cases h
        exact free_plain he
      · split at h
        · rename_i he
          cases h
          exact freeR_plain he
        · split at h
          · cases h
            exact plain12
          · cases h
def clearR (W : Wd) (vu vp : V) : Res (List Std × Str × Nat) := if userB W vu = false then .err (.no 3) else match namedR W (userI vu) vp with
  | .err e => .err e
  | .ok (ss, n, k) => if (W.at k).kind = "room" then match freeR W (userI vu) k 3 with
    | some e => .err e
    | none => .ok (ss, n, k) else .ok (ss, n, k)
theorem clearR_plain {W : Wd} {vu vp : V} {e : Err} (h : clearR W vu vp = .err e) : e.Plain := by
  unfold clearR at h
  split at h
  · cases h; exact plain3
  · split at h
    · rename_i he
      cases h
      exact namedR_plain he
    · split at h
      · split at h
        · rename_i he
          cases h
          exact freeR_plain he
        · cases h
      · cases h
/-- the rooms that are cleared with a name -/
def clearS (W : Wd) (k : Nat) : List Nat := if (W.at k).kind = "room" then roomsOf W k else []
/-- how many names of rooms S are those of a node -/
def decN (W : Wd) (S : List Nat) (i : Nat) : Nat := (S.map fun r => (W.at r).names.countP fun p => decide (p.2 = i)).sum
def midNd (W : Wd) (S : List Nat) (l : List (Str × Nat)) (i : Nat) : Nd := { W.at i with names := if i ∈ S then [] else (W.at i).names, count := (W.at i).count - ((decN W S i + l.countP fun p => decide (p.2 = i) : Nat) : Int) }
/-- the rooms S are cleared, the names l are counted off -/
def midA (W : Wd) (S : List Nat) (l : List (Str × Nat)) : Wd := { W with nodes := (List.range W.nodes.length).map (midNd W S l) }
def clearA (W : Wd) (S : List Nat) : Wd := midA W S []
def clearW (W : Wd) (r : Nat) (n : Str) (k : Nat) : Wd := dropW (cntW (clearA W (clearS W k)) k (-1)) r n
def clearN (W : Wd) (k : Nat) : Nat := 1 + ((clearS W k).map fun r => (W.at r).names.length).sum
theorem mid_len {W : Wd} {S : List Nat} {l : List (Str × Nat)} : (midA W S l).nodes.length = W.nodes.length := by
  show ((List.range W.nodes.length).map (midNd W S l)).length = _
  rw [List.length_map, List.length_range]
theorem mid_at {W : Wd} {S : List Nat} {l : List (Str × Nat)} {i : Nat} (hi : i < W.nodes.length) : (midA W S l).at i = midNd W S l i := by
  unfold Wd.at midA
  show ((List.range W.nodes.length).map (midNd W S l)).getD i nd0 = _
  rw [List.getD_eq_getElem?_getD, List.getElem?_map, List.getElem?_range hi]
  rfl
theorem wd_ext {A B : Wd} (hg : A.groups = B.groups) (ho : A.over = B.over) (hl : A.nodes.length = B.nodes.length) (h : ∀ i, i < A.nodes.length → A.at i = B.at i) : A = B := by
  obtain ⟨g, n, o⟩ := A
  obtain ⟨g', n', o'⟩ := B
  have hg : g = g' := hg
  have ho : o = o' := ho
  subst hg ho
  congr
  refine List.ext_getElem hl fun i h1 h2 => ?_
  have := h i h1
  unfold Wd.at at this
  rw [List.getD_eq_getElem?_getD, List.getD_eq_getElem?_getD, List.getElem?_eq_getElem h1, List.getElem?_eq_getElem h2] at this
  exact this
theorem mid_nil {W : Wd} : midA W [] [] = W := by
  refine wd_ext rfl rfl mid_len fun i hi => ?_
  rw [mid_len] at hi
  rw [mid_at hi]
  show ({ W.at i with names := if i ∈ ([] : List Nat) then [] else (W.at i).names, count := (W.at i).count - ((0 : Nat) : Int) } : Nd) = _
  rw [if_neg (List.not_mem_nil), show (W.at i).count - ((0 : Nat) : Int) = (W.at i).count by omega]
theorem mid_cnt {W : Wd} {S : List Nat} {l : List (Str × Nat)} {c : Nat} {s : Str} (hc : c < W.nodes.length) : (midA W S l).put c { (midA W S l).at c with count := ((midA W S l).at c).count + -1 } = midA W S (l ++ [(s, c)]) := by
  refine wd_ext rfl rfl (by rw [Wd.len_put, mid_len, mid_len]) fun i hi => ?_
  rw [Wd.len_put, mid_len] at hi
  rw [Wd.at_put (by rw [mid_len]; exact hc), mid_at (l := l ++ [(s, c)]) hi]
  by_cases e : i = c
  · rw [if_pos e, e, mid_at hc]
    unfold midNd
    simp only [Nd.mk.injEq, true_and, and_true]
    rw [List.countP_append, show List.countP (fun p : Str × Nat => decide (p.2 = c)) [(s, c)] = 1 by simp]
    omega
  · rw [if_neg e, mid_at hi]
    unfold midNd
    simp only [Nd.mk.injEq, true_and, and_true]
    rw [List.countP_append, show List.countP (fun p : Str × Nat => decide (p.2 = i)) [(s, c)] = 0 by simp; exact fun z => e z.symm]
    omega
theorem mid_clear {W : Wd} {S : List Nat} {r : Nat} (hr : r < W.nodes.length) : (midA W S (W.at r).names).put r { (midA W S (W.at r).names).at r with names := [] } = midA W (S ++ [r]) [] := by
  refine wd_ext rfl rfl (by rw [Wd.len_put, mid_len, mid_len]) fun i hi => ?_
  rw [Wd.len_put, mid_len] at hi
  have dn : ∀ j, decN W (S ++ [r]) j = decN W S j + (W.at r).names.countP fun p => decide (p.2 = j) := fun j => by
    unfold decN
    rw [List.map_append, List.sum_append, List.map_singleton, List.sum_singleton]
  rw [Wd.at_put (by rw [mid_len]; exact hr), mid_at (l := []) hi]
  by_cases e : i = r
  · rw [if_pos e, e, mid_at hr]
    unfold midNd
    rw [dn]
    simp only [Nd.mk.injEq, true_and, and_true]
    exact ⟨(if_pos (List.mem_append_right _ (List.mem_singleton.mpr rfl))).symm, rfl⟩
  · rw [if_neg e, mid_at hi]
    unfold midNd
    rw [dn]
    simp only [Nd.mk.injEq, true_and, and_true]
    refine ⟨?_, ?_⟩
    · by_cases m : i ∈ S
      · rw [if_pos m, if_pos (List.mem_append_left _ m)]
      · rw [if_neg m, if_neg fun z => (List.mem_append.mp z).elim m fun z => e (List.mem_singleton.mp z)]
    · rfl
theorem clear_perm {W : Wd} {S T : List Nat} (h : S.Perm T) : clearA W S = clearA W T := by
  refine wd_ext rfl rfl (by rw [clearA, clearA, mid_len, mid_len]) fun i hi => ?_
  unfold clearA at hi ⊢
  rw [mid_len] at hi
  rw [mid_at hi, mid_at hi]
  unfold midNd
  have d : decN W S i = decN W T i := sum_perm (h.map _)
  rw [d]
  congr 1
  by_cases m : i ∈ S
  · rw [if_pos m, if_pos (h.mem_iff.mp m)]
  · rw [if_neg m, if_neg fun z => m (h.mem_iff.mpr z)]
theorem mid_ok {W : Wd} (ok : W.Ok) {S : List Nat} {l : List (Str × Nat)} : (midA W S l).Ok := by
  refine ⟨ok.grp, by rw [mid_len]; exact ok.one, by rw [mid_at ok.one]; exact ok.top, fun d hd => ?_, fun p hp => ?_, ok.odup, ok.end_⟩
  · obtain ⟨i, hi, rfl⟩ := List.mem_map.mp (show d ∈ (List.range W.nodes.length).map (midNd W S l) from hd)
    have hi := List.mem_range.mp hi
    have o := ok.at hi
    refine ⟨fun p hp => ?_, ?_, o.hnt, o.txt, o.rts, o.knd, fun z => ?_⟩
    · rw [mid_len]
      have hp : p ∈ (if i ∈ S then [] else (W.at i).names) := hp
      split at hp
      · cases hp
      · exact o.nam p hp
    · show ((if i ∈ S then [] else (W.at i).names).map (·.1)).Nodup
      split
      · exact .nil
      · exact o.dup
    · show (if i ∈ S then [] else (W.at i).names) = []
      split
      · rfl
      · exact o.lf z
  · have := ok.ovr p hp
    rw [mid_len, mid_at this.1, mid_at this.2.1]
    exact this
theorem clear_up {W : Wd} (ok : W.Ok) (t : Tree W) {r k : Nat} {n : Str} (h : (n, k) ∈ (W.at r).names) : r ∉ clearS W k := fun z => by
  unfold clearS at z
  split at z
  · rename_i hk
    obtain ⟨rank, hr⟩ := t.rk
    have b := Below.rank hr ((mem_rooms ok t).mp z)
    have := hr r k ⟨n, h, hk⟩
    omega
  · cases z
theorem clear_nodup {W : Wd} (ok : W.Ok) (t : Tree W) {k : Nat} : (clearS W k).Nodup := by
  unfold clearS
  split
  · exact rooms_nodup ok t k
  · exact .nil
end Tm

/-! the law k19 in plain words -/
namespace Tm
open PySem PySem.Spec PyProof.Rows L2
instance decStd : DecidableEq Std := fun a b =>
  decidable_of_iff (a.number = b.number ∧ a.name = b.name ∧ a.under = b.under) (by cases a; cases b; simp)
instance decNd : DecidableEq Nd := fun a b =>
  decidable_of_iff (a.kind = b.kind ∧ a.owner = b.owner ∧ a.group = b.group ∧ a.r0 = b.r0 ∧ a.r1 = b.r1 ∧ a.r2 = b.r2 ∧
    a.names = b.names ∧ a.text = b.text ∧ a.count = b.count) (by cases a; cases b; simp)
instance decWd : DecidableEq Wd := fun a b =>
  decidable_of_iff (a.groups = b.groups ∧ a.nodes = b.nodes ∧ a.over = b.over) (by cases a; cases b; simp)
def resB {α : Type} [DecidableEq α] (r : Res α) (x : α) : Bool := match r with
  | .ok y => decide (y = x)
  | .err _ => false
theorem resB_ok {α : Type} [DecidableEq α] {r : Res α} {x : α} (h : resB r x = true) : r = .ok x := by
  unfold resB at h
  split at h
  · rw [of_decide_eq_true h]
  · cases h
def noB {α : Type} (r : Res α) (i : Nat) : Bool := match r with
  | .err (.no j) => decide (j = i)
  | _ => false
theorem noB_ok {α : Type} {r : Res α} {i : Nat} (h : noB r i = true) : r = .err (.no i) := by
  unfold noB at h
  split at h
  · rw [of_decide_eq_true h]
  · cases h
def nd19 (ns : List (Str × Nat)) : Nd := ⟨"room", 0, 1, 7, 5, 5, ns, "", 1⟩
def lf19 (t : Str) : Nd := ⟨"leaf", 0, 1, 6, 4, 4, [], t, 1⟩
def w19 (j : Nat) : Wd := match j with
  | 0 => ⟨[1], [nd19 []], []⟩
  | 1 => ⟨[1], [nd19 [("a", 1)], nd19 []], []⟩
  | 2 => ⟨[1], [nd19 [("a", 1)], nd19 [("b", 2)], nd19 []], []⟩
  | 3 => ⟨[1], [nd19 [("a", 1), ("c", 3)], nd19 [("b", 2)], nd19 [], nd19 []], []⟩
  | 4 => ⟨[1], [nd19 [("a", 1), ("c", 3), ("leaf", 4)], nd19 [("b", 2)], nd19 [], nd19 [], lf19 "top"], []⟩
  | 5 => ⟨[1], [nd19 [("a", 1), ("c", 3), ("leaf", 4)], nd19 [("b", 2)], nd19 [], nd19 [("in", 5)], lf19 "top", lf19 "c"], []⟩
  | 6 => ⟨[1], [nd19 [("a", 1), ("c", 3), ("leaf", 4)], nd19 [("b", 2)], nd19 [], nd19 [("in", 5)], lf19 "top", lf19 "c"], [(2, 0)]⟩
  | 7 => ⟨[1], [nd19 [("a", 1), ("c", 3), ("leaf", 4)], nd19 [("b", 2)], nd19 [], nd19 [("in", 5)], lf19 "top", lf19 "c"], [(2, 0), (3, 1)]⟩
  | _ => ⟨[1], [nd19 [("a", 1), ("c", 3), ("leaf", 4)], nd19 [("b", 2)], nd19 [], nd19 [("in", 5)], lf19 "top", lf19 "c"], [(3, 1)]⟩
theorem mk19a : makeP (w19 0) 0 "/a" (roomN (w19 0) 0 7 5 5) = .ok (w19 1) := resB_ok (by decide +kernel)
theorem mk19b : makeP (w19 1) 0 "/a/b" (roomN (w19 1) 0 7 5 5) = .ok (w19 2) := resB_ok (by decide +kernel)
theorem mk19c : makeP (w19 2) 0 "/c" (roomN (w19 2) 0 7 5 5) = .ok (w19 3) := resB_ok (by decide +kernel)
theorem mk19d : makeP (w19 3) 0 "/leaf" (leafN (w19 3) 0 "top" 6 4 4) = .ok (w19 4) := resB_ok (by decide +kernel)
theorem mk19e : makeP (w19 4) 0 "/c/in" (leafN (w19 4) 0 "c" 6 4 4) = .ok (w19 5) := resB_ok (by decide +kernel)
theorem hg19a : hangR (w19 5) (.int 0) (.str "/") (.str "/a/b") = .ok (0, 2) := resB_ok (by decide +kernel)
theorem hg19b : hangR (w19 6) (.int 0) (.str "/a") (.str "/c") = .ok (1, 3) := resB_ok (by decide +kernel)
theorem dn19 : downR (w19 7) (.int 0) (.str "/c/b/a/b") = .ok 2 := resB_ok (by decide +kernel)
def ring19 (m : Nat) : Str := repS "/a/b" m
theorem rd19 : ∀ m < 5, readR (w19 6) (.int 0) (.str (ring19 (m + 1) ++ "/leaf")) = .ok 4 := by
  intro m hm
  have h : ∀ m < 5, resB (readR (w19 6) (.int 0) (.str (ring19 (m + 1) ++ "/leaf"))) 4 = true := by decide +kernel
  exact resB_ok (h m hm)
def ab19 (m : Nat) : List Str := (List.replicate m [Str.ofString "a", Str.ofString "b"]).flatten
theorem tp19 : ∀ m < 5, trueR (w19 6) (.int 0) (.str (ring19 (m + 1) ++ "/c/in")) = .ok (ab19 (m + 1) ++ [Str.ofString "c", Str.ofString "in"]) ∧ goodParts (ab19 (m + 1) ++ [Str.ofString "c", Str.ofString "in"]) = true ∧ pathOf (ab19 (m + 1) ++ [Str.ofString "c", Str.ofString "in"]) = ring19 (m + 1) ++ "/c/in" := by
  intro m hm
  have h : ∀ m < 5, resB (trueR (w19 6) (.int 0) (.str (ring19 (m + 1) ++ "/c/in"))) (ab19 (m + 1) ++ [Str.ofString "c", Str.ofString "in"]) = true ∧ goodParts (ab19 (m + 1) ++ [Str.ofString "c", Str.ofString "in"]) = true ∧ pathOf (ab19 (m + 1) ++ [Str.ofString "c", Str.ofString "in"]) = ring19 (m + 1) ++ "/c/in" := by decide +kernel
  obtain ⟨h1, h2, h3⟩ := h m hm
  exact ⟨resB_ok h1, h2, h3⟩
theorem sm19a : ∀ m < 5, sameR (w19 6) (.int 0) (.str (ring19 (m + 1))) (.str "/") = .ok true := by
  intro m hm
  have h : ∀ m < 5, resB (sameR (w19 6) (.int 0) (.str (ring19 (m + 1))) (.str "/")) true = true := by decide +kernel
  exact resB_ok (h m hm)
theorem sm19b : sameR (w19 6) (.int 0) (.str "/a/b/a") (.str "/a") = .ok true := resB_ok (by decide +kernel)
theorem tq19 : ∀ m < 5, ∀ b < 2 * (m + 1) + 1, trueR (w19 6) (.int 0) (.str (ring19 (m + 1) ++ repS "/.." (min b (12 - 2 * (m + 1))))) = .ok ((ab19 (m + 1)).take (2 * (m + 1) - min b (12 - 2 * (m + 1)))) ∧ goodParts ((ab19 (m + 1)).take (2 * (m + 1) - min b (12 - 2 * (m + 1)))) = true := by
  intro m hm b hb
  have h : ∀ m < 5, ∀ b < 2 * (m + 1) + 1, resB (trueR (w19 6) (.int 0) (.str (ring19 (m + 1) ++ repS "/.." (min b (12 - 2 * (m + 1)))))) ((ab19 (m + 1)).take (2 * (m + 1) - min b (12 - 2 * (m + 1)))) = true ∧ goodParts ((ab19 (m + 1)).take (2 * (m + 1) - min b (12 - 2 * (m + 1)))) = true := by decide +kernel
  obtain ⟨h1, h2⟩ := h m hm b hb
  exact ⟨resB_ok h1, h2⟩
theorem len19 : ∀ m < 5, (ring19 (m + 1)).length ≤ 20 ∧ (∀ k < 13, (repS "/.." k).length ≤ 39) := by decide +kernel
/-- a sorted list of rows, told outright -/
theorem sortR_is {rs qs : List Row} (p : qs.Perm rs) (s : qs.Pairwise fun a b => leRow a b = true) (hg : ∀ r ∈ rs, goodParts r.1 = true) : sortR rs = qs := by
  have s1 : (sortR rs).Pairwise fun a b => leRow a b = true := List.pairwise_mergeSort (le := leRow) (fun a b c h1 h2 => by rw [leRow_eq] at h1 h2 ⊢; exact leD_trans h1 h2) (fun a b => by rw [leRow_eq, leRow_eq]; rcases leD_total (rowD a) (rowD b) with h | h <;> simp [h]) rs
  refine List.Perm.eq_of_pairwise (fun a b ha hb h1 h2 => ?_) s1 s ((sortR_perm rs).trans p.symm)
  rw [leRow_eq] at h1 h2
  exact rowD_inj (hg a ((sortR_perm rs).mem_iff.mp ha)) (hg b (p.mem_iff.mp hb)) (rowD_toks (leD_anti h1 h2))
def due19 : List Row := [(["a"], "room"), (["a", "b"], "room"), (["c"], "room"), (["c", "in"], "leaf"), (["leaf"], "leaf")]
def rows19 : List Row := [(["a"], "room"), (["a", "b"], "room"), (["c"], "room"), (["c", "in"], "leaf"), (["leaf"], "leaf")]
theorem ben19 : benR (w19 6) (.int 0) (.str "/") = .ok rows19 := resB_ok (by decide +kernel)
theorem srt19 : sortR rows19 = due19 := sortR_is (List.Perm.refl _) (by decide +kernel) (by decide +kernel)
theorem ben19b : benR (w19 7) (.int 0) (.str "/c") = .ok [(["c", "b"], "room")] := resB_ok (by decide +kernel)
theorem srt19b : sortR [(["c", "b"], "room")] = [([Str.ofString "c", Str.ofString "b"], Str.ofString "room")] := sortR_is (List.Perm.refl _) (by decide +kernel) (by decide +kernel)
theorem sm19c : sameR (w19 7) (.int 0) (.str "/c/b/c") (.str "/a") = .ok true := resB_ok (by decide +kernel)
theorem nm19a : namesR (w19 7) (.int 0) (.str "/c") = .ok 1 := resB_ok (by decide +kernel)
theorem nm19b : namesR (w19 8) (.int 0) (.str "/a/b") = .ok 2 := resB_ok (by decide +kernel)
theorem hn19 : hangR (w19 6) (.int 0) (.str "/c") (.str "/a/b") = .err (.no 12) ∧ hangR (w19 6) (.int 0) (.str "/c") (.str "/") = .err (.no 12) ∧ hangR (w19 6) (.int 0) (.str "/c") (.str "/c") = .err (.no 12) := ⟨noB_ok (by decide +kernel), noB_ok (by decide +kernel), noB_ok (by decide +kernel)⟩
theorem dn19b : downR (w19 8) (.int 0) (.str "/a/b") = .err (.no 11) := noB_ok (by decide +kernel)
theorem sml19 : ∀ j < 9, (w19 j).Small 63 := fun j hj => smallB_ok (by
  have h : ∀ j < 9, (w19 j).smallB 63 = true := by decide +kernel
  exact h j hj)
theorem tree_of_nodes {W W' : Wd} (t : Tree W) (h : W'.nodes = W.nodes) : Tree W' := by
  have e : ∀ i, W'.at i = W.at i := fun i => by
    unfold Wd.at
    rw [h]
  exact t.less (fun r p hp _ => by rw [e] at hp; exact hp) (fun r p _ hk => by rw [e] at hk; exact hk)
theorem tree_step {W W' : Wd} (ok : W.Ok) (t : Tree W) {p : Str} {d : Nd} (hd : d.names = []) (h : makeP W 0 p d = .ok W') : Tree W' := by
  unfold makeP at h
  split at h
  · cases h
  · rename_i hx
    cases h
    exact tree_made ok t (free_lt ok hx) hd
def edges (W : Wd) : List (Nat × Str × Nat) := (List.range W.nodes.length).flatMap fun i => (W.at i).names.map fun p => (i, p.1, p.2)
def treeB (W : Wd) : Bool := (edges W).all (fun e => decide (e.1 < e.2.2)) && decide (((edges W).map (·.2.2)).Nodup)
theorem nodup_map_inj {α β : Type} {f : α → β} : ∀ {l : List α}, (l.map f).Nodup → ∀ a ∈ l, ∀ b ∈ l, f a = f b → a = b
  | [], _, a, ha, _, _, _ => nomatch ha
  | x :: l, h, a, ha, b, hb, e => by
    rw [List.map_cons, List.nodup_cons] at h
    rcases List.mem_cons.mp ha with ea | ha'
    · rcases List.mem_cons.mp hb with eb | hb'
      · rw [ea, eb]
      · exact (h.1 (by rw [← ea, e]; exact List.mem_map_of_mem hb')).elim
    · rcases List.mem_cons.mp hb with eb | hb'
      · exact (h.1 (by rw [← eb, ← e]; exact List.mem_map_of_mem ha')).elim
      · exact nodup_map_inj h.2 a ha' b hb' e
theorem treeB_ok {W : Wd} (h : treeB W = true) : Tree W := by
  unfold treeB at h
  rw [Bool.and_eq_true, decide_eq_true_eq, List.all_eq_true] at h
  obtain ⟨h1, h2⟩ := h
  have me : ∀ {r c : Nat} {n : Str}, (n, c) ∈ (W.at r).names → (r, n, c) ∈ edges W := fun {r c n} hm => List.mem_flatMap.mpr ⟨r, List.mem_range.mpr (name_lt hm), List.mem_map.mpr ⟨(n, c), hm, rfl⟩⟩
  refine ⟨⟨id, fun r c ⟨n, hm, _⟩ => of_decide_eq_true (h1 _ (me hm))⟩, fun r r' n n' c hm hm' _ => ?_, fun r ⟨n, hm, _⟩ => Nat.not_lt_zero _ (of_decide_eq_true (h1 _ (me hm)))⟩
  have := nodup_map_inj h2 _ (me hm) _ (me hm') rfl
  injection this with e1 e2
  injection e2 with e2 _
  exact ⟨e1, e2⟩
theorem tree19 : Tree (w19 6) := treeB_ok (by decide +kernel)
theorem tree19b : Tree (w19 8) := treeB_ok (by decide +kernel)
end Tm

/-! the law k16 in plain words -/
namespace Tm
open PySem PySem.Spec PyProof.Rows L2
def nm16 (k : Nat) : Str := Str.ofString "r" ++ toString (k : Int)
def ords : Nat → List (List Str)
  | 0 => [[]]
  | k + 1 => (ords k).flatMap fun os => (List.range (os.length + 1)).map fun i => os.take i ++ [nm16 k] ++ os.drop i
def W2 : Wd := ⟨[1], [nd19 [("place", 1)], nd19 [("under", 2)], lf19 "own"], []⟩
def liveB (W : Wd) : Bool := W.smallB 63 && (treeB W && (decide (look 0 W.over = none) && decide (W.over.length ≤ 1000 ∧ W.groups = [1])))
def sS (n : Str) : Str := Str.ofString "/" ++ n
def mA (W : Wd) (n : Str) : Res Wd := makeP W 0 (sS n) (roomN W 0 7 5 5)
def mB16 (W : Wd) (n : Str) : Res Wd := makeP W 0 (sS n ++ Str.ofString "/" ++ n) (leafN W 0 n 6 4 4)
def chk1 : Wd → List Str → (Wd → Bool) → Bool
  | W, [], k => k W
  | W, n :: r, k => liveB W && (isOkR (mA W n) && (liveB (getW (mA W n)) && (isOkR (mB16 (getW (mA W n)) n) && chk1 (getW (mB16 (getW (mA W n)) n)) r k)))
def hA (W : Wd) (n : Str) : Res (Nat × Nat) := hangR W (.int 0) (.str (sS n)) (.str "/place")
def okN {α : Type} (r : Res α) (f : α → Bool) : Bool := match r with
  | .ok x => f x
  | .err _ => false
theorem okN_ok {α : Type} {r : Res α} {f : α → Bool} (h : okN r f = true) : ∃ x, r = .ok x ∧ f x = true := by
  unfold okN at h
  split at h
  · exact ⟨_, rfl, h⟩
  · cases h
def by16 (n : Str) : Str := Str.ofString "by " ++ n
def mC (W : Wd) (n : Str) : Res Wd := makeP W 0 "/place/new" (leafN W 0 (by16 n) 6 4 4)
def rest2 (W : Wd) (n : Str) : Bool := okN (readR W (.int 0) (.str (sS n ++ Str.ofString "/new"))) (fun k => decide ((W.at k).text = by16 n)) && (resB (sameR W (.int 0) (.str "/place") (.str (sS n))) true && (noB (removeR W (.int 0) (.str "/place")) 11 && noB (moveF W (.int 0) (.str (sS n)) (.str "/other")) 11))
def names16 (W : Wd) (l : List Str) : Bool := okN (namesR W (.int 0) (.str "/place")) fun k => decide (sortS ((W.at k).names.map (·.1)) = l) && decide ((W.at k).names.length < 64)
def chk2 : Wd → List Str → (Wd → Bool) → Bool
  | W, [], k => k W
  | W, n :: r, k => liveB W && okN (hA W n) fun p => let W1 := hangW W p.1 p.2
      liveB W1 && (names16 W1 [n] && (resB (trueR W1 (.int 0) (.str "/place/..")) [] && (isOkR (mC W1 n) && (liveB (getW (mC W1 n)) && (rest2 (getW (mC W1 n)) n && chk2 (getW (mC W1 n)) r k)))))
def p16 (n : Str) : List Str := ["/place", "/place/.", sS n ++ Str.ofString "/../place"]
def chk3 : Wd → List Str → (Wd → Bool) → Bool
  | W, [], k => k W
  | W, n :: r, k => liveB W && (names16 W (sortS [n, "new"]) && (okN (readR W (.int 0) (.str "/place/new")) (fun k => decide ((W.at k).text = by16 n)) && okN (downR W (.int 0) (.str "/place")) fun u => (p16 n).all (fun p => resB (downR W (.int 0) (.str p)) u) && chk3 (downW W u) r k))
def fin16 (W : Wd) : Bool := liveB W && (decide (W.over = []) && (names16 W ["under"] && (okN (readR W (.int 0) (.str "/place/under")) (fun k => decide ((W.at k).text = "own")) && (noB (downR W (.int 0) (.str "/place")) 11 && okN (readR W (.int 0) (.str "/r0/r0")) (fun k => decide ((W.at k).text = "r0"))))))
def all16 (os : List Str) : Bool := chk1 W2 os fun W => chk2 W os fun W' => decide (W'.over.length = os.length) && chk3 W' os.reverse fin16
theorem ok1 : ∀ os ∈ ords 1, all16 os = true := by decide +kernel
theorem ok2 : ∀ os ∈ ords 2, all16 os = true := by decide +kernel
theorem ok3 : ∀ os ∈ ords 3, all16 os = true := by decide +kernel
theorem ok4 : ∀ os ∈ ords 4, all16 os = true := by decide +kernel
theorem all_ok {n : Nat} (h1 : 1 ≤ n) (h4 : n ≤ 4) {os : List Str} (h : os ∈ ords n) : all16 os = true := by
  match n, h1, h4 with
  | 1, _, _ => exact ok1 os h
  | 2, _, _ => exact ok2 os h
  | 3, _, _ => exact ok3 os h
  | 4, _, _ => exact ok4 os h
theorem ords_len : ∀ {n : Nat} {os : List Str}, os ∈ ords n → os.length = n
  | 0, os, h => by
    have : os = [] := by simpa [ords] using h
    rw [this]
    rfl
  | n + 1, os, h => by
    unfold ords at h
    obtain ⟨os', h1, h2⟩ := List.mem_flatMap.mp h
    obtain ⟨i, _, rfl⟩ := List.mem_map.mp h2
    have := ords_len h1
    rw [List.length_append, List.length_append, List.length_take, List.length_drop, List.length_singleton]
    omega
theorem ords_nm : ∀ {n : Nat} {os : List Str}, os ∈ ords n → ∀ s ∈ os, ∃ k, k < n ∧ s = nm16 k
  | 0, os, h, s, hs => by
    have : os = [] := by simpa [ords] using h
    rw [this] at hs
    cases hs
  | n + 1, os, h, s, hs => by
    unfold ords at h
    obtain ⟨os', h1, h2⟩ := List.mem_flatMap.mp h
    obtain ⟨i, _, rfl⟩ := List.mem_map.mp h2
    rcases List.mem_append.mp hs with hs | hs
    · rcases List.mem_append.mp hs with hs | hs
      · obtain ⟨k, hk, e⟩ := ords_nm h1 s (List.mem_of_mem_take hs)
        exact ⟨k, by omega, e⟩
      · exact ⟨n, by omega, List.mem_singleton.mp hs⟩
    · obtain ⟨k, hk, e⟩ := ords_nm h1 s (List.mem_of_mem_drop hs)
      exact ⟨k, by omega, e⟩
theorem nm_facts : ∀ k < 4, (nm16 k).length ≤ 2 ∧ textB (.str (nm16 k)) = true ∧ textB (.str (by16 (nm16 k))) = true ∧ PyData.strOk (nm16 k) = true ∧ (by16 (nm16 k)).length ≤ 10 ∧ (sS (nm16 k)).length ≤ 3 := by decide +kernel
theorem base16 : w0 [1] = w19 0 := rfl
def W1 : Wd := ⟨[1], [nd19 [("place", 1)], nd19 []], []⟩
theorem mk16a : makeP (w19 0) 0 "/place" (roomN (w19 0) 0 7 5 5) = .ok W1 := resB_ok (by decide +kernel)
theorem mk16b : makeP W1 0 "/place/under" (leafN W1 0 "own" 6 4 4) = .ok W2 := resB_ok (by decide +kernel)
theorem sm16 : W1.Small 63 ∧ W2.Small 63 := ⟨smallB_ok (by decide +kernel), smallB_ok (by decide +kernel)⟩
structure LiveB (W : Wd) : Prop where
  sm : W.Small 63
  tr : Tree W
  tf : TopFree W
  ov : W.over.length ≤ 1000
  gr : W.groups = [1]
theorem liveB_ok {W : Wd} (h : liveB W = true) : LiveB W := by
  unfold liveB at h
  rw [Bool.and_eq_true, Bool.and_eq_true, Bool.and_eq_true, decide_eq_true_eq, decide_eq_true_eq] at h
  exact ⟨smallB_ok h.1, treeB_ok h.2.1, h.2.2.1, h.2.2.2.1, h.2.2.2.2⟩
/-! sorted() of a list of texts -/
def sz (s : Str) : V × PyData := (.str s, .str s)
theorem leZ_str (a b : Str) : leZ (sz a) (sz b) = leS a b := by
  have h1 : leS a b = decide (cs a ≤ cs b) := by
    cases h : leS a b with
    | true => exact (decide_eq_true ((leS_iff a b).mp h)).symm
    | false => exact (decide_eq_false fun z => by rw [(leS_iff a b).mpr z] at h; cases h).symm
  rw [h1]
  show (!PySem.W.dataLt (.str b) (.str a)) = _
  rw [PySem.W.dataLt_str]
  exact PySem.W.not_lt_str _ _
theorem srt_strs (ss : List Str) : (((ss.map sz).mergeSort leZ).map (·.1)) = (sortS ss).map V.str := by
  have e1 : (ss.map sz).mergeSort leZ = (ss.mergeSort leS).map sz := (List.map_mergeSort fun a _ b _ => (leZ_str a b).symm).symm
  have e2 : ss.mergeSort leS = sortS ss := by
    have s1 : (ss.mergeSort leS).Pairwise fun a b => leS a b = true := List.pairwise_mergeSort (le := leS) (fun a b c h1 h2 => leS_trans h1 h2) (fun a b => by rcases leS_total a b with h | h <;> simp [h]) ss
    exact List.Perm.eq_of_pairwise (fun a b _ _ x y => leS_anti x y) s1 (sortS_sorted ss) ((List.mergeSort_perm ss leS).trans (sortS_perm ss).symm)
  rw [e1, e2, List.map_map]
  rfl
end Tm

/-! the law k24 in plain words -/
namespace Tm
open PySem PySem.Spec PyProof.Rows L2
def nstB (W : Wd) : Nat → Nat → Bool
  | 0, x => (W.at x).names.isEmpty
  | n + 1, x => (W.at x).names.all fun p => nstB W n p.2
theorem nstB_ok {W : Wd} : ∀ (n x : Nat), nstB W n x = true → Nst W n x
  | 0, x, h => List.isEmpty_iff.mp h
  | n + 1, x, h => fun p hp => nstB_ok n p.2 (List.all_eq_true.mp h p hp)
def rm24 (a : Nat) : Str := ([("/r" : Str), "/r/s", "/r/s/t"] : List Str).getD a ""
def rp24 (a : Nat) : List Str := ([[("r" : Str)], ["r", "s"], ["r", "s", "t"]] : List (List Str)).getD a []
def gl24 (g : Nat) : Str := ([("..") , "/r/s", "s"] : List Str).getD g ""
def rn24 (ns : List (Str × Nat)) : Nd := ⟨"room", 0, 1, 7, 7, 7, ns, "", 1⟩
def tn24 (ns : List (Str × Nat)) : Nd := ⟨"room", 0, 1, 7, 5, 5, ns, "", 1⟩
def V0 : Wd := ⟨[1, 2], [tn24 []], []⟩
def V1 : Wd := ⟨[1, 2], [tn24 [("r", 1)], rn24 []], []⟩
def V2 : Wd := ⟨[1, 2], [tn24 [("r", 1)], rn24 [("s", 2)], rn24 []], []⟩
def V3 : Wd := ⟨[1, 2], [tn24 [("r", 1)], rn24 [("s", 2)], rn24 [("t", 3)], rn24 []], []⟩
theorem v1_ok : makeP V0 0 "/r" (roomN V0 0 7 7 7) = .ok V1 := resB_ok (by decide +kernel)
theorem v2_ok : makeP V1 0 "/r/s" (roomN V1 0 7 7 7) = .ok V2 := resB_ok (by decide +kernel)
theorem v3_ok : makeP V2 0 "/r/s/t" (roomN V2 0 7 7 7) = .ok V3 := resB_ok (by decide +kernel)
def fst24 (a : Nat) : Str := rm24 a ++ Str.ofString "/x"
def oth24 (b : Nat) : Str := rm24 b ++ Str.ofString "/y"
def hnt24 (c : Nat) : Str := rm24 c ++ Str.ofString "/h"
def cp24 (s : Str) : Str := Str.ofString "/copy" ++ Txt.slice s (some 2) none
def edgesR (W : Wd) : List (Nat × Str × Nat) := (edges W).filter fun e => decide ((W.at e.2.2).kind = Str.ofString "room")
def treeR (W : Wd) : Bool := (edgesR W).all (fun e => decide (e.1 < e.2.2)) && decide (((edgesR W).map (·.2.2)).Nodup)
theorem treeR_ok {W : Wd} (h : treeR W = true) : Tree W := by
  unfold treeR at h
  rw [Bool.and_eq_true, decide_eq_true_eq, List.all_eq_true] at h
  obtain ⟨h1, h2⟩ := h
  have me : ∀ {r c : Nat} {n : Str}, (n, c) ∈ (W.at r).names → (W.at c).kind = "room" → (r, n, c) ∈ edgesR W := fun {r c n} hm hk => List.mem_filter.mpr ⟨List.mem_flatMap.mpr ⟨r, List.mem_range.mpr (name_lt hm), List.mem_map.mpr ⟨(n, c), hm, rfl⟩⟩, decide_eq_true hk⟩
  refine ⟨⟨id, fun r c ⟨n, hm, hk⟩ => of_decide_eq_true (h1 _ (me hm hk))⟩, fun r r' n n' c hm hm' hk => ?_, fun r ⟨n, hm, hk⟩ => Nat.not_lt_zero _ (of_decide_eq_true (h1 _ (me hm hk)))⟩
  have := nodup_map_inj h2 _ (me hm hk) _ (me hm' hk) rfl
  injection this with e1 e2
  injection e2 with e2 _
  exact ⟨e1, e2⟩
def okW (W : Wd) : Bool := W.smallB 40 && treeR W
def W4 (a : Nat) : Wd := getW (makeP V3 0 (fst24 a) (leafN V3 0 "text" 7 7 7))
def W5 (a b : Nat) : Wd := getW (linkF (W4 a) (.int 0) (.str (fst24 a)) (.str (oth24 b)))
def W6 (a b c g : Nat) : Wd := getW (makeP (W5 a b) 0 (hnt24 c) (hintN (W5 a b) 0 (gl24 g)))
def W7 (a b c g : Nat) : Wd := copyW (W6 a b c g) 0 1 0 "copy"
def nw24 (W : Wd) (p : Str) : Nat := match readR W (.int 0) (.str p) with
  | .ok n => n
  | .err _ => 0
def one24 (a tu : Nat) : Str := if tu = 0 then fst24 a else cp24 (fst24 a)
def two24 (a tu : Nat) : Str := if tu = 0 then cp24 (fst24 a) else fst24 a
def wn24 (W : Wd) (p : Str) : Nat := match writeR W (.int 0) (.str p) (.str "turned") with
  | .ok n => n
  | .err _ => 0
def W8 (a b c g tu : Nat) : Wd := textW (W7 a b c g) (wn24 (W7 a b c g) (one24 a tu)) "turned"
def W9 (a b c g tu : Nat) : Wd := clearW (W8 a b c g tu) 0 "r" 1
def rows24 (W : Wd) (p : Str) : List Row := match benR W (.int 0) (.str p) with
  | .ok rs => rs
  | .err _ => []
def okB {α : Type} (r : Res α) : Bool := match r with
  | .ok _ => true
  | .err _ => false
theorem okB_rows {W : Wd} {p : Str} (h : okB (benR W (.int 0) (.str p)) = true) : benR W (.int 0) (.str p) = .ok (rows24 W p) := by
  unfold okB at h
  unfold rows24
  split at h
  · rename_i e
    rw [e]
  · cases h
def xB (r : Row) : Bool := decide (r.1.getLastD "" = "x")
def deepB (W : Wd) : Bool := (List.range W.nodes.length).all fun x => nstB W 13 x && decide (W.nodes.length + sizeGo W 13 x ≤ 40000)
def tB (W : Wd) (p t : Str) : Bool := okN (readR W (.int 0) (.str p)) fun k => decide ((W.at k).text = t)
def chkA (a : Nat) : Bool := isOkR (makeP V3 0 (fst24 a) (leafN V3 0 "text" 7 7 7)) && (okW (W4 a) && (okB (benR (W4 a) (.int 0) (.str "/r")) && (decide ((rows24 (W4 a) "/r").filter xB = [((rp24 a ++ [Str.ofString "x"], Str.ofString "leaf") : Row)]) && (decide (pathOf (rp24 a ++ [Str.ofString "x"]) = fst24 a) && decide ((fst24 a).length ≤ 100)))))
def chkB (a b : Nat) : Bool := isOkR (linkF (W4 a) (.int 0) (.str (fst24 a)) (.str (oth24 b))) && (okW (W5 a b) && decide ((oth24 b).length ≤ 100))
def chkC (a b c g : Nat) : Bool := isOkR (makeP (W5 a b) 0 (hnt24 c) (hintN (W5 a b) 0 (gl24 g))) && (okW (W6 a b c g) && (deepB (W6 a b c g) && (resB (copyR (W6 a b c g) (.int 0) (.str "/r") (.str "/copy")) (1, [std0], "copy") && (decide (sizeGo (W6 a b c g) 13 1 = 6) && (decide ((hnt24 c).length ≤ 100 ∧ (gl24 g).length ≤ 100) && (partsOf false (gl24 g)).isSome)))))
def chkD (a b c g : Nat) : Bool := let W := W7 a b c g
  okW W && (okB (benR W (.int 0) (.str "/copy")) && (decide (cntK' (rows24 W "/copy") = (2, 2, 1)) && (tB W (cp24 (fst24 a)) "text" && (resB (sameR W (.int 0) (.str (cp24 (fst24 a))) (.str (cp24 (oth24 b)))) false && decide ((cp24 (fst24 a)).length ≤ 100 ∧ (cp24 (oth24 b)).length ≤ 100)))))
where cntK' (rs : List Row) : Nat × Nat × Nat := (((rs.map (·.2)).countP fun z : Str => decide (z = Str.ofString "room")), ((rs.map (·.2)).countP fun z : Str => decide (z = Str.ofString "leaf")), ((rs.map (·.2)).countP fun z : Str => decide (z = Str.ofString "hint")))
def abB (W : Wd) (p : Str) (f : Nd → Bool) : Bool := match atR W (.int 0) (.str p) true with
  | .ok (ss, num) => f (W.at (endNum ss num))
  | .err _ => false
def chkE (a b c g tu : Nat) : Bool := let W := W8 a b c g tu
  okB (writeR (W7 a b c g) (.int 0) (.str (one24 a tu)) (.str "turned")) && (okW W && (tB W (two24 a tu) "text" && (tB W (cp24 (oth24 b)) "text" && (tB W (oth24 b) (if tu = 0 then "turned" else "text") && (abB W (fst24 a) (fun d => decide (d.count = 2)) && (abB W (cp24 (fst24 a)) (fun d => decide (d.owner = 0 ∧ d.group = 1 ∧ d.r0 = 7 ∧ d.r1 = 7 ∧ d.r2 = 7 ∧ d.count = 1)) &&
    (resB (clearR W (.int 0) (.str "/r")) ([std0], "r", 1) && decide (clearN W 1 = 6))))))))
def chkF (a b c g tu : Nat) : Bool := let W := W9 a b c g tu
  okW W && (okB (benR W (.int 0) (.str "/copy")) && (decide (rows24 W "/copy" = rows24 (W7 a b c g) "/copy") && (resB (namesR W (.int 0) (.str "/")) 0 && decide (sortS ((W.at 0).names.map (·.1)) = [Str.ofString "copy"]))))
theorem okA : ∀ a < 3, chkA a = true := by decide +kernel
theorem okBB : ∀ a < 3, ∀ b < 3, chkB a b = true := by decide +kernel
theorem okC : ∀ a < 3, ∀ b < 3, ∀ c < 3, ∀ g < 3, chkC a b c g = true := by decide +kernel
theorem okD : ∀ a < 3, ∀ b < 3, ∀ c < 3, ∀ g < 3, chkD a b c g = true := by decide +kernel
theorem okE : ∀ a < 3, ∀ b < 3, ∀ c < 3, ∀ g < 3, ∀ tu < 2, chkE a b c g tu = true := by decide +kernel
theorem okF : ∀ a < 3, ∀ b < 3, ∀ c < 3, ∀ g < 3, ∀ tu < 2, chkF a b c g tu = true := by decide +kernel
end Tm

/-! one room hangs: rows are at most twice the names -/
namespace Tm
open PySem PySem.Spec PyProof.Rows L2
def OneHung (W : Wd) (x b : Nat) : Prop := ∀ k n, (standOf W k n).number = k ∨ (k = x ∧ (standOf W k n).number = b)
theorem one_nil {W : Wd} (h : W.over = []) : OneHung W 0 0 := fun k n => .inl (by rw [stand_plain h])
theorem one_one {W : Wd} {x b : Nat} (h : W.over = [(x, b)]) : OneHung W x b := fun k n => by
  have e : (standOf W k n).number = (overGo W.over W.over.length k none).1 := rfl
  rw [e, h]
  by_cases c : x = k
  · refine .inr ⟨c.symm, ?_⟩
    show (overGo [(x, b)] 1 k none).1 = b
    simp [overGo, look, c]
  · refine .inl ?_
    show (overGo [(x, b)] 1 k none).1 = k
    simp [overGo, look, c]
theorem go_any {W : Wd} {m n : Nat} (ps qs : List Str) : (allGo W m n ps).length = (allGo W m n qs).length := by
  cases m with
  | zero => rfl
  | succ m => rw [all_len, all_len]
theorem last_snoc2 {ss : List Std} {z : Std} : last (ss ++ [z]) = z := by
  unfold last
  rw [List.getLastD_concat]
theorem goIn_room {W : Wd} {u : Int} {ss : List Std} {p : Str × Nat} (h : goIn W u ss p = true) : (W.at p.2).kind = "room" ∧ (standOf W p.2 p.1).number ∉ ss.map (·.number) := by
  unfold goIn at h
  simp only [Bool.and_eq_true, decide_eq_true_eq] at h
  exact ⟨h.1, h.2.1⟩
theorem rows_in {W : Wd} {u : Int} {x b : Nat} (o : OneHung W x b) : ∀ (m : Nat) (ss : List Std), b ∈ ss.map (·.number) → (benGo W u m ss).length ≤ (allGo W m (last ss).number []).length
  | 0, ss, h => Nat.le_refl _
  | m + 1, ss, h => by
    unfold benGo allGo
    generalize (W.at (last ss).number).names = l
    induction l with
    | nil => exact Nat.le_refl _
    | cons p l ih =>
      rw [List.flatMap_cons, List.flatMap_cons, List.length_append, List.length_append, List.length_cons, List.length_cons]
      refine Nat.add_le_add (Nat.succ_le_succ ?_) ih
      by_cases g : goIn W u ss p = true
      · obtain ⟨hk, hn⟩ := goIn_room g
        rw [if_pos g, if_pos hk]
        have e : (standOf W p.2 p.1).number = p.2 := by
          rcases o p.2 p.1 with z | ⟨_, z⟩
          · exact z
          · rw [z] at hn
            exact absurd h hn
        have := rows_in o m (u := u) (ss ++ [standOf W p.2 p.1]) (by rw [List.map_append]; exact List.mem_append_left _ h)
        rw [last_snoc2, e] at this
        rw [go_any _ []]
        exact this
      · rw [if_neg g]
        exact Nat.zero_le _
theorem rows_two {W : Wd} (ok : W.Ok) (t : Tree W) {u : Int} {x b : Nat} (o : OneHung W x b) (hb : b < W.nodes.length) : ∀ (m : Nat) (ss : List Std), (benGo W u m ss).length ≤ (allGo W m (last ss).number []).length + (subGo W m (last ss).number).count x * namesN W
  | 0, ss => Nat.zero_le _
  | m + 1, ss => by
    unfold benGo allGo
    have hs : ((W.at (last ss).number).names.flatMap fun p => if (W.at p.2).kind = "room" then subGo W m p.2 else []).count x ≤ (subGo W (m + 1) (last ss).number).count x := by
      rw [subGo, List.count_cons]
      exact Nat.le_add_right _ _
    refine Nat.le_trans ?_ (Nat.add_le_add_left (Nat.mul_le_mul_right _ hs) _)
    generalize (W.at (last ss).number).names = l
    induction l with
    | nil => exact Nat.zero_le _
    | cons p l ih =>
      rw [List.flatMap_cons, List.flatMap_cons, List.flatMap_cons, List.length_append, List.length_append, List.length_cons, List.length_cons, List.count_append, Nat.add_mul]
      have key : (if goIn W u ss p = true then benGo W u m (ss ++ [standOf W p.2 p.1]) else []).length ≤ (if (W.at p.2).kind = "room" then allGo W m p.2 ([] ++ [p.1]) else []).length + (if (W.at p.2).kind = "room" then subGo W m p.2 else []).count x * namesN W := by
        by_cases g : goIn W u ss p = true
        · obtain ⟨hk, hn⟩ := goIn_room g
          rw [if_pos g, if_pos hk, if_pos hk, go_any _ []]
          rcases o p.2 p.1 with e | ⟨e1, e2⟩
          · have := rows_two ok t o hb m (u := u) (ss ++ [standOf W p.2 p.1])
            rw [last_snoc2, e] at this
            exact this
          · have h1 := rows_in o m (u := u) (ss ++ [standOf W p.2 p.1]) (by rw [List.map_append, List.map_singleton, e2]; exact List.mem_append_right _ (List.mem_singleton.mpr rfl))
            rw [last_snoc2, e2] at h1
            have h2 := go_few ok t (n := b) (ps := []) m hb
            have h3 : 1 ≤ (subGo W m p.2).count x := by
              rw [e1]
              refine List.count_pos_iff.mpr ?_
              cases m with
              | zero => exact List.mem_singleton.mpr rfl
              | succ m => exact List.mem_cons_self ..
            have h4 : 1 * namesN W ≤ (subGo W m p.2).count x * namesN W := Nat.mul_le_mul_right _ h3
            omega
        · rw [if_neg g]
          exact Nat.zero_le _
      omega
theorem rows_few {W : Wd} (ok : W.Ok) (t : Tree W) {u : Int} {x b : Nat} (o : OneHung W x b) (hb : b < W.nodes.length) {ss : List Std} (hl : (last ss).number < W.nodes.length) : (benOf W u ss).length ≤ 2 * namesN W := by
  have h1 := rows_two ok t o hb (u := u) (13 - ss.length) ss
  have h2 := go_few ok t (n := (last ss).number) (ps := []) (13 - ss.length) hl
  have h3 := List.nodup_iff_count.mp (sub_nodup ok t (13 - ss.length) (last ss).number) x
  have h4 := Nat.mul_le_mul_right (namesN W) h3
  unfold benOf
  omega
/-! ### what deeds keep -/
theorem put_few {W : Wd} {i k : Nat} {d : Nd} (h : d.names.length ≤ (W.at i).names.length + k) : namesN (W.put i d) ≤ namesN W + k := by
  by_cases hi : i < W.nodes.length
  · have := names_put (d := d) hi
    omega
  · have : W.put i d = W := by
      unfold Wd.put
      rw [List.set_eq_of_length_le (by omega)]
    rw [this]
    omega
theorem at_txt {W : Wd} (h : ∀ d ∈ W.nodes, PyData.strOk d.text = true) (i : Nat) : PyData.strOk (W.at i).text = true := by
  by_cases hi : i < W.nodes.length
  · exact h _ (Wd.at_mem hi)
  · rw [at_big (by omega)]
    decide +kernel
theorem put_txt {W : Wd} {i : Nat} {d : Nd} (h : ∀ d ∈ W.nodes, PyData.strOk d.text = true) (hd : PyData.strOk d.text = true) : ∀ y ∈ (W.put i d).nodes, PyData.strOk y.text = true := fun y hy => by
  rcases List.mem_or_eq_of_mem_set hy with z | z
  · exact h y z
  · rw [z]
    exact hd
structure Told (W : Wd) (m : Nat) : Prop where
  lv : Live W m
  nm : namesN W ≤ m
  tx : ∀ d ∈ W.nodes, PyData.strOk d.text = true
theorem did_told {W W' : Wd} {m : Nat} (t : Told W m) {H : Hp} {word : Str} {vu vo vn : V} (hv : PyData.strOk (strS vn) = true) (h : didF W H word vu vo vn = .ok W') (ok' : W'.Ok) : Told W' (m + 1) := by
  refine ⟨t.lv.did h ok', ?_, ?_⟩
  · have nm := t.nm
    suffices namesN W' ≤ namesN W + 1 by omega
    unfold didF at h
    split at h
    · unfold linkF at h
      split at h
      · cases h
      · cases h
        exact Nat.le_trans (put_few (k := 0) (Nat.le_refl _)) (put_few (k := 1) (by show (_ ++ [_]).length ≤ _; simp))
    split at h
    · unfold removeF at h
      split at h
      · cases h
      · cases h
        exact Nat.le_trans (put_few (k := 0) (Nat.le_refl _)) (put_few (k := 1) (Nat.le_succ_of_le (List.length_filter_le _ _)))
    split at h
    · unfold moveG at h
      split at h
      · cases h
      · cases h
        exact Nat.le_trans (put_few (k := 1) (by show (_ ++ [_]).length ≤ _; simp)) (Nat.add_le_add_right (put_few (k := 0) (List.length_filter_le _ _)) 1)
    split at h
    · unfold writeF at h
      split at h
      · cases h
      · cases h
        exact put_few (k := 1) (Nat.le_succ _)
    split at h
    · unfold rightsF at h
      split at h
      · cases h
      · cases h
        exact put_few (k := 1) (Nat.le_succ _)
    split at h
    · unfold hangF at h
      split at h
      · cases h
      · cases h
        exact Nat.le_succ _
    · unfold downF at h
      split at h
      · cases h
      · cases h
        exact Nat.le_succ _
  · have tx := t.tx
    unfold didF at h
    split at h
    · unfold linkF at h
      split at h
      · cases h
      · cases h
        refine put_txt (W := nameW W _ _ _) ?_ ?_
        · exact put_txt tx (at_txt tx _)
        · exact at_txt (W := nameW W _ _ _) (put_txt tx (at_txt tx _)) _
    split at h
    · unfold removeF at h
      split at h
      · cases h
      · cases h
        refine put_txt (W := dropW W _ _) ?_ ?_
        · exact put_txt tx (at_txt tx _)
        · exact at_txt (W := dropW W _ _) (put_txt tx (at_txt tx _)) _
    split at h
    · unfold moveG at h
      split at h
      · cases h
      · cases h
        refine put_txt (W := dropW W _ _) ?_ ?_
        · exact put_txt tx (at_txt tx _)
        · exact at_txt (W := dropW W _ _) (put_txt tx (at_txt tx _)) _
    split at h
    · unfold writeF at h
      split at h
      · cases h
      · cases h
        refine put_txt tx ?_
        exact hv
    split at h
    · unfold rightsF at h
      split at h
      · cases h
      · cases h
        refine put_txt tx ?_
        exact at_txt tx _
    split at h
    · unfold hangF at h
      split at h
      · cases h
      · cases h
        exact tx
    · unfold downF at h
      split at h
      · cases h
      · cases h
        exact tx
/-! ### all that the keeper sees -/
def txtOf (W : Wd) : Res Nat → Str
  | .ok n => (W.at n).text
  | .err _ => ""
def datOf : Res PyData → PyData
  | .ok d => d
  | .err _ => .none
def moreD (W : Wd) (r : Row) : PyData := if r.2 = "hint" then .tuple [.str (pathOf r.1), .str (txtOf W (goalR W (.int 0) (.str (pathOf r.1))))] else .tuple [.str (pathOf r.1), datOf (aboutR W (.int 0) (.str (pathOf r.1))), .str (if r.2 = "leaf" then txtOf W (readR W (.int 0) (.str (pathOf r.1))) else "")]
def topRows (W : Wd) : List Row := sortR (benOf W 0 [std0])
def stateD (W : Wd) : PyData := .list [.list ((topRows W).map rowD), .list ((topRows W).map (moreD W)), .int W.over.length]
theorem row_goal {W : Wd} (ok : W.Ok) {r : Row} (u1 : (0 : Int) < W.groups.length) (h : RowOf W r) (hk : r.2 = "hint") : ∃ n, goalR W (.int 0) (.str (pathOf r.1)) = .ok n := by
  have hg := h.good
  obtain ⟨ss, n, k, hc, hs, hl, rfl, hn⟩ := h
  obtain ⟨n1, n2⟩ := name_ne hn
  obtain ⟨m, hm⟩ := row_way (f := false) (n := n) hc hs
  have ha := atR_path (W := W) (f := false) (Int.le_refl 0) u1 hg
  dsimp only at hm hk ha ⊢
  rw [hm, go_hintE rfl n1 n2 hl hk] at ha
  refine ⟨k, ?_⟩
  unfold goalR
  rw [ha]
  show (if (W.at k).kind = "hint" then Res.ok k else _) = _
  rw [if_pos hk]
theorem row_about {W : Wd} (ok : W.Ok) {r : Row} (u1 : (0 : Int) < W.groups.length) (h : RowOf W r) (hk : ¬ r.2 = "hint") : ∃ n, aboutR W (.int 0) (.str (pathOf r.1)) = .ok (aboutD (W.at n)) ∧ (r.2 = "leaf" → readR W (.int 0) (.str (pathOf r.1)) = .ok n) := by
  have hg := h.good
  obtain ⟨ss, n, k, hc, hs, hl, rfl, hn⟩ := h
  obtain ⟨n1, n2⟩ := name_ne hn
  obtain ⟨m, hm⟩ := row_way (f := true) (n := n) hc hs
  have ha := atR_path (W := W) (f := true) (Int.le_refl 0) u1 hg
  dsimp only at hm hk ha ⊢
  rcases (ok.at (name_lt2 ok (look_mem hl))).knd with h2 | h2 | h2
  · rw [hm, go_room rfl n1 n2 hl h2, go_end] at ha
    refine ⟨_, by unfold aboutR; rw [ha]; rfl, fun z => ?_⟩
    rw [h2] at z
    exact absurd z (by decide +kernel)
  · rw [hm, go_leaf rfl n1 n2 hl h2, if_neg (by simp)] at ha
    refine ⟨k, by unfold aboutR; rw [ha]; rfl, fun z => ?_⟩
    unfold readR
    rw [ha]
    show (if (W.at k).kind = "leaf" then if mayOf W 0 k 4 = true then Res.ok k else _ else _) = _
    rw [if_pos h2, if_pos (may0 W k 4)]
  · exact absurd h2 hk
theorem lay_cons {d : PyData} {ds : List PyData} (h : d.canLay0 = true) (t : PyData.canLayAll0 ds = true) : PyData.canLayAll0 (d :: ds) = true := by
  simp [PyData.canLayAll0, h, t]
theorem txtOf_ok {W : Wd} (tx : ∀ d ∈ W.nodes, PyData.strOk d.text = true) (r : Res Nat) : PyData.strOk (txtOf W r) = true := by
  cases r with
  | ok n => exact at_txt tx n
  | err e => exact (show PyData.strOk "" = true by decide +kernel)
theorem more_ok {W : Wd} (ok : W.Ok) (u1 : (0 : Int) < W.groups.length) (tx : ∀ d ∈ W.nodes, PyData.strOk d.text = true) {r : Row} (h : RowOf W r) : (moreD W r).canLay0 = true ∧ (moreD W r).depth ≤ 4 := by
  have hp := path_ok (good_all h.good).2
  unfold moreD
  split
  · refine ⟨?_, by simp [PyData.depth, PyData.depthAll]⟩
    show PyData.canLayAll0 _ = true
    exact lay_cons hp (lay_cons (txtOf_ok tx _) rfl)
  · rename_i hk
    obtain ⟨n, hn, _⟩ := row_about ok u1 h hk
    rw [hn]
    refine ⟨?_, by simp [datOf, aboutD, PyData.depth, PyData.depthAll]⟩
    show PyData.canLayAll0 _ = true
    refine lay_cons hp (lay_cons rfl (lay_cons ?_ rfl))
    show PyData.strOk _ = true
    split
    · exact txtOf_ok tx _
    · decide +kernel
theorem top_rows {W : Wd} (ok : W.Ok) : ∀ r ∈ topRows W, RowOf W r := fun r hr => ben_row ok _ .top ⟨by simp, by simp, fun z hz => by rw [List.mem_singleton.mp hz]; exact ok.one, fun z hz => nomatch hz⟩ r ((sortR_perm _).mem_iff.mp hr)
theorem top_ben {W : Wd} (ok : W.Ok) (tr : Tree W) (u1 : (0 : Int) < W.groups.length) {x b : Nat} (o : OneHung W x b) (hb : b < W.nodes.length) (few : 2 * namesN W ≤ 200) : benR W (.int 0) (.str "/") = .ok (benOf W 0 [std0]) := by
  have h1 := rows_few ok tr o hb (u := 0) (ss := [std0]) ok.one
  have e := ben_path (W := W) (ps := []) (Int.le_refl 0) u1 rfl
  have hr : roomW W 0 [] = .ok [std0] := rfl
  rw [hr] at e
  dsimp only at e
  rw [if_neg (by rw [may0]; decide), if_neg (by decide), if_neg (by omega)] at e
  exact e
theorem state_shaped {W : Wd} (ok : W.Ok) (u1 : (0 : Int) < W.groups.length) (tx : ∀ d ∈ W.nodes, PyData.strOk d.text = true) : SeqAt.shaped (stateD W) = true := by
  have r1 := top_rows ok
  have good : ∀ r ∈ topRows W, goodParts r.1 = true ∧ PyData.strOk r.2 = true := fun r hr => ⟨(r1 r hr).good, by
    obtain ⟨ss, n, k, hc, hs, hl, e, hn⟩ := r1 r hr
    rw [e]
    exact knd_ok (ok.at (name_lt2 ok (look_mem hl))).knd⟩
  refine shaped_list (fun d hd => ?_) fun d hd => ?_
  · simp only [List.mem_cons, List.not_mem_nil, or_false] at hd
    rcases hd with rfl | rfl | rfl
    · have := depth_le (n := 2) (ds := (topRows W).map rowD) fun d hd => by
        obtain ⟨r, _, rfl⟩ := List.mem_map.mp hd
        simp [rowD, PyData.depth, PyData.depthAll]
      simp only [PyData.depth]
      omega
    · have := depth_le (n := 4) (ds := (topRows W).map (moreD W)) fun d hd => by
        obtain ⟨r, hr, rfl⟩ := List.mem_map.mp hd
        exact (more_ok ok u1 tx (r1 r hr)).2
      simp only [PyData.depth]
      omega
    · simp [PyData.depth]
  · simp only [List.mem_cons, List.not_mem_nil, or_false] at hd
    rcases hd with rfl | rfl | rfl
    · exact lay_all _ fun d hd => by
        obtain ⟨r, hr, rfl⟩ := List.mem_map.mp hd
        exact row_lay (good r hr).1 (good r hr).2
    · exact lay_all _ fun d hd => by
        obtain ⟨r, hr, rfl⟩ := List.mem_map.mp hd
        exact (more_ok ok u1 tx (r1 r hr)).1
    · rfl
/-- places that hold no tuple -/
def NoTup (H : Hp) (S : List Addr) : Prop := ∀ a ∈ S, ∃ o, H a = some o ∧ ∀ xs, o ≠ .tup xs
theorem NoTup.up {H H' : Hp} {S : List Addr} (h : NoTup H S) (e : Ex H H') : NoTup H' S := fun a ha => by
  obtain ⟨o, h1, h2⟩ := h a ha
  exact ⟨o, e _ _ h1, h2⟩
theorem NoTup.tup {H : Hp} {S : List Addr} (h : NoTup H S) {a : Addr} {xs : List V} (ha : H a = some (.tup xs)) : mask S H a = some (.tup xs) := by
  refine mask_at.mpr ⟨fun z => ?_, ha⟩
  obtain ⟨o, h1, h2⟩ := h a z
  rw [ha] at h1
  cases h1
  exact h2 xs rfl
theorem NoTup.new {H H' : Hp} {S : List Addr} (h : NoTup H S) {a : Addr} {o : HO} (hn : H a = none) (ha : H' a = some o) : mask S H' a = some o := by
  refine mask_at.mpr ⟨fun z => ?_, ha⟩
  obtain ⟨o, h1, h2⟩ := h a z
  rw [hn] at h1
  cases h1
theorem GenSt.noTup {K : PySem.W.Frag} {H : Hp} {t c h o : Addr} {L M : Lay} {W V : Wd} (s : GenSt K H t c h L W o M V) : NoTup H (genS t c h L o M) := fun a ha => by
  obtain ⟨x, hx⟩ := s.there a ha
  refine ⟨x, hx, fun xs z => ?_⟩
  subst z
  rcases List.mem_cons.mp ha with rfl | ha
  · rw [s.ls.hh.grp] at hx
    cases hx
  rcases List.mem_append.mp ha with z | z
  · unfold lawS at z
    rcases List.mem_cons.mp z with z | z
    · obtain ⟨ys, hy⟩ := town_lst s.ls.tw (a := a) (by rw [z]; simp)
      rw [hy] at hx
      cases hx
    rcases List.mem_cons.mp z with z | z
    · obtain ⟨ys, hy⟩ := town_lst s.ls.tw (a := a) (by rw [z]; simp)
      rw [hy] at hx
      cases hx
    · exact house_tup s.ls.hh a z xs hx
  · exact own_tup s.ow a z xs hx
def One (W : Wd) : Prop := W.over = [] ∨ ∃ x b, W.over = [(x, b)]
theorem one_ben {W : Wd} {m : Nat} (t : Told W m) (o : One W) (hm : m ≤ 100) : benR W (.int 0) (.str "/") = .ok (benOf W 0 [std0]) := by
  have u1 : (0 : Int) < W.groups.length := by rw [t.lv.grp]; decide
  have few := t.nm
  rcases o with h | ⟨x, b, h⟩
  · exact top_ben t.lv.ok t.lv.tr u1 (one_nil h) t.lv.ok.one (by omega)
  · exact top_ben t.lv.ok t.lv.tr u1 (one_one h) (t.lv.ok.ovr (x, b) (by rw [h]; simp)).2.1 (by omega)
theorem Told.make {W : Wd} {m : Nat} (t : Told W m) {u : Int} {v : V} {ss : List Std} {n : Str} {d : Nd} (hf : freeV W u v = .ok ss n) (hd : d.names = []) (hx : PyData.strOk d.text = true) (ok' : (madeW W (last ss).number n d).Ok) : Told (madeW W (last ss).number n d) (m + 1) := by
  refine ⟨t.lv.make hf hd ok', ?_, ?_⟩
  · rw [names_made (free_lt t.lv.ok hf) hd]
    exact Nat.succ_le_succ t.nm
  · refine put_txt (W := W.add d) (fun y hy => ?_) (at_txt t.tx _)
    rcases List.mem_append.mp hy with z | z
    · exact t.tx y z
    · rw [List.mem_singleton.mp z]
      exact hx
theorem Told.le {W : Wd} {m n : Nat} (t : Told W m) (h : m ≤ n) : Told W n := ⟨t.lv.le h, Nat.le_trans t.nm h, t.tx⟩
theorem deedNd_names {W : Wd} {kind : Str} {u r0 r1 r2 : Int} {tx : Str} : (deedNd W kind u r0 r1 r2 tx).names = [] := by
  unfold deedNd
  split
  · rfl
  · split <;> rfl
theorem deedNd_text {W : Wd} {kind : Str} {u r0 r1 r2 : Int} {tx : Str} (h : PyData.strOk tx = true) : PyData.strOk (deedNd W kind u r0 r1 r2 tx).text = true := by
  unfold deedNd
  split
  · exact (show PyData.strOk "" = true by decide +kernel)
  · split <;> exact h
theorem hang_keeper {W W' : Wd} {u : Int} {vo vn : V} (h : hangF W (.int u) vo vn = .ok W') : u = 0 := by
  unfold hangF at h
  split at h
  · cases h
  · rename_i hx
    unfold hangR at hx
    split at hx
    · cases hx
    · split at hx
      · cases hx
      · split at hx
        · cases hx
        · split at hx
          · cases hx
          · rename_i hz
            exact Decidable.byContradiction hz
theorem down_keeper {W W' : Wd} {u : Int} {vo : V} (h : downF W (.int u) vo = .ok W') : u = 0 := by
  unfold downF at h
  split at h
  · cases h
  · rename_i hx
    unfold downR at hx
    split at hx
    · cases hx
    · split at hx
      · cases hx
      · split at hx
        · cases hx
        · rename_i hz
          exact Decidable.byContradiction hz
/-- no deed of others hangs anything -/
theorem did_one {W W' : Wd} {H : Hp} {word : Str} {u : Int} {vo vn : V} (hu : u ≠ 0) (o : One W) (h : didF W H word (.int u) vo vn = .ok W') : One W' := by
  by_cases c : word = "link" ∨ word = "remove" ∨ word = "move" ∨ word = "write" ∨ word = "rights"
  · unfold One
    rw [(did_over h).2 c]
    exact o
  · simp only [not_or] at c
    unfold didF at h
    rw [if_neg c.1, if_neg c.2.1, if_neg c.2.2.1, if_neg c.2.2.2.1, if_neg c.2.2.2.2] at h
    split at h
    · exact absurd (hang_keeper h) hu
    · exact absurd (down_keeper h) hu
theorem hang_one {W W' : Wd} (ho : W.over = []) {H : Hp} {vu vo vn : V} (h : didF W H "hang" vu vo vn = .ok W') : One W' := by
  rw [did_hang] at h
  unfold hangF at h
  split at h
  · cases h
  · rename_i a b _
    cases h
    refine .inr ⟨b, a, ?_⟩
    show W.over ++ [(b, a)] = _
    rw [ho]
    rfl
theorem Reach.told {W : Wd} {k : Nat} (h : Reach W k) (ok : W.Ok) : Told W (k + 1) := ⟨h.live ok, Nat.le_succ_of_le h.names, fun d hd => (h.cnt d hd).2⟩
end Tm

open Tm in
local macro_rules | `(tactic| walk_at "x1") => `(tactic| first
  | ((with_reducible refine' x_var ?h1 ?_); (case h1 => exact rfl)) | with_reducible refine x_c ?_ | with_reducible refine x_op ?_ | with_reducible refine x_un ?_ | with_reducible refine x_I0 ?_ | with_reducible refine x_neg ?_
  | with_reducible refine x_test ?_ | with_reducible refine x_tB ?_ | with_reducible refine x_bl ?_ | with_reducible refine x_not ?_ | with_reducible refine x_and ?_ | with_reducible refine x_or ?_
  | with_reducible refine x_andV ?_ | with_reducible refine x_orV ?_ | with_reducible refine x_notV ?_ | with_reducible refine x_blV ?_ | with_reducible refine x_ifx ?_ | with_reducible refine x_chain ?_
  | with_reducible refine x_nil ?_ | with_reducible refine x_cons ?_ | with_reducible refine x_lst ?_ | with_reducible refine x_tup ?_ | with_reducible refine x_cb ?_ | with_reducible refine x_fld ?_ | with_reducible refine x_mt ?_ | with_reducible refine x_gcons ?_ | with_reducible refine x_xf ?_ | with_reducible refine x_pair ?_ | with_reducible refine x_pair0 ?_ | with_reducible refine x_gnil ?_ | with_reducible refine x_mtK ?_ | with_reducible refine x_mk ?_ | with_reducible refine x_mkI ?_ | with_reducible refine x_fset ?_ | with_reducible refine x_dget ?_ | with_reducible refine x_din ?_ | with_reducible refine x_dnin ?_ | with_reducible refine x_dput ?_
  | with_reducible refine x_sl ?_ | with_reducible refine x_noPart ?_ | with_reducible refine x_part ?_ | with_reducible refine x_partI ?_ | with_reducible refine x_m1 ?_ | with_reducible refine x_isS ?_
  | with_reducible refine x_next ?_ | with_reducible refine x_seq ?_ | with_reducible refine x_ret ?_ | with_reducible refine x_drop ?_ | with_reducible refine x_asg ?_ | with_reducible refine x_name ?_
  | with_reducible refine x_ifS ?_ | with_reducible refine x_sub ?_ | with_reducible refine x_bm ?_ | with_reducible refine x_bm0 ?_ | with_reducible refine x_fn ?_ | with_reducible refine x_fnD ?_ | with_reducible refine x_fnK ?_
  | ((with_reducible refine x_eq ?h1 ?_); (case h1 => exact rfl)) | ((with_reducible refine x_ne ?h1 ?_); (case h1 => exact rfl)) | with_reducible refine x_isNo ?_ | with_reducible refine x_isNt ?_ | with_reducible refine x_sgn ?_
  | with_reducible refine x_lcS ?_ | with_reducible refine x_lcL ?_ | with_reducible refine x_lcT ?_ | with_reducible refine x_lcR1 ?_
  | with_reducible refine x_forR1 ?_ | with_reducible refine x_forR2 ?_ | with_reducible refine x_forL ?_ | with_reducible refine x_forK ?_)
local macro_rules | `(tactic| walk_at "x") => `(tactic| (repeat walk_at "x1"))
local macro_rules | `(tactic| walk_at "if") => `(tactic| (refine Tm.x_thru ?_; walk_at "x"))
local macro_rules | `(tactic| walk_at "ne") => `(tactic| first
  | assumption | exact Ne.symm (by assumption) | exact ne_of_none (by first | assumption | walk_at "hp") (by assumption) | exact (ne_of_none (by first | assumption | walk_at "hp") (by assumption)).symm
  | exact ne_of (by walk_at "hp") (by walk_at "hp") (by intro z; cases z))
open Tm L2 in
local macro_rules | `(tactic| walk_at "hp") => `(tactic| first
  | assumption | exact upd_same
  | ((with_reducible refine' Eq.trans (upd_ne ?h1) ?h2); (case h1 => walk_at "ne"); (case h2 => walk_at "hp"))
  | ((with_reducible refine' ex_at ?h1 ?h2); (case h1 => assumption); (case h2 => walk_at "hp")))
namespace Tm
open PySem L2
def sp_NoRight (K : PySem.W.Frag) : Sp := spIni (He.ga K "NoRight") ["user", "number"]
def sp_may (K : PySem.W.Frag) : Sp := fun vs H Q _ => ∃ (h : Addr) (L : Lay) (W : Wd) (u : Int) (n : Nat) (right : Int), vs = [.ref h, .int u, .int n, .int right] ∧ HouseAt K H h L W ∧ 0 ≤ u ∧ u < W.groups.length ∧ n < W.nodes.length ∧ Q (.bl (mayOf W u n right)) H
def sp_look_right (K : PySem.W.Frag) : Sp := fun vs H Q E => ∃ (h : Addr) (L : Lay) (W : Wd) (u : Int) (n : Nat) (right : Int), vs = [.ref h, .int u, .int n, .int right] ∧ HouseAt K H h L W ∧ 0 ≤ u ∧ u < W.groups.length ∧ n < W.nodes.length ∧ (mayOf W u n right = true → Q .non H) ∧ (mayOf W u n right = false → ∀ cls d H', Ex H H' → ErrAt K (.right u n) cls d H' → E cls d H')
def sp_NoName (K : PySem.W.Frag) : Sp := spIni (He.ga K "NoName") ["name"]
-- in TmW: def sp_Stand (K : PySem.W.Frag)
def sp_stand_at (K : PySem.W.Frag) : Sp := fun vs H Q _ => ∃ (h : Addr) (L : Lay) (W : Wd) (n : Nat) (name : Str), vs = [.ref h, .int n, .str name] ∧ HouseAt K H h L W ∧ W.Ok ∧ ∀ x H', H x = none → Ex H H' → StandAt K H' x (standOf W n name) → Q (.ref x) H'
def sp_is_name (K : PySem.W.Frag) : Sp := fun vs H Q _ => ∃ v, vs = [v] ∧ ((∃ s, v = .str s ∧ s.length ≤ sizeLine ∧ ∀ H', Ex H H' → Q (.bl (isName s)) H') ∨ (Kind K H v "str" false ∧ ∀ H', Ex H H' → Q (.bl false) H'))
def sp_is_part (K : PySem.W.Frag) : Sp := fun vs H Q _ => ∃ v, vs = [v] ∧ PartOk K H v ∧ ∀ H', Ex H H' → Q (.bl (partV v)) H'
def sp_parts_of (K : PySem.W.Frag) : Sp := fun vs H Q E => ∃ (v : V) (b : Bool), vs = [v, .bl b] ∧
  ((∃ s, v = .str s ∧ s.length + 2 ≤ sizeLine ∧ (∀ ps, partsOf b s = some ps → ∀ p H', H p = none → Ex H H' → H' p = some (.lst (ps.map V.str)) → Q (.ref p) H') ∧ (partsOf b s = none → ∀ H', Ex H H' → E (cBadPath K) none H')) ∨
    (Kind K H v "str" false ∧ ∀ H', Ex H H' → E (cBadPath K) none H'))
def sp_way (K : PySem.W.Frag) : Sp := fun vs H Q E => ∃ (h : Addr) (L : Lay) (W : Wd) (u : Int) (v : V) (follow : Bool), vs = [.ref h, .int u, v, .bl follow] ∧ HouseAt K H h L W ∧ W.Ok ∧ 0 ≤ u ∧ u < W.groups.length ∧ TextOk K H v ∧
  ((∀ s ps, v = .str s → partsOf true s ≠ some ps) → ∀ H', Ex H H' → E (.ref (errC K 0)) none H') ∧
  ∀ s ps, v = .str s → partsOf true s = some ps →
    (∀ e, wayOf W u follow ps = .err e → ∀ cls d H', Ex H H' → ErrAt K e cls d H' → E cls d H') ∧
    ∀ ss num, wayOf W u follow ps = .ok ss num → ∀ p q H', H p = none → H q = none → Ex H H' → H' p = some (.tup [.ref q, nV num]) → StandsAt K H' q ss → Q (.ref p) H'
def sp_room_of (K : PySem.W.Frag) : Sp := fun vs H Q E => ∃ (h : Addr) (L : Lay) (W : Wd) (u : Int) (v : V), vs = [.ref h, .int u, v] ∧ HouseAt K H h L W ∧ W.Ok ∧ 0 ≤ u ∧ u < W.groups.length ∧ TextOk K H v ∧
  ((∀ s ps, v = .str s → partsOf true s ≠ some ps) → ∀ H', Ex H H' → E (.ref (errC K 0)) none H') ∧
  ∀ s ps, v = .str s → partsOf true s = some ps →
    (∀ e, wayOf W u true ps = .err e → ∀ cls d H', Ex H H' → ErrAt K e cls d H' → E cls d H') ∧
    (∀ ss k, wayOf W u true ps = .ok ss (some k) → ∀ H', Ex H H' → E (.ref (errC K 6)) none H') ∧
    ∀ ss, wayOf W u true ps = .ok ss none → ∀ q H', H q = none → Ex H H' → StandsAt K H' q ss → Q (.ref q) H'
theorem room_ofP {K : PySem.W.Frag} {H : Hp} {h : Addr} {L : Lay} {W : Wd} {u : Int} {v : V} {Q : VK} {E : XK} (hh : HouseAt K H h L W) (ok : W.Ok) (u0 : 0 ≤ u) (u1 : u < W.groups.length) (hv : TextOk K H v) (kE : ∀ e, roomV' W u v = .err e → ∀ cls d H', Ex H H' → ErrAt K e cls d H' → E cls d H') (kO : ∀ ss, roomV' W u v = .ok ss → ∀ q H', H q = none → Ex H H' → StandsAt K H' q ss → Q (.ref q) H') : sp_room_of K [.ref h, .int u, v] H Q E := by
  refine ⟨h, L, W, u, v, rfl, hh, ok, u0, u1, hv, fun hn H2 e2 => kE (.no 0) (by unfold roomV'; rw [wayV_no hn]) _ _ H2 e2 ⟨rfl, rfl⟩, fun s ps hs hps => ?_⟩
  subst hs
  obtain ⟨w1, w2⟩ := wayV_str (W := W) (u := u) (follow := true) hps
  exact ⟨fun e he cls d H2 e2 ha => kE e (by unfold roomV'; rw [w1 e he]) cls d H2 e2 ha, fun ss k hk H2 e2 => kE (.no 6) (by unfold roomV'; rw [w2 ss _ hk]) _ _ H2 e2 ⟨rfl, rfl⟩, fun ss hss q H2 hq e2 hst => kO ss (by unfold roomV'; rw [w2 ss _ hss]) q H2 hq e2 hst⟩
/-- the things of a list, asked part by part -/
def goodVs (xs : List V) : Bool := decide (xs.length ≤ 12) && xs.all partV
def sp_path_of (K : PySem.W.Frag) : Sp := fun vs H Q E => ∃ v : V, vs = [v] ∧
  ((∃ a xs, v = .ref a ∧ H a = some (.lst xs) ∧ xs.length ≤ 100000 ∧ (∀ x ∈ xs, PartOk K H x) ∧ (∀ ps : List Str, xs = ps.map V.str → goodParts ps = true → ∀ H', Ex H H' → Q (.str (pathOf ps)) H') ∧ (goodVs xs = false → ∀ H', Ex H H' → E (cBadPath K) none H')) ∨
    (Kind K H v "list" false ∧ ∀ H', Ex H H' → E (cBadPath K) none H'))
def sp_split (K : PySem.W.Frag) : Sp := fun vs H Q E => ∃ v : V, vs = [v] ∧
  ((∃ s, v = .str s ∧ s.length + 2 ≤ sizeLine ∧ (∀ ps n, splitOf s = some (ps, n) → ∀ p H', H p = none → Ex H H' → H' p = some (.tup [.str (pathOf ps), .str n]) → Q (.ref p) H') ∧ (splitOf s = none → ∀ H', Ex H H' → E (cBadPath K) none H')) ∨
    (Kind K H v "str" false ∧ ∀ H', Ex H H' → E (cBadPath K) none H'))
def sp_place_for (K : PySem.W.Frag) : Sp := fun vs H Q E => ∃ (h : Addr) (L : Lay) (W : Wd) (u : Int) (v : V), vs = [.ref h, .int u, v] ∧ HouseAt K H h L W ∧ W.Ok ∧ 0 ≤ u ∧ u < W.groups.length ∧ TextOk K H v ∧
  (∀ e, placeV W u v = .err e → ∀ cls d H', Ex H H' → ErrAt K e cls d H' → E cls d H') ∧
  ∀ ss n, placeV W u v = .ok ss n → ∀ p q H', H p = none → H q = none → Ex H H' → H' p = some (.tup [.ref q, .str n]) → StandsAt K H' q ss → Q (.ref p) H'
def sp_free_place (K : PySem.W.Frag) : Sp := fun vs H Q E => ∃ (h : Addr) (L : Lay) (W : Wd) (u : Int) (v : V), vs = [.ref h, .int u, v] ∧ HouseAt K H h L W ∧ W.Ok ∧ 0 ≤ u ∧ u < W.groups.length ∧ TextOk K H v ∧
  (∀ e, freeV W u v = .err e → ∀ cls d H', Ex H H' → ErrAt K e cls d H' → E cls d H') ∧
  ∀ ss n, freeV W u v = .ok ss n → ∀ p q H', H p = none → H q = none → Ex H H' → H' p = some (.tup [.ref q, .str n]) → StandsAt K H' q ss → Q (.ref p) H'
def sp_end_of (K : PySem.W.Frag) : Sp := fun vs H Q E => ∃ (h : Addr) (L : Lay) (W : Wd) (u : Int) (v : V) (follow : Bool), vs = [.ref h, .int u, v, .bl follow] ∧ HouseAt K H h L W ∧ W.Ok ∧ 0 ≤ u ∧ u < W.groups.length ∧ TextOk K H v ∧
  ((∀ s ps, v = .str s → partsOf true s ≠ some ps) → ∀ H', Ex H H' → E (.ref (errC K 0)) none H') ∧
  ∀ s ps, v = .str s → partsOf true s = some ps →
    (∀ e, wayOf W u follow ps = .err e → ∀ cls d H', Ex H H' → ErrAt K e cls d H' → E cls d H') ∧
    ∀ ss num, wayOf W u follow ps = .ok ss num → ∀ H', Ex H H' → Q (.int (endNum ss num)) H'
theorem end_ofV {K : PySem.W.Frag} {H : Hp} {h : Addr} {L : Lay} {W : Wd} {u : Int} {v : V} {follow : Bool} {Q : VK} {E : XK} (hh : HouseAt K H h L W) (ok : W.Ok) (u0 : 0 ≤ u) (u1 : u < W.groups.length) (hv : TextOk K H v) (kE : ∀ e, wayV W u follow v = .err e → ∀ cls d H', Ex H H' → ErrAt K e cls d H' → E cls d H')
    (kO : ∀ ss num, wayV W u follow v = .ok (ss, num) → ∀ H', Ex H H' → Q (.int (endNum ss num)) H') : sp_end_of K [.ref h, .int u, v, .bl follow] H Q E :=
  ⟨h, L, W, u, v, follow, rfl, hh, ok, u0, u1, hv, fun hn H' e => kE _ (wayV_no hn) _ _ H' e ⟨rfl, rfl⟩, fun s ps hs hps => by
    subst hs
    exact ⟨fun e he => kE e ((wayV_str hps).1 e he), fun ss num hw => kO ss num ((wayV_str hps).2 ss num hw)⟩⟩
def sp_is_small (K : PySem.W.Frag) : Sp := fun vs H Q _ => ∃ (v : V) (high : Int), vs = [v, .int high] ∧ IntOk K H v ∧ ∀ H', Ex H H' → Q (.bl (smallV v high)) H'
def sp_look_user (K : PySem.W.Frag) : Sp := fun vs H Q E => ∃ (h : Addr) (L : Lay) (W : Wd) (v : V), vs = [.ref h, v] ∧ HouseAt K H h L W ∧ IntOk K H v ∧ (smallV v (W.groups.length - 1) = true → ∀ H', Ex H H' → Q .non H') ∧ (smallV v (W.groups.length - 1) = false → ∀ H', Ex H H' → E (.ref (errC K 3)) none H')
def sp_link (K : PySem.W.Frag) : Sp := fun vs H Q E => ∃ (h : Addr) (L : Lay) (W : Wd) (vu vo vn : V), vs = [.ref h, vu, vo, vn] ∧ HouseAt K H h L W ∧ W.Ok ∧ W.Small 40000 ∧ IntOk K H vu ∧ TextOk K H vo ∧ TextOk K H vn ∧
  (∀ e, linkR W vu vo vn = .err e → ∀ cls d H', Ex H H' → ErrAt K e cls d H' → E cls d H') ∧
  ∀ k st n, linkR W vu vo vn = .ok (k, st, n) → ∀ H', HouseAt K H' h L (linkW W (last st).number n k) → (linkW W (last st).number n k).Ok → Off (fp h L) H H' → Q .non H'
-- in TmW: def sp_Node (K : PySem.W.Frag)
def sp_new_node (K : PySem.W.Frag) : Sp := fun vs H Q _ => ∃ (h : Addr) (L : Lay) (W : Wd) (kind : Str) (u : Int) (rt : Addr) (r0 r1 r2 : Int), vs = [.ref h, .str kind, .int u, .ref rt] ∧ HouseAt K H h L W ∧ 0 ≤ u ∧ u < W.groups.length ∧ W.nodes.length < 50000 ∧ H rt = some (.tup [.int r0, .int r1, .int r2]) ∧
  ∀ x nm H', H x = none → H nm = none → HouseAt K H' h (L.add x nm) (W.add (newNd W kind u r0 r1 r2)) → Off (fp h L) H H' → Q (.int W.nodes.length) H'
def sp_made_at (K : PySem.W.Frag) : Sp := fun vs H Q E => ∃ (h : Addr) (L : Lay) (W : Wd) (u : Int) (v : V) (kind : Str) (rt : Addr) (r0 r1 r2 : Int), vs = [.ref h, .int u, v, .str kind, .ref rt] ∧ HouseAt K H h L W ∧ W.Ok ∧ 0 ≤ u ∧ u < W.groups.length ∧ TextOk K H v ∧ W.Small 40000 ∧ H rt = some (.tup [.int r0, .int r1, .int r2]) ∧
  (∀ e, freeV W u v = .err e → ∀ cls d H', Ex H H' → ErrAt K e cls d H' → E cls d H') ∧
  ∀ ss n, freeV W u v = .ok ss n → ∀ L' H', HouseAt K H' h L' (madeW W (last ss).number n (newNd W kind u r0 r1 r2)) → Off (fp h L) H H' → Grew h L L' H → Q (.int W.nodes.length) H'
def sp_make_hint (K : PySem.W.Frag) : Sp := fun vs H Q E => ∃ (h : Addr) (L : Lay) (W : Wd) (vu vp vg : V), vs = [.ref h, vu, vp, vg] ∧ HouseAt K H h L W ∧ W.Ok ∧ W.Small 40000 ∧ IntOk K H vu ∧ TextOk K H vp ∧ TextOk K H vg ∧
  (∀ e, hintV W vu vp vg = .err e → ∀ cls d H', Ex H H' → ErrAt K e cls d H' → E cls d H') ∧
  ∀ ss n, hintV W vu vp vg = .ok ss n → ∀ L' H', HouseAt K H' h L' (madeW W (last ss).number n (hintNd W vu vg)) → (madeW W (last ss).number n (hintNd W vu vg)).Ok → Off (fp h L) H H' → Grew h L L' H → Q .non H'
theorem make_hintP {K : PySem.W.Frag} {H : Hp} {h : Addr} {L : Lay} {W : Wd} {Q : VK} {E : XK} {u : Int} {p : Str} {g : Str} (hh : HouseAt K H h L W) (ok : W.Ok) (sm : W.Small 40000) (u0 : 0 ≤ u) (u1 : u < W.groups.length) (hp : p.length ≤ 1000) (hg : (partsOf false g).isSome = true) (hgl : g.length ≤ 1000)
    (kE : ∀ e, freeV W u (.str p) = .err e → ∀ cls d H', Ex H H' → ErrAt K e cls d H' → E cls d H')
    (kO : ∀ ss n, freeV W u (.str p) = .ok ss n → ∀ L' H', HouseAt K H' h L' (madeW W (last ss).number n (hintN W u g)) → (madeW W (last ss).number n (hintN W u g)).Ok → Off (fp h L) H H' → Grew h L L' H → Q .non H') : sp_make_hint K [.ref h, .int u, .str p, .str g] H Q E := by
  have e1 : hintV W (.int u) (.str p) (.str g) = ofPl (freeV W u (.str p)) := by
    unfold hintV
    rw [if_neg (by rw [userB_of u0 u1]; decide), if_neg (by rw [show goalOf (.str g) = partsOf false g from rfl, hg]; decide)]
    rfl
  refine ⟨h, L, W, .int u, .str p, .str g, rfl, hh, ok, sm, intOk u, textOk_of hp, textOk_of hgl, fun e he => kE e (ofPl_err (e1 ▸ he)), fun ss n hs => ?_⟩
  rw [e1] at hs
  cases hf : freeV W u (.str p) with
  | err e => rw [hf] at hs; cases hs
  | ok ss' n' =>
    rw [hf] at hs
    cases hs
    exact kO ss n hf
theorem make_hintL {K : PySem.W.Frag} {H : Hp} {t c h : Addr} {L : Lay} {W W' : Wd} {Q : VK} {E : XK} {u : Int} {p : Str} {g : Str} (S : LawSt K H t c h L W) (sm : W.Small 40000) (u0 : 0 ≤ u) (u1 : u < W.groups.length) (hp : p.length ≤ 1000) (hg : (partsOf false g).isSome = true) (hgl : g.length ≤ 1000) (hf : makeP W u p (hintN W u g) = .ok W') (q : ∀ L' H', LawSt K H' t c h L' W' → Ex (mask (lawS t c h L) H) (mask (lawS t c h L') H') → Q .non H') : sp_make_hint K [.ref h, .int u, .str p, .str g] H Q E := by
  refine make_hintP S.hh S.ok sm u0 u1 hp hg hgl (fun e he => ?_) (fun ss n hs L' H' hh ok o g => ?_)
  · unfold makeP at hf
    rw [he] at hf
    cases hf
  · unfold makeP at hf
    rw [hs] at hf
    cases hf
    obtain ⟨S', m⟩ := S.deed hh ok o g
    exact q L' H' S' m
def sp_look_rights (K : PySem.W.Frag) : Sp := fun vs H Q E => ∃ v : V, vs = [v] ∧ RightsOk K H v ∧ (rightsB H v = true → ∀ H', Ex H H' → Q .non H') ∧ (rightsB H v = false → ∀ H', Ex H H' → E (.ref (errC K 2)) none H')
def sp_look_text (K : PySem.W.Frag) : Sp := fun vs H Q E => ∃ v : V, vs = [v] ∧ TextOk K H v ∧ (textB v = true → ∀ H', Ex H H' → Q .non H') ∧ (textB v = false → ∀ H', Ex H H' → E (.ref (errC K 1)) none H')
def sp_make_leaf (K : PySem.W.Frag) : Sp := fun vs H Q E => ∃ (h : Addr) (L : Lay) (W : Wd) (vu vp vt vr : V), vs = [.ref h, vu, vp, vt, vr] ∧ HouseAt K H h L W ∧ W.Ok ∧ W.Small 40000 ∧ IntOk K H vu ∧ TextOk K H vp ∧ TextOk K H vt ∧ RightsOk K H vr ∧
  (∀ e, leafV W H vu vp vt vr = .err e → ∀ cls d H', Ex H H' → ErrAt K e cls d H' → E cls d H') ∧
  ∀ ss n, leafV W H vu vp vt vr = .ok ss n → ∀ rt r0 r1 r2, vr = .ref rt → H rt = some (.tup [.int r0, .int r1, .int r2]) → ∀ L' H', HouseAt K H' h L' (madeW W (last ss).number n (leafNd W vu vt r0 r1 r2)) → (madeW W (last ss).number n (leafNd W vu vt r0 r1 r2)).Ok → Off (fp h L) H H' → Grew h L L' H → Q .non H'
theorem make_leafP {K : PySem.W.Frag} {H : Hp} {h : Addr} {L : Lay} {W : Wd} {Q : VK} {E : XK} {u : Int} {p : Str} {tx : Str} {rt : Addr} {r0 r1 r2 : Int} (hh : HouseAt K H h L W) (ok : W.Ok) (sm : W.Small 40000) (u0 : 0 ≤ u) (u1 : u < W.groups.length) (hp : p.length ≤ 1000) (ht : textB (.str tx) = true) (htl : tx.length ≤ 1000) (hrt : H rt = some (.tup [.int r0, .int r1, .int r2])) (h0 : R8 r0) (h1 : R8 r1) (h2 : R8 r2)
    (kE : ∀ e, freeV W u (.str p) = .err e → ∀ cls d H', Ex H H' → ErrAt K e cls d H' → E cls d H')
    (kO : ∀ ss n, freeV W u (.str p) = .ok ss n → ∀ L' H', HouseAt K H' h L' (madeW W (last ss).number n (leafN W u tx r0 r1 r2)) → (madeW W (last ss).number n (leafN W u tx r0 r1 r2)).Ok → Off (fp h L) H H' → Grew h L L' H → Q .non H') : sp_make_leaf K [.ref h, .int u, .str p, .str tx, .ref rt] H Q E := by
  have e1 : leafV W H (.int u) (.str p) (.str tx) (.ref rt) = ofPl (freeV W u (.str p)) := by
    unfold leafV
    rw [if_neg (by rw [userB_of u0 u1]; decide), if_neg (by rw [ht]; decide), if_neg (by rw [rightsB_ints hrt h0 h1 h2]; decide)]
    rfl
  refine ⟨h, L, W, .int u, .str p, .str tx, .ref rt, rfl, hh, ok, sm, intOk u, textOk_of hp, textOk_of htl, rightsOk_ints hrt, fun e he => kE e (ofPl_err (e1 ▸ he)), fun ss n hs rt' a b c er ht => ?_⟩
  cases er
  rw [hrt] at ht
  cases ht
  rw [e1] at hs
  cases hf : freeV W u (.str p) with
  | err e => rw [hf] at hs; cases hs
  | ok ss' n' =>
    rw [hf] at hs
    cases hs
    exact kO ss n hf
theorem make_leafL {K : PySem.W.Frag} {H : Hp} {t c h : Addr} {L : Lay} {W W' : Wd} {Q : VK} {E : XK} {u : Int} {p : Str} {tx : Str} {rt : Addr} {r0 r1 r2 : Int} (S : LawSt K H t c h L W) (sm : W.Small 40000) (u0 : 0 ≤ u) (u1 : u < W.groups.length) (hp : p.length ≤ 1000) (ht : textB (.str tx) = true) (htl : tx.length ≤ 1000) (hrt : H rt = some (.tup [.int r0, .int r1, .int r2])) (h0 : R8 r0) (h1 : R8 r1) (h2 : R8 r2) (hf : makeP W u p (leafN W u tx r0 r1 r2) = .ok W') (q : ∀ L' H', LawSt K H' t c h L' W' → Ex (mask (lawS t c h L) H) (mask (lawS t c h L') H') → Q .non H') : sp_make_leaf K [.ref h, .int u, .str p, .str tx, .ref rt] H Q E := by
  refine make_leafP S.hh S.ok sm u0 u1 hp ht htl hrt h0 h1 h2 (fun e he => ?_) (fun ss n hs L' H' hh ok o g => ?_)
  · unfold makeP at hf
    rw [he] at hf
    cases hf
  · unfold makeP at hf
    rw [hs] at hf
    cases hf
    obtain ⟨S', m⟩ := S.deed hh ok o g
    exact q L' H' S' m
def sp_make_room (K : PySem.W.Frag) : Sp := fun vs H Q E => ∃ (h : Addr) (L : Lay) (W : Wd) (vu vp vr : V), vs = [.ref h, vu, vp, vr] ∧ HouseAt K H h L W ∧ W.Ok ∧ W.Small 40000 ∧ IntOk K H vu ∧ TextOk K H vp ∧ RightsOk K H vr ∧
  (∀ e, roomV W H vu vp vr = .err e → ∀ cls d H', Ex H H' → ErrAt K e cls d H' → E cls d H') ∧
  ∀ ss n, roomV W H vu vp vr = .ok ss n → ∀ rt r0 r1 r2, vr = .ref rt → H rt = some (.tup [.int r0, .int r1, .int r2]) → ∀ L' H', HouseAt K H' h L' (madeW W (last ss).number n (newNd W "room" (userI vu) r0 r1 r2)) → (madeW W (last ss).number n (newNd W "room" (userI vu) r0 r1 r2)).Ok → Off (fp h L) H H' → Grew h L L' H → Q .non H'
theorem make_roomP {K : PySem.W.Frag} {H : Hp} {h : Addr} {L : Lay} {W : Wd} {Q : VK} {E : XK} {u : Int} {p : Str} {rt : Addr} {r0 r1 r2 : Int} (hh : HouseAt K H h L W) (ok : W.Ok) (sm : W.Small 40000) (u0 : 0 ≤ u) (u1 : u < W.groups.length) (hp : p.length ≤ 1000) (hrt : H rt = some (.tup [.int r0, .int r1, .int r2])) (h0 : R8 r0) (h1 : R8 r1) (h2 : R8 r2)
    (kE : ∀ e, freeV W u (.str p) = .err e → ∀ cls d H', Ex H H' → ErrAt K e cls d H' → E cls d H')
    (kO : ∀ ss n, freeV W u (.str p) = .ok ss n → ∀ L' H', HouseAt K H' h L' (madeW W (last ss).number n (roomN W u r0 r1 r2)) → (madeW W (last ss).number n (roomN W u r0 r1 r2)).Ok → Off (fp h L) H H' → Grew h L L' H → Q .non H') : sp_make_room K [.ref h, .int u, .str p, .ref rt] H Q E := by
  have e1 : roomV W H (.int u) (.str p) (.ref rt) = ofPl (freeV W u (.str p)) := by
    unfold roomV
    rw [if_neg (by rw [userB_of u0 u1]; decide), if_neg (by rw [rightsB_ints hrt h0 h1 h2]; decide)]
    rfl
  refine ⟨h, L, W, .int u, .str p, .ref rt, rfl, hh, ok, sm, intOk u, textOk_of hp, rightsOk_ints hrt, fun e he => kE e (ofPl_err (e1 ▸ he)), fun ss n hs rt' a b c er ht => ?_⟩
  cases er
  rw [hrt] at ht
  cases ht
  rw [e1] at hs
  cases hf : freeV W u (.str p) with
  | err e => rw [hf] at hs; cases hs
  | ok ss' n' =>
    rw [hf] at hs
    cases hs
    exact kO ss n hf
theorem make_roomL {K : PySem.W.Frag} {H : Hp} {t c h : Addr} {L : Lay} {W W' : Wd} {Q : VK} {E : XK} {u : Int} {p : Str} {rt : Addr} {r0 r1 r2 : Int} (S : LawSt K H t c h L W) (sm : W.Small 40000) (u0 : 0 ≤ u) (u1 : u < W.groups.length) (hp : p.length ≤ 1000) (hrt : H rt = some (.tup [.int r0, .int r1, .int r2])) (h0 : R8 r0) (h1 : R8 r1) (h2 : R8 r2) (hf : makeP W u p (roomN W u r0 r1 r2) = .ok W') (q : ∀ L' H', LawSt K H' t c h L' W' → Ex (mask (lawS t c h L) H) (mask (lawS t c h L') H') → Q .non H') : sp_make_room K [.ref h, .int u, .str p, .ref rt] H Q E := by
  refine make_roomP S.hh S.ok sm u0 u1 hp hrt h0 h1 h2 (fun e he => ?_) (fun ss n hs L' H' hh ok o g => ?_)
  · unfold makeP at hf
    rw [he] at hf
    cases hf
  · unfold makeP at hf
    rw [hs] at hf
    cases hf
    obtain ⟨S', m⟩ := S.deed hh ok o g
    exact q L' H' S' m
def sp_read (K : PySem.W.Frag) : Sp := fun vs H Q E => ∃ (h : Addr) (L : Lay) (W : Wd) (vu v : V), vs = [.ref h, vu, v] ∧ HouseAt K H h L W ∧ W.Ok ∧ IntOk K H vu ∧ TextOk K H v ∧
  (∀ e, readR W vu v = .err e → ∀ cls d H', Ex H H' → ErrAt K e cls d H' → E cls d H') ∧ ∀ n, readR W vu v = .ok n → ∀ H', Ex H H' → Q (.str (W.at n).text) H'
def sp_write (K : PySem.W.Frag) : Sp := fun vs H Q E => ∃ (h : Addr) (L : Lay) (W : Wd) (vu vp vt : V), vs = [.ref h, vu, vp, vt] ∧ HouseAt K H h L W ∧ W.Ok ∧ IntOk K H vu ∧ TextOk K H vp ∧ TextOk K H vt ∧
  (∀ e, writeR W vu vp vt = .err e → ∀ cls d H', Ex H H' → ErrAt K e cls d H' → E cls d H') ∧
  ∀ n, writeR W vu vp vt = .ok n → ∀ H', HouseAt K H' h L (textW W n (strS vt)) → (textW W n (strS vt)).Ok → Off (fp h L) H H' → Q .non H'
def sp_World (K : PySem.W.Frag) : Sp := fun vs H Q E => ∃ (x dx : Addr) (v : V), vs = [.ref x, v] ∧ H x = some (.ins (cHouse K) dx []) ∧
  ((∃ a xs, v = .ref a ∧ H a = some (.lst xs) ∧ xs.length ≤ 1000 ∧ (∀ y ∈ xs, IntOk K H y) ∧ (groupsB xs = false → ∀ H', (∀ b o, b ≠ x → H b = some o → H' b = some o) → E (.ref (errC K 2)) none H') ∧
    ∀ gs : List Int, xs = gs.map V.int → groupsB xs = true → ∀ L H', HouseAt K H' x L (w0 gs) → (∀ b o, b ≠ x → H b = some o → H' b = some o) → (∀ b ∈ L.g :: fp x L, b = x ∨ H b = none) → Q .non H') ∨
   (Kind K H v "list" false ∧ ∀ H', (∀ b o, b ≠ x → H b = some o → H' b = some o) → E (.ref (errC K 2)) none H'))
theorem w0_ok {gs : List Int} (h : groupsB (gs.map V.int) = true) : (w0 gs).Ok := by
  unfold groupsB at h
  simp only [Bool.and_eq_true, decide_eq_true_eq, List.length_map] at h
  refine ⟨⟨h.1, h.2.1⟩, (show 0 < 1 by decide), rfl, fun d hd => ?_, fun p hp => (by cases hp), .nil, fun n => rfl⟩
  have : d = ⟨"room", 0, gs.getD 0 0, 7, 5, 5, [], "", 1⟩ := List.mem_singleton.mp hd
  subst this
  exact ⟨fun p hp => (by cases hp), .nil, fun z => absurd (show Str.ofString "room" = Str.ofString "hint" from z) (by decide +kernel), (show (Str.ofString "").length ≤ 200 by decide +kernel), (show (0 ≤ (7 : Int) ∧ (7 : Int) ≤ 7) ∧ (0 ≤ (5 : Int) ∧ (5 : Int) ≤ 7) ∧ (0 ≤ (5 : Int) ∧ (5 : Int) ≤ 7) by decide), .inl rfl, fun _ => rfl⟩
theorem mk_houseP {K : PySem.W.Frag} {H : Hp} {l : Addr} {gs : List Int} {Q : VK} {E : XK} (hl : H l = some (.lst (gs.map V.int))) (hg : groupsB (gs.map V.int) = true) (q : ∀ x L H', HouseAt K H' x L (w0 gs) → (w0 gs).Ok → Ex H H' → (∀ b ∈ L.g :: fp x L, H b = none) → Q (.ref x) H') : MkK (He.ga K "House") (sp_World K) E [.ref l] H Q := by
  intro x dx hx hdx hne
  have lx : l ≠ x := fun z => by rw [z, hx] at hl; cases hl
  have ldx : l ≠ dx := fun z => by rw [z, hdx] at hl; cases hl
  refine ⟨x, dx, .ref l, rfl, upd_same, .inl ⟨l, _, rfl, by rw [upd_ne lx, upd_ne ldx]; exact hl, ?_, ?_, fun z => ?_, fun gs' e _ L H' hh oo f => ⟨rfl, ?_⟩⟩⟩
  · unfold groupsB at hg
    simp only [Bool.and_eq_true, decide_eq_true_eq] at hg
    omega
  · intro y hy
    obtain ⟨i, _, rfl⟩ := List.mem_map.mp hy
    exact .inl ⟨i, rfl⟩
  · rw [hg] at z
    cases z
  · have e' : gs' = gs := by
      have inj : ∀ a b : List Int, a.map V.int = b.map V.int → a = b := fun a => by
        induction a with
        | nil => intro b z; cases b with
          | nil => rfl
          | cons => cases z
        | cons i r ih => intro b z; cases b with
          | nil => cases z
          | cons j s =>
            rw [List.map_cons, List.map_cons] at z
            injection z with z1 z2
            injection z1 with z1
            rw [z1, ih s z2]
      exact inj _ _ e.symm
    subst e'
    refine q x L H' hh (w0_ok hg) (fun b o hb => ?_) fun b hb => ?_
    · have b1 : b ≠ x := fun z => by rw [z, hx] at hb; cases hb
      have b2 : b ≠ dx := fun z => by rw [z, hdx] at hb; cases hb
      exact oo b _ b1 (by rw [upd_ne b1, upd_ne b2]; exact hb)
    · rcases f b hb with rfl | z
      · exact hx
      · by_cases b1 : b = x
        · rw [b1]; exact hx
        · rw [upd_ne b1] at z
          by_cases b2 : b = dx
          · rw [b2]; exact hdx
          · rw [upd_ne b2] at z
            exact z
-- in TmP: def sp_draw
-- in TmP: def sp_pick
-- in TmP: def sp_town (K : PySem.W.Frag)
def sp_about (K : PySem.W.Frag) : Sp := fun vs H Q E => ∃ (h : Addr) (L : Lay) (W : Wd) (vu v : V), vs = [.ref h, vu, v] ∧ HouseAt K H h L W ∧ W.Ok ∧ IntOk K H vu ∧ TextOk K H v ∧
  (∀ e, atR W vu v true = .err e → ∀ cls d H', Ex H H' → ErrAt K e cls d H' → E cls d H') ∧ ∀ ss num, atR W vu v true = .ok (ss, num) → ∀ p rt H', H p = none → Ex H H' → H' p = some (.tup [.int (W.at (endNum ss num)).owner, .int (W.at (endNum ss num)).group, .ref rt, .int (W.at (endNum ss num)).count]) → H' rt = some (.tup (rtsV (W.at (endNum ss num)))) → Q (.ref p) H'
theorem aboutP {K : PySem.W.Frag} {H : Hp} {h : Addr} {L : Lay} {W : Wd} {vu v : V} {d : PyData} {Q : VK} {E : XK} (hh : HouseAt K H h L W) (ok : W.Ok) (hu : IntOk K H vu) (hv : TextOk K H v) (hd : aboutR W vu v = .ok d) (q : ∀ x H', Ex H H' → Dp K H' x d → Q x H') : sp_about K [.ref h, vu, v] H Q E := by
  unfold aboutR at hd
  refine ⟨h, L, W, vu, v, rfl, hh, ok, hu, hv, fun e he => ?_, fun ss num hw p rt H' hp e h1 h2 => ?_⟩
  · rw [he] at hd
    cases hd
  · rw [hw] at hd
    cases hd
    exact q _ H' e (.tup (SqT.of h1) (.cons (.int _) (.cons (.int _) (.cons (.tup (SqT.of h2) (.cons (.int _) (.cons (.int _) (.cons (.int _) .nil)))) (.cons (.int _) .nil)))))
def sp_beneath (K : PySem.W.Frag) : Sp := fun vs H Q E => ∃ (h : Addr) (L : Lay) (W : Wd) (vu v : V), vs = [.ref h, vu, v] ∧ HouseAt K H h L W ∧ W.Ok ∧ W.Small 63 ∧ IntOk K H vu ∧ TextOk K H v ∧
  (∀ e, benR W vu v = .err e → ∀ cls d H', Ex H H' → ErrAt K e cls d H' → E cls d H') ∧
  ∀ rs, benR W vu v = .ok rs → ∀ (as : List Addr) p H', H p = none → Ex H H' → H' p = some (.lst (as.map V.ref)) → Paired (RowAt H') as (sortR rs) → Q (.ref p) H'
theorem beneathP {K : PySem.W.Frag} {H : Hp} {h : Addr} {L : Lay} {W : Wd} {vu v : V} {rs : List Row} {Q : VK} {E : XK} (hh : HouseAt K H h L W) (ok : W.Ok) (sm : W.Small 63) (hu : IntOk K H vu) (hv : TextOk K H v) (hk : benR W vu v = .ok rs) (q : ∀ (as : List Addr) p H', H p = none → Ex H H' → H' p = some (.lst (as.map V.ref)) → Paired (RowAt H') as (sortR rs) → Q (.ref p) H') : sp_beneath K [.ref h, vu, v] H Q E :=
  ⟨h, L, W, vu, v, rfl, hh, ok, sm, hu, hv, fun e he => (by rw [he] at hk; cases hk), fun rs' hr => (by rw [hr] at hk; cases hk; exact q)⟩
def spN_copied (K : PySem.W.Frag) (n : Nat) : Sp := fun vs H Q _ => ∃ (h : Addr) (L : Lay) (W : Wd) (u : Int) (x : Nat), vs = [.ref h, .int u, .int x] ∧ HouseAt K H h L W ∧ W.Ok ∧ (∀ i, (W.at i).names.length ≤ 63) ∧ 0 ≤ u ∧ u < W.groups.length ∧ x < W.nodes.length ∧ Nst W n x ∧ W.nodes.length + sizeGo W n x ≤ 40000 ∧
  ∀ L' H', HouseAt K H' h L' (copyGo u n W x) → Off (fp h L) H H' → Grew h L L' H → (∀ i, i < W.nodes.length → L'.as.getD i 0 = L.as.getD i 0) → Q (.int W.nodes.length) H'
def sp_copied (K : PySem.W.Frag) : Sp := spN_copied K 13
def sp_is_bound (K : PySem.W.Frag) : Sp := fun vs H Q _ => ∃ (h : Addr) (L : Lay) (W : Wd) (n : Nat), vs = [.ref h, .int n] ∧ HouseAt K H h L W ∧ ∀ H', Ex H H' → Q (.bl (boundB W n)) H'
def sp_rooms_beneath (K : PySem.W.Frag) : Sp := fun vs H Q _ => ∃ (h : Addr) (L : Lay) (W : Wd) (n : Nat), vs = [.ref h, .int n] ∧ HouseAt K H h L W ∧ W.Ok ∧ W.Small 63 ∧ Tree W ∧ n < W.nodes.length ∧ ∀ (ys : List Nat) (p : Addr) (H' : Hp), ys.Perm (roomsOf W n) → H p = none → Ex H H' → H' p = some (.lst (ys.map fun n : Nat => V.int (n : Int))) → Q (.ref p) H'
def sp_look_free (K : PySem.W.Frag) : Sp := fun vs H Q E => ∃ (h : Addr) (L : Lay) (W : Wd) (u : Int) (n : Nat) (right : Int), vs = [.ref h, .int u, .int n, .int right] ∧ HouseAt K H h L W ∧ W.Ok ∧ W.Small 63 ∧ Tree W ∧ n < W.nodes.length ∧ 0 ≤ u ∧ u < W.groups.length ∧
  (∀ e, freeR W u n right = some e → ∀ cls d H', Ex H H' → ErrAt K e cls d H' → E cls d H') ∧
  (freeR W u n right = none → ∀ (ys : List Nat) (p : Addr) (H' : Hp), ys.Perm (roomsOf W n) → H p = none → Ex H H' → H' p = some (.lst (ys.map fun n : Nat => V.int (n : Int))) → Q (.ref p) H')
def Deep (W : Wd) : Prop := ∀ x, x < W.nodes.length → Nst W 13 x ∧ W.nodes.length + sizeGo W 13 x ≤ 40000
def sp_copy_room (K : PySem.W.Frag) : Sp := fun vs H Q E => ∃ (h : Addr) (L : Lay) (W : Wd) (vu vo vn : V), vs = [.ref h, vu, vo, vn] ∧ HouseAt K H h L W ∧ W.Ok ∧ W.Small 63 ∧ Tree W ∧ Deep W ∧ IntOk K H vu ∧ TextOk K H vo ∧ TextOk K H vn ∧
  (∀ e, copyR W vu vo vn = .err e → ∀ cls d H', Ex H H' → ErrAt K e cls d H' → E cls d H') ∧
  ∀ x st m, copyR W vu vo vn = .ok (x, st, m) → ∀ L' H', HouseAt K H' h L' (copyW W (userI vu) x (last st).number m) → (copyW W (userI vu) x (last st).number m).Ok → Off (fp h L) H H' → Grew h L L' H → Q (.int (sizeGo W 13 x)) H'
def cntK (rs : List Row) (s : Str) : Int := ((rs.map (·.2)).countP fun z => decide (z = s) : Nat)
theorem cnt_kinds {rs qs : List Row} (p : qs.Perm rs) (s : Str) : (((qs.map (·.2)).map V.str).countP fun z => eqV z (.str s) : Nat) = ((rs.map (·.2)).countP fun z => decide (z = s)) := by
  rw [← (p.map (·.2)).countP_eq]
  rw [List.countP_map]
  congr 1
theorem rows_snd {H : Hp} : ∀ {as : List Addr} {rs : List Row}, Paired (RowAt H) as rs → (as.map V.ref).map (fun v => tupAt H v 1) = (rs.map (·.2)).map V.str
  | _, _, .nil => rfl
  | _, _, .cons h t => by
    rw [List.map_cons, List.map_cons, List.map_cons, List.map_cons, rows_snd t, tupAt_of h]
    rfl
def sp_count_of (K : PySem.W.Frag) : Sp := fun vs H Q E => ∃ (h : Addr) (L : Lay) (W : Wd) (vu v : V), vs = [.ref h, vu, v] ∧ HouseAt K H h L W ∧ W.Ok ∧ W.Small 63 ∧ IntOk K H vu ∧ TextOk K H v ∧
  (∀ e, benR W vu v = .err e → ∀ cls d H', Ex H H' → ErrAt K e cls d H' → E cls d H') ∧
  ∀ rs, benR W vu v = .ok rs → ∀ p H', H p = none → Ex H H' → H' p = some (.tup [.int (cntK rs "room"), .int (cntK rs "leaf"), .int (cntK rs "hint")]) → Q (.ref p) H'
def lastV (H : Hp) (v : V) : Str := match tupAt H v 0 with
  | .str s => (Txt.split s sl).getLastD ""
  | _ => ""
theorem lastV_of {H : Hp} {a : Addr} {r : Row} (h : RowAt H a r) (hg : goodParts r.1 = true) (hne : r.1 ≠ []) : lastV H (.ref a) = r.1.getLastD "" := by
  unfold lastV
  rw [tupAt_of h]
  show (Txt.split (pathOf r.1) sl).getLastD "" = _
  rw [split_path hne (good_all hg).2]
  cases hr : r.1 with
  | nil => exact (hne hr).elim
  | cons x xs => rfl
theorem found_map {H : Hp} {n : Str} : ∀ {as : List Addr} {rs : List Row}, Paired (RowAt H) as rs → (∀ r ∈ rs, goodParts r.1 = true ∧ r.1 ≠ []) → (((as.map V.ref).filter fun v => decide (lastV H v = n)).map fun v => tupAt H v 0) = (rs.filter fun r => decide (r.1.getLastD "" = n)).map fun r => V.str (pathOf r.1)
  | _, _, .nil, _ => rfl
  | _, _, .cons (a := a) (b := b) h t, hg => by
    have ih := found_map (n := n) t fun r hr => hg r (List.mem_cons_of_mem _ hr)
    have hb := hg b (List.mem_cons_self ..)
    rw [List.map_cons, List.filter_cons, List.filter_cons, lastV_of h hb.1 hb.2]
    by_cases c : b.1.getLastD "" = n
    · rw [if_pos (decide_eq_true c), if_pos (decide_eq_true c), List.map_cons, List.map_cons, ih, tupAt_of h]
      rfl
    · rw [if_neg (by simpa using c), if_neg (by simpa using c)]
      exact ih
def sp_found_names (K : PySem.W.Frag) : Sp := fun vs H Q E => ∃ (h : Addr) (L : Lay) (W : Wd) (vu v : V) (n : Str), vs = [.ref h, vu, v, .str n] ∧ HouseAt K H h L W ∧ W.Ok ∧ W.Small 63 ∧ IntOk K H vu ∧ TextOk K H v ∧
  (∀ e, benR W vu v = .err e → ∀ cls d H', Ex H H' → ErrAt K e cls d H' → E cls d H') ∧
  ∀ rs, benR W vu v = .ok rs → ∀ p H', H p = none → Ex H H' → H' p = some (.lst (((sortR rs).filter fun r => decide (r.1.getLastD "" = n)).map fun r => V.str (pathOf r.1))) → Q (.ref p) H'
def sp_is_same (K : PySem.W.Frag) : Sp := fun vs H Q E => ∃ (h : Addr) (L : Lay) (W : Wd) (vu v w : V), vs = [.ref h, vu, v, w] ∧ HouseAt K H h L W ∧ W.Ok ∧ IntOk K H vu ∧ TextOk K H v ∧ TextOk K H w ∧
  (∀ e, sameR W vu v w = .err e → ∀ cls d H', Ex H H' → ErrAt K e cls d H' → E cls d H') ∧ ∀ b, sameR W vu v w = .ok b → ∀ H', Ex H H' → Q (.bl b) H'
theorem is_sameP {K : PySem.W.Frag} {H : Hp} {h : Addr} {L : Lay} {W : Wd} {vu v w : V} {b : Bool} {Q : VK} {E : XK} (hh : HouseAt K H h L W) (ok : W.Ok) (hu : IntOk K H vu) (hv : TextOk K H v) (hw : TextOk K H w) (hb : sameR W vu v w = .ok b) (q : ∀ H', Ex H H' → Q (.bl b) H') : sp_is_same K [.ref h, vu, v, w] H Q E := by
  refine ⟨h, L, W, vu, v, w, rfl, hh, ok, hu, hv, hw, fun e he => ?_, fun b' hb' H' e => ?_⟩
  · rw [he] at hb
    cases hb
  · rw [hb'] at hb
    cases hb
    exact q H' e
def sp_names_in (K : PySem.W.Frag) : Sp := fun vs H Q E => ∃ (h : Addr) (L : Lay) (W : Wd) (vu v : V), vs = [.ref h, vu, v] ∧ HouseAt K H h L W ∧ W.Ok ∧ IntOk K H vu ∧ TextOk K H v ∧
  (∀ e, namesR W vu v = .err e → ∀ cls d H', Ex H H' → ErrAt K e cls d H' → E cls d H') ∧ ∀ n, namesR W vu v = .ok n → (W.at n).names.length < 64 ∧ ∀ (ys : List Str) (p : Addr) (H' : Hp), ys.Perm ((W.at n).names.map (·.1)) → PyProof.Rows.sortedS ys = true → H p = none → Ex H H' → H' p = some (.lst (ys.map V.str)) → Q (.ref p) H'
theorem names_inP {K : PySem.W.Frag} {H : Hp} {h : Addr} {L : Lay} {W : Wd} {vu v : V} {n : Nat} {Q : VK} {E : XK} (hh : HouseAt K H h L W) (ok : W.Ok) (hu : IntOk K H vu) (hv : TextOk K H v) (hk : namesR W vu v = .ok n) (sm : (W.at n).names.length < 64) (q : ∀ p H', H p = none → Ex H H' → H' p = some (.lst ((sortS ((W.at n).names.map (·.1))).map V.str)) → Q (.ref p) H') : sp_names_in K [.ref h, vu, v] H Q E := by
  refine ⟨h, L, W, vu, v, rfl, hh, ok, hu, hv, fun e he => ?_, fun m hw => ?_⟩
  · rw [he] at hk
    cases hk
  · rw [hw] at hk
    cases hk
    refine ⟨sm, fun ys p H' hys hso hp e hl => q p H' hp e ?_⟩
    rw [← sortS_of hys hso]
    exact hl
def sp_named (K : PySem.W.Frag) : Sp := fun vs H Q E => ∃ (h : Addr) (L : Lay) (W : Wd) (u : Int) (v : V), vs = [.ref h, .int u, v] ∧ HouseAt K H h L W ∧ W.Ok ∧ 0 ≤ u ∧ u < W.groups.length ∧ TextOk K H v ∧
  (∀ e, namedR W u v = .err e → ∀ cls d H', Ex H H' → ErrAt K e cls d H' → E cls d H') ∧
  ∀ ss n k, namedR W u v = .ok (ss, n, k) → ∀ p q H', H p = none → H q = none → Ex H H' → H' p = some (.tup [.ref q, .str n, .int k]) → StandsAt K H' q ss → Q (.ref p) H'
def sp_remove_all (K : PySem.W.Frag) : Sp := fun vs H Q E => ∃ (h : Addr) (L : Lay) (W : Wd) (vu vp : V), vs = [.ref h, vu, vp] ∧ HouseAt K H h L W ∧ W.Ok ∧ W.Small 63 ∧ Tree W ∧ IntOk K H vu ∧ TextOk K H vp ∧
  (∀ e, clearR W vu vp = .err e → ∀ cls d H', Ex H H' → ErrAt K e cls d H' → E cls d H') ∧
  ∀ ss n k, clearR W vu vp = .ok (ss, n, k) → ∀ H', HouseAt K H' h L (clearW W (last ss).number n k) → (clearW W (last ss).number n k).Ok → Off (fp h L) H H' → Q (.int (clearN W k)) H'
def sp_law (K : PySem.W.Frag) : Sp := fun vs H Q _ => ∃ (a : Addr) (ns : List Int), vs = [.ref a] ∧ SqL K H a (ns.map V.int) ∧ ns.length ≤ 63 ∧ ∀ H', Q (.bl true) H'

abbrev N_NoRight___init__ : List Str := ["self", "user", "number"]
theorem sc_NoRight___init__ : FnScope N_NoRight___init__ ["self", "user", "number"] (defScope s_NoRight___init__) := ⟨rfl, rfl, rfl, by decide +kernel, rfl, by decide +kernel, by decide +kernel⟩
theorem ok_NoRight___init__ {P : Program} {w : World} {K : PySem.W.Frag} {mg : Str → Option Value} {base : Heap} {f : Addr} {fd : FuncData} (F : FunD K "__init__" "NoRight.__init__" (defArgs s_NoRight___init__) (defBody s_NoRight___init__) (defScope s_NoRight___init__) [] [] f fd)
     (TC : OexC K (He.ga K "NoRight")) (n_user : PySem.W.findIn K (.ref (He.ga K "NoRight")) "user" = some none) (n_number : PySem.W.findIn K (.ref (He.ga K "NoRight")) "number" = some none) : FnOk P w K mg base (L2.CX P w) 1 f fd ["self", "user", "number"] (sp_NoRight K) := by
  have nd := sc_NoRight___init__.nd
  refine F.ok (k := 0) sc_NoRight___init__ (fun vs H Q E h => ?_) (fun cdv A outer s H vs Q E hr h => ?_)
  · obtain ⟨a, ys, rfl, hl, _⟩ := h
    rw [List.length_cons, hl]
    rfl
  have hu := hu_of hr
  refine ⟨_, (pss_cons (ps_ost (pv 0) (pv 1))
      (pss_one (ps_ost (pv 0) (pv 2)))), ?_⟩
  obtain ⟨a, ys, rfl, hl, ha, k⟩ := h
  match ys, hl with
  | [u, n], _ =>
    walk_at "x"
    refine ⟨_, rfl, _, rfl, a, _, rfl, TC, n_user, .inl ⟨ha, fun dx hdx hne => ?_⟩⟩
    walk_at "x"
    refine ⟨_, rfl, _, rfl, a, _, rfl, TC, n_number, .inr ⟨dx, _, upd_same, by rw [upd_ne hne]; exact upd_same, by simp, ?_⟩⟩
    refine k dx _ hdx hne ?_ upd_same (fun b h1 h2 => ?_)
    · rw [upd_ne hne.symm, upd_same]
    · rw [upd_ne h2, upd_ne h1, upd_ne h2]
abbrev N_World_may : List Str := ["self", "user", "number", "right", "node", "mine"]
theorem sc_World_may : FnScope N_World_may ["self", "user", "number", "right"] (defScope s_World_may) := ⟨rfl, rfl, rfl, by decide +kernel, rfl, by decide +kernel, by decide +kernel⟩
theorem ok_World_may {P : Program} {w : World} {K : PySem.W.Frag} {mg : Str → Option Value} {base : Heap} {f : Addr} {fd : FuncData} (F : FunD K "may" "World.may" (defArgs s_World_may) (defBody s_World_may) (defScope s_World_may) [] [] f fd)
    (CK : ClsK K) (c_KEEPER : ∃ t, mg "KEEPER" = some (.int 0 t))  : FnOk P w K mg base (L2.CX P w) 1 f fd ["self", "user", "number", "right"] (sp_may K) := by
  have nd := sc_World_may.nd
  refine F.ok (k := 0) sc_World_may (fun vs H Q E h => ?_) (fun cdv A outer s H vs Q E hr h => ?_)
  · obtain ⟨_, _, _, _, _, _, rfl, _⟩ := h
    rfl
  have hu := hu_of hr
  refine ⟨_, (pss_cons (ps_set (i := 4) nd rfl (Or.inl rfl) (pe_dget hu (pe_fld (pv 0) (by rfl)) (pv 2) (fun _ _ => rfl)))
      (pss_mid (ps_if (pt_cmpR op_eq (pv 1) (pe_gint c_KEEPER (by rfl)) (nomark _)) (pss_one (ps_ret pe_bl))
      pss_nil)
      (pss_mid (ps_if (pt_cmpR op_eq (pe_fld (pv 4) (by rfl)) (pv 1) (nomark _)) (pss_one (ps_set (i := 5) nd rfl (Or.inl rfl) (pe_ix ix_tup (pe_fld (pv 4) (by rfl)) pe_int (fun _ _ => rfl))))
      (pss_one (ps_set (i := 5) nd rfl (Or.inl rfl) (pe_ix ix_tup (pe_fld (pv 4) (by rfl)) (pe_ifExp (pt_cmpR op_eq (pe_fld (pv 4) (by rfl)) (pe_ix ix_list (pe_fld (pv 0) (by rfl)) (pv 1) (fun _ _ => rfl)) (nomark _)) pe_int pe_int) (fun _ _ => rfl)))))
      (pss_one (ps_ret (pe_cmpR op_eq (pe_op op_and (pv 5) (pv 3)) (pv 3) (nomark _))))))), ?_⟩
  obtain ⟨h, L, W, u, n, right, rfl, hh, u0, u1, hn, k⟩ := h
  have N := hh.nod n hn
  walk_at "x"
  refine hh.fN CK ?_
  walk_at "x"
  refine hh.node hn ?_
  walk_at "x"
  dsimp only
  refine x_cut (¬ u = 0) ?_ (fun h0 => ?_)
  · walk_at "x"
    refine x_ifd (fun h0 => ?_) (fun h0 => ?_)
    · walk_at "x"
      cases h0
      exact k
    · walk_at "x"
      exact ⟨rfl, rfl, fun z => h0 (by rw [z])⟩
  refine x_cutM (fun σ' H' => σ' = [some (.ref h), some (.int u), some (.int n), some (.int right), some (.ref (L.as.getD n 0)), some (.int (mine W u n))] ∧ H' = H) ?_ ?_
  · walk_at "x"
    refine N.owner CK ?_
    walk_at "x"
    refine x_ifd (fun h1 => ?_) (fun h1 => ?_)
    · walk_at "x"
      refine N.rights CK fun rt hrt => ?_
      walk_at "x"
      refine x_ixT (v := .int (W.at n).r0) (SqT.of hrt) (by rfl) ?_
      walk_at "x"
      refine ⟨?_, rfl⟩
      unfold mine
      rw [if_pos (V.int.inj h1)]
      rfl
    · have h1 : ¬ (W.at n).owner = u := fun z => h1 (by rw [z])
      walk_at "x"
      refine N.rights CK fun rt hrt => ?_
      walk_at "x"
      refine N.group CK ?_
      walk_at "x"
      refine hh.fG CK ?_
      walk_at "x"
      have gu : atI (W.groups.map V.int) u = some (.int (W.groups.getD u.toNat 0)) := atI_ints u0 u1
      refine x_ixL (SqL.of hh.grp) gu ?_
      walk_at "x"
      refine x_ifd (fun h2 => ?_) (fun h2 => ?_)
      · walk_at "x"
        refine x_ixT (v := .int (W.at n).r1) (SqT.of hrt) (by rfl) ?_
        walk_at "x"
        refine ⟨?_, rfl⟩
        unfold mine
        rw [if_neg h1, if_pos (V.int.inj h2)]
        rfl
      · walk_at "x"
        refine x_ixT (v := .int (W.at n).r2) (SqT.of hrt) (by rfl) ?_
        walk_at "x"
        refine ⟨?_, rfl⟩
        unfold mine
        rw [if_neg h1, if_neg fun z => h2 (by rw [z])]
        rfl
  · rintro σ' H' ⟨rfl, rfl⟩
    walk_at "x"
    unfold mayOf at k
    rw [decide_eq_false h0, Bool.false_or] at k
    rw [dec_int]
    exact k
abbrev N_World_look_right : List Str := ["self", "user", "number", "right"]
theorem sc_World_look_right : FnScope N_World_look_right ["self", "user", "number", "right"] (defScope s_World_look_right) := ⟨rfl, rfl, rfl, by decide +kernel, rfl, by decide +kernel, by decide +kernel⟩
theorem ok_World_look_right {P : Program} {w : World} {K : PySem.W.Frag} {mg : Str → Option Value} {base : Heap} {f : Addr} {fd : FuncData} (F : FunD K "look_right" "World.look_right" (defArgs s_World_look_right) (defBody s_World_look_right) (defScope s_World_look_right) [] [] f fd)
    (F_World_may : Mt P w K mg base 1 (cHouse K) "may" ["self", "user", "number", "right"] [] (sp_may K)) (R_NoRight : Ri P w K mg base "NoRight" (He.ga K "NoRight") ["user", "number"])  : FnOk P w K mg base (L2.CX P w) 3 f fd ["self", "user", "number", "right"] (sp_look_right K) := by
  have nd := sc_World_look_right.nd
  refine F.ok (k := 2) sc_World_look_right (fun vs H Q E h => ?_) (fun cdv A outer s H vs Q E hr h => ?_)
  · obtain ⟨_, _, _, _, _, _, rfl, _⟩ := h
    rfl
  have hu := hu_of hr
  refine ⟨_, (pss_one (ps_if (pt_not (pt_val (pe_mtS F_World_may (pv 0) (hr.mono (by decide)) (passD rfl rfl rfl rfl) (pa_cons (pv 1) (pa_cons (pv 2) (pa_cons (pv 3) pa_nil)))))) (pss_one (ps_raise rfl (takes_of rfl rfl rfl rfl) (pmk_ini R_NoRight (hr.mono (by decide)) (by rfl) (pa_cons (pv 1) (pa_cons (pv 2) pa_nil)))))
      pss_nil)), ?_⟩
  obtain ⟨h, L, W, u, n, right, rfl, hh, u0, u1, hn, kY, kN⟩ := h
  walk_at "x"
  refine hh.ob ?_
  walk_at "x"
  refine ⟨h, L, W, u, n, right, rfl, hh, u0, u1, hn, ?_⟩
  walk_at "x"
  refine x_if (fun h1 => ?_) (fun h1 => ?_)
  · walk_at "x"
    refine x_mkO rfl (by simp) fun d H' hd e hx => ?_
    refine kN ?_ _ _ H' e ⟨rfl, d, rfl, hx⟩
    simpa using h1
  · walk_at "x"
    refine kY ?_
    simpa using h1
abbrev N_NoName___init__ : List Str := ["self", "name"]
theorem sc_NoName___init__ : FnScope N_NoName___init__ ["self", "name"] (defScope s_NoName___init__) := ⟨rfl, rfl, rfl, by decide +kernel, rfl, by decide +kernel, by decide +kernel⟩
theorem ok_NoName___init__ {P : Program} {w : World} {K : PySem.W.Frag} {mg : Str → Option Value} {base : Heap} {f : Addr} {fd : FuncData} (F : FunD K "__init__" "NoName.__init__" (defArgs s_NoName___init__) (defBody s_NoName___init__) (defScope s_NoName___init__) [] [] f fd)
     (TC : OexC K (He.ga K "NoName")) (n_name : PySem.W.findIn K (.ref (He.ga K "NoName")) "name" = some none) : FnOk P w K mg base (L2.CX P w) 1 f fd ["self", "name"] (sp_NoName K) := by
  have nd := sc_NoName___init__.nd
  refine F.ok (k := 0) sc_NoName___init__ (fun vs H Q E h => ?_) (fun cdv A outer s H vs Q E hr h => ?_)
  · obtain ⟨a, ys, rfl, hl, _⟩ := h
    rw [List.length_cons, hl]
    rfl
  have hu := hu_of hr
  refine ⟨_, (pss_one (ps_ost (pv 0) (pv 1))), ?_⟩
  obtain ⟨a, ys, rfl, hl, ha, k⟩ := h
  match ys, hl with
  | [u], _ =>
    walk_at "x"
    refine ⟨_, rfl, _, rfl, a, _, rfl, TC, n_name, .inl ⟨ha, fun dx hdx hne => ?_⟩⟩
    refine k dx _ hdx hne upd_same ?_ (fun b h1 h2 => ?_)
    · rw [upd_ne hne]
      exact upd_same
    · rw [upd_ne h1, upd_ne h2]
abbrev N_Stand___init__ : List Str := ["self", "number", "name", "under"]
theorem sc_Stand___init__ : FnScope N_Stand___init__ ["self", "number", "name", "under"] (defScope s_Stand___init__) := ⟨rfl, rfl, rfl, by decide +kernel, rfl, by decide +kernel, by decide +kernel⟩
theorem ok_Stand___init__ {P : Program} {w : World} {K : PySem.W.Frag} {mg : Str → Option Value} {base : Heap} {f : Addr} {fd : FuncData} (F : FunD K "__init__" "Stand.__init__" (defArgs s_Stand___init__) (defBody s_Stand___init__) (defScope s_Stand___init__) [] [] f fd)
    (CK : ClsK K)  : FnOk P w K mg base (L2.CX P w) 1 f fd ["self", "number", "name", "under"] (sp_Stand K) := by
  have nd := sc_Stand___init__.nd
  refine F.ok (k := 0) sc_Stand___init__ (fun vs H Q E h => ?_) (fun cdv A outer s H vs Q E hr h => ?_)
  · obtain ⟨_, _, _, rfl, _⟩ := h
    rfl
  have hu := hu_of hr
  refine ⟨_, (pss_cons (ps_fld (pv 0) (pv 1) rfl)
      (pss_cons (ps_fld (pv 0) (pv 2) rfl)
      (pss_one (ps_fld (pv 0) (pv 3) rfl)))), ?_⟩
  obtain ⟨x, dx, s, rfl, hx, k⟩ := h
  walk_at "x"
  refine x_fsetE [("number", .int s.number)] hx CK.s (CK.sf _ (by decide)) fun H1 h1 o1 => ?_
  walk_at "x"
  refine x_fsetE [("number", .int s.number), ("name", .str s.name)] h1 CK.s (CK.sf _ (by decide)) fun H2 h2 o2 => ?_
  walk_at "x"
  refine x_fsetE [("number", .int s.number), ("name", .str s.name), ("under", nV s.under)] h2 CK.s (CK.sf _ (by decide)) fun H3 h3 o3 => ?_
  exact k H3 h3 fun b hb => by rw [o3 b hb, o2 b hb, o1 b hb]
abbrev N_World_stand_at : List Str := ["self", "number", "name", "under"]
theorem sc_World_stand_at : FnScope N_World_stand_at ["self", "number", "name"] (defScope s_World_stand_at) := ⟨rfl, rfl, rfl, by decide +kernel, rfl, by decide +kernel, by decide +kernel⟩
theorem ok_World_stand_at {P : Program} {w : World} {K : PySem.W.Frag} {mg : Str → Option Value} {base : Heap} {f : Addr} {fd : FuncData} (F : FunD K "stand_at" "World.stand_at" (defArgs s_World_stand_at) (defBody s_World_stand_at) (defScope s_World_stand_at) [] [] f fd)
    (CK : ClsK K) (M_Stand : Mks P w K mg base 1 "Stand" (He.ga K "Stand") ["self", "number", "name", "under"] (sp_Stand K))  : FnOk P w K mg base (L2.CX P w) 3 f fd ["self", "number", "name"] (sp_stand_at K) := by
  have nd := sc_World_stand_at.nd
  refine F.ok (k := 2) sc_World_stand_at (fun vs H Q E h => ?_) (fun cdv A outer s H vs Q E hr h => ?_)
  · obtain ⟨_, _, _, _, _, rfl, _⟩ := h
    rfl
  have hu := hu_of hr
  refine ⟨_, (pss_cons (ps_set (i := 3) nd rfl (Or.inl rfl) pe_non)
      (pss_cons (ps_while (passes_of rfl) (pt_cmp (pc_din hu (pv 1) (pe_fld (pv 0) (by rfl))))
      (pss_cons (ps_set (i := 3) nd rfl (Or.inl rfl) (pv 1))
      (pss_one (ps_set (i := 1) nd rfl (Or.inl rfl) (pe_dget hu (pe_fld (pv 0) (by rfl)) (pv 1) (fun _ _ => rfl))))))
      (pss_one (ps_ret (pe_mkS M_Stand (hr.mono (by decide)) (by rfl) (passD rfl rfl rfl rfl) (pa_cons (pv 1) (pa_cons (pv 2) (pa_cons (pv 3) pa_nil)))))))), ?_⟩
  obtain ⟨h, L, W, n, name, rfl, hh, ok, k⟩ := h
  walk_at "x"
  refine x_while (fun m σ' H' => H' = H ∧ ∃ (i : Nat) (u : Option Nat), σ' = [some (.ref h), some (.int i), some (.str name), some (nV u)] ∧ overGo W.over m i u = overGo W.over W.over.length n none) W.over.length ⟨rfl, n, none, rfl, rfl⟩ ?_
  rintro m σ' H' ⟨rfl, i, u, rfl, hgo⟩
  walk_at "x"
  refine hh.fO CK ?_
  refine x_dinI hh.ovr ?_
  rw [valV_over]
  walk_at "x"
  refine x_wh (fun h1 => ?_) (fun h1 => ?_)
  · cases hl : look i W.over with
    | none =>
      rw [hl] at h1
      cases h1
    | some j =>
      cases m with
      | zero =>
        have z : look (overGo W.over 0 i u).1 W.over = none := by rw [hgo]; exact ok.end_ n
        have z : look i W.over = none := z
        rw [hl] at z
        cases z
      | succ m =>
        walk_at "x"
        refine hh.fO CK ?_
        walk_at "x"
        refine x_dgetI (v := .int j) hh.ovr (by rw [valV_over, hl]; rfl) ?_
        walk_at "x"
        refine ⟨m, Nat.lt_succ_self _, rfl, j, some i, rfl, ?_⟩
        rw [← hgo]
        conv => rhs; unfold overGo
        rw [hl]
  · have hl : look i W.over = none := by
      cases hl : look i W.over with
      | none => rfl
      | some j =>
        rw [hl] at h1
        cases h1
    have e : overGo W.over m i u = (i, u) := by
      cases m with
      | zero => rfl
      | succ m =>
        unfold overGo
        rw [hl]
    walk_at "x"
    have es : standOf W n name = ⟨i, name, u⟩ := by
      unfold standOf
      rw [← hgo, e]
    rw [es] at k
    exact mk_stand (s := ⟨i, name, u⟩) rfl fun x H1 hx e1 hs => k x H1 hx e1 hs
abbrev N_is_name : List Str := ["thing", "sign"]
theorem sc_is_name : FnScope N_is_name ["thing"] (defScope s_is_name) := ⟨rfl, rfl, rfl, by decide +kernel, rfl, by decide +kernel, by decide +kernel⟩
theorem ok_is_name {P : Program} {w : World} {K : PySem.W.Frag} {mg : Str → Option Value} {base : Heap} {f : Addr} {fd : FuncData} (F : FunD K "is_name" "is_name" (defArgs s_is_name) (defBody s_is_name) (defScope s_is_name) [] [] f fd)
    (b_isinstance : mg "isinstance" = none) (b_str : mg "str" = none) (b_len : mg "len" = none) (c_MOST_NAME : ∃ t, mg "MOST_NAME" = some (.int 8 t)) (b_all : mg "all" = none) (c_SIGNS : ∃ t, mg "SIGNS" = some (.str "abcdefghijklmnopqrstuvwxyz0123456789" t))  : FnOk P w K mg base (L2.CX P w) 1 f fd ["thing"] (sp_is_name K) := by
  have nd := sc_is_name.nd
  refine F.ok (k := 0) sc_is_name (fun vs H Q E h => ?_) (fun cdv A outer s H vs Q E hr h => ?_)
  · obtain ⟨_, rfl, _⟩ := h
    rfl
  have hu := hu_of hr
  refine ⟨_, (pss_mid (ps_if (PW.pt (pw_or (pt_not (pt_val (pe_callB call_isi (by rfl) b_isinstance (by decide +kernel) (pa_cons (pv 0) (pa_cons (pe_ty (n := "str") b_str (by decide +kernel) (by rfl)) pa_nil))))) (pw_or1 (pt_not (pt_chain op_le op_le pe_int (pe_callB call_lenT (by rfl) b_len (by decide +kernel) (pa_cons (pv 0) pa_nil)) (pe_gint c_MOST_NAME (by rfl))))))) (pss_one (ps_ret pe_bl))
      pss_nil)
      (pss_one (ps_ret (pe_callB (cr_all rfl) (by rfl) b_all (by decide +kernel) (pa_cons (pe_lc (own := [("sign", 1)]) (g := (gName 1)) (by rfl) nd (pi_str (pv 0)) (blkOk_by (own := [("sign", 1)]) (N := N_is_name) (sc := defScope s_is_name) (by decide +kernel)) (fun _ _ _ _ _ => (pg_name (i := 1) nd rfl (Or.inl rfl))) (fun _ _ _ _ _ => pts_nil) (fun _ _ _ _ _ => (pe_cmpR op_sgn (pv 1) (pe_gstr c_SIGNS (by rfl)) rfl))) pa_nil))))), ?_⟩
  obtain ⟨v, rfl, ⟨s, rfl, hz, k⟩ | ⟨⟨tv, ht, hk⟩, k⟩⟩ := h
  · walk_at "if"
    refine x_isi (b := true) (.ty _) (.base (.str s)) (kit_ty (by decide +kernel)) ?_
    walk_at "x"
    refine iteF ?_
    walk_at "x"
    refine x_lenT hz ?_
    walk_at "x"
    have no : isName s = false → Q (.bl false) H := fun e => by
      have := k H Ex.rfl
      rw [e] at this
      exact this
    refine x_ifd (fun h1 => ?_) (fun h1 => ?_)
    · walk_at "x"
      refine x_ifn (fun h2 => ?_) (fun h2 => ?_)
      · walk_at "x"
        refine no ?_
        unfold isName
        rw [decide_eq_false (show ¬ s.length ≤ 8 by omega), Bool.false_and, Bool.and_false]
      · walk_at "x"
        refine x_lcSV ⟨fun _ => rfl, ?_, fun _ => true, fun v => match v with | .str a => .bl (match (cs a)[0]? with | some c => decide (c ∈ cs signs) | none => true) | _ => .non, fun x hx H' e R k => k H' Ex.rfl, fun x hx _ H' e R k => ?_, fun D H' hD e hl => ?_⟩
        · rw [List.length_map, ← len_cs]
          omega
        · obtain ⟨c, hc, rfl⟩ := List.mem_map.mp hx
          walk_at "x"
          exact k H' Ex.rfl
        · walk_at "x"
          refine x_all (bs := (cs s).map fun c => decide (c ∈ cs signs)) (.inl (.inl ?_)) ?_
          · rw [hl]
            congr 2
            rw [List.filter_eq_self.mpr (fun _ _ => rfl), List.map_map, List.map_map]
            rfl
          · have e2 : ((cs s).map fun c => decide (c ∈ cs signs)).all id = isName s := by
              unfold isName
              rw [decide_eq_true (show 1 ≤ s.length by omega), decide_eq_true (show s.length ≤ 8 by omega), Bool.true_and, Bool.true_and, List.all_map]
              rfl
            rw [e2]
            exact k H' e
    · walk_at "x"
      refine iteT ?_
      walk_at "x"
      refine no ?_
      unfold isName
      rw [decide_eq_false (show ¬ 1 ≤ s.length by omega), Bool.false_and]
  · walk_at "if"
    refine x_isi (.ty _) ht hk ?_
    walk_at "x"
    refine iteT ?_
    refine iteT ?_
    walk_at "x"
    exact k H Ex.rfl
abbrev N_is_part : List Str := ["thing"]
theorem sc_is_part : FnScope N_is_part ["thing"] (defScope s_is_part) := ⟨rfl, rfl, rfl, by decide +kernel, rfl, by decide +kernel, by decide +kernel⟩
theorem ok_is_part {P : Program} {w : World} {K : PySem.W.Frag} {mg : Str → Option Value} {base : Heap} {f : Addr} {fd : FuncData} (F : FunD K "is_part" "is_part" (defArgs s_is_part) (defBody s_is_part) (defScope s_is_part) [] [] f fd)
    (c_ABOVE : ∃ t, mg "ABOVE" = some (.str ".." t)) (c_HERE : ∃ t, mg "HERE" = some (.str "." t)) (F_is_name : Fn P w K mg base 1 "is_name" ["thing"] (sp_is_name K))  : FnOk P w K mg base (L2.CX P w) 2 f fd ["thing"] (sp_is_part K) := by
  have nd := sc_is_part.nd
  refine F.ok (k := 1) sc_is_part (fun vs H Q E h => ?_) (fun cdv A outer s H vs Q E hr h => ?_)
  · obtain ⟨_, rfl, _⟩ := h
    rfl
  have hu := hu_of hr
  refine ⟨_, (pss_one (ps_ret (pe_or (pe_cmpR (op_inX hr.units) (pv 0) (pe_tup (pa_cons (pe_gstr c_HERE (by rfl)) (pa_cons (pe_gstr c_ABOVE (by rfl)) pa_nil))) (by rfl)) (pe_one (pe_fn F_is_name (hr.mono (by decide)) (by rfl) (passD rfl rfl rfl rfl) (pa_cons (pv 0) pa_nil)))))), ?_⟩
  obtain ⟨v, rfl, ⟨s, rfl, hz⟩ | ⟨ht, hf, hi⟩ | ⟨l, xs, rfl, hl⟩, k⟩ := h
  · walk_at "x"
    refine ⟨by show 2 ≤ sizeLine; decide, fun p hp => ?_⟩
    refine x_inX0 (x_inT (SqT.of upd_same) rfl rfl ?_)
    walk_at "x"
    have k : ∀ H', Ex H H' → Q (.bl (isPart s)) H' := k
    have e : inV (.str s) [.str ".", .str ".."] = (decide (s = ".") || decide (s = "..")) := by
      show (decide (("." : Str) = s) || (decide ((".." : Str) = s) || false)) = _
      rw [Bool.or_false, decide_eq_decide.mpr (eq_comm (a := ("." : Str)) (b := s)), decide_eq_decide.mpr (eq_comm (a := (".." : Str)) (b := s))]
    rw [e]
    refine x_if (fun h1 => ?_) (fun h1 => ?_)
    · have e2 : isPart s = true := by
        unfold isPart
        rw [← Bool.or_assoc, h1, Bool.true_or]
      have := k _ (Ex.new (o := .tup [.str ".", .str ".."]) hp)
      rw [e2] at this
      exact this
    · walk_at "x"
      refine ⟨.str s, rfl, .inl ⟨s, rfl, hz, fun H' e1 => ?_⟩⟩
      have e2 : isPart s = isName s := by
        unfold isPart
        rw [← Bool.or_assoc, h1, Bool.false_or]
      rw [← e2]
      exact k H' ((Ex.new hp).tr e1)
  · walk_at "x"
    refine ⟨by show 2 ≤ sizeLine; decide, fun p hp => ?_⟩
    refine x_inX0 (x_inT (SqT.of upd_same) hf rfl ?_)
    rw [hi]
    walk_at "x"
    refine iteF ?_
    walk_at "x"
    refine ⟨v, rfl, .inr ⟨ht.ex (Ex.new hp), fun H' e1 => ?_⟩⟩
    have e2 : partV v = false := by
      cases v with
      | str s =>
        obtain ⟨tv, h1, h2⟩ := ht
        cases h1 with
        | base h1 =>
          cases h1
          have h3 : PySem.W.kitOne K (.type "str") (.type "str") = some true := kit_ty (by decide +kernel)
          rw [h3] at h2
          cases h2
      | _ => rfl
    have := k H' ((Ex.new hp).tr e1)
    rw [e2] at this
    exact this
  · walk_at "x"
    refine ⟨by show 2 ≤ sizeLine; decide, fun p hp => ?_⟩
    refine x_inX (ys := [".", ".."]) (SqL.of ((Ex.new hp) _ _ hl)) (SqT.of upd_same) ?_
    walk_at "x"
    refine iteF ?_
    walk_at "x"
    refine ⟨_, rfl, .inr ⟨⟨_, .base (.lst ((Ex.new hp) _ _ hl)), kit_ty (by decide +kernel)⟩, fun H' e1 => ?_⟩⟩
    exact k H' ((Ex.new hp).tr e1)
abbrev N_parts_of : List Str := ["path", "from_top", "rest", "parts", "part"]
theorem sc_parts_of : FnScope N_parts_of ["path", "from_top"] (defScope s_parts_of) := ⟨rfl, rfl, rfl, by decide +kernel, rfl, by decide +kernel, by decide +kernel⟩
theorem ok_parts_of {P : Program} {w : World} {K : PySem.W.Frag} {mg : Str → Option Value} {base : Heap} {f : Addr} {fd : FuncData} (F : FunD K "parts_of" "parts_of" (defArgs s_parts_of) (defBody s_parts_of) (defScope s_parts_of) [.bl true] [] f fd)
    (b_isinstance : mg "isinstance" = none) (b_str : mg "str" = none) (R_BadPath : Rz K mg "BadPath" (He.ga K "BadPath")) (b_len : mg "len" = none) (c_MOST_PARTS : ∃ t, mg "MOST_PARTS" = some (.int 12 t)) (b_all : mg "all" = none) (F_is_part : Fn P w K mg base 2 "is_part" ["thing"] (sp_is_part K))  : FnOk P w K mg base (L2.CX P w) 3 f fd ["path", "from_top"] (sp_parts_of K) := by
  have nd := sc_parts_of.nd
  refine F.ok (k := 2) sc_parts_of (fun vs H Q E h => ?_) (fun cdv A outer s H vs Q E hr h => ?_)
  · obtain ⟨_, _, rfl, _⟩ := h
    rfl
  have hu := hu_of hr
  refine ⟨_, (pss_mid (ps_if (pt_not (pt_val (pe_callB call_isi (by rfl) b_isinstance (by decide +kernel) (pa_cons (pv 0) (pa_cons (pe_ty (n := "str") b_str (by decide +kernel) (by rfl)) pa_nil))))) (pss_one (ps_raise rfl (takes_of rfl rfl rfl rfl) (pmk_txt R_BadPath (by rfl))))
      pss_nil)
      (pss_mid (ps_if (PW.pt (pw_and (pt_val (pv 1)) (pw_and1 (pt_cmpR op_ne (pe_slice C8.sl_txt (pv 0) po_none (po_some pe_int)) pe_str (nomark _))))) (pss_one (ps_raise rfl (takes_of rfl rfl rfl rfl) (pmk_txt R_BadPath (by rfl))))
      pss_nil)
      (pss_mid (ps_set (i := 2) nd rfl (Or.inl rfl) (pe_ifExp (pt_cmpR op_eq (pe_slice C8.sl_txt (pv 0) po_none (po_some pe_int)) pe_str (nomark _)) (pe_slice C8.sl_txt (pv 0) (po_some pe_int) po_none) (pv 0)))
      (pss_mid (ps_if (PW.pt (pw_and (pt_cmpR op_eq (pv 2) pe_str (nomark _)) (pw_and1 (pt_cmpR op_eq (pv 0) pe_str (nomark _))))) (pss_one (ps_ret (pe_lst pa_nil)))
      pss_nil)
      (pss_cons (ps_set (i := 3) nd rfl (Or.inl rfl) (pe_split (pv 2) pe_str))
      (pss_mid (ps_if (PW.pt (pw_or (pt_cmpR op_gt (pe_callB call_lenQ (by rfl) b_len (by decide +kernel) (pa_cons (pv 3) pa_nil)) (pe_gint c_MOST_PARTS (by rfl)) (nomark _)) (pw_or1 (pt_not (pt_val (pe_callB (cr_all rfl) (by rfl) b_all (by decide +kernel) (pa_cons (pe_lc (own := [("part", 4)]) (g := (gName 4)) (by rfl) nd (pi_list (pv 3)) (blkOk_by (own := [("part", 4)]) (N := N_parts_of) (sc := defScope s_parts_of) (by decide +kernel)) (fun _ _ _ _ _ => (pg_name (i := 4) nd rfl (Or.inl rfl))) (fun _ _ _ _ _ => pts_nil) (fun _ _ _ _ _ => (pe_fn F_is_part (hr.mono (by decide)) (by rfl) (passC rfl) (pa_cons (pv 4) pa_nil)))) pa_nil))))))) (pss_one (ps_raise rfl (takes_of rfl rfl rfl rfl) (pmk_txt R_BadPath (by rfl))))
      pss_nil)
      (pss_one (ps_ret (pv 3))))))))), ?_⟩
  obtain ⟨v, b, rfl, ⟨s, rfl, hz, kS, kN⟩ | ⟨⟨tv, ht, hk⟩, k⟩⟩ := h
  · walk_at "if"
    refine x_isi (b := true) (.ty _) (.base (.str s)) (kit_ty (by decide +kernel)) ?_
    walk_at "x"
    refine iteF ?_
    walk_at "x"
    have hz1 : s.length ≤ sizeLine := by omega
    refine x_cut (¬ (b = true ∧ ¬ Txt.slice s none (some 1) = sl)) ?_ (fun h0 => ?_)
    · walk_at "x"
      refine x_if (fun h1 => ?_) (fun h1 => ?_)
      · walk_at "x"
        refine x_slS hz1 ?_
        walk_at "x"
        refine x_ifn (fun h2 => ?_) (fun h2 => ?_)
        · refine kN ?_ H Ex.rfl
          unfold partsOf
          rw [if_pos ⟨h1, fun z => h2 (by rw [z])⟩]
        · walk_at "x"
          exact ⟨rfl, rfl, fun z => z.2 (V.str.inj h2)⟩
      · refine iteF ?_
        walk_at "x"
        exact ⟨rfl, rfl, fun z => by rw [h1] at z; cases z.1⟩
    · have z0 : partsOf b s = if restOf s = "" ∧ s = sl then some [] else if goodParts (Txt.split (restOf s) sl) = true then some (Txt.split (restOf s) sl) else none := by
        unfold partsOf
        rw [if_neg h0]
      have hr1 := restOf_len s
      refine x_cutM (fun σ' H' => σ' = [some (.str s), some (.bl b), some (.str (restOf s)), none, none] ∧ H' = H) ?_ ?_
      · walk_at "x"
        refine x_slS hz1 ?_
        walk_at "x"
        refine x_ifd (fun h1 => ?_) (fun h1 => ?_)
        · walk_at "x"
          refine x_slS hz1 ?_
          walk_at "x"
          refine ⟨?_, rfl⟩
          unfold restOf
          rw [if_pos (V.str.inj h1)]
          rfl
        · walk_at "x"
          refine ⟨?_, rfl⟩
          unfold restOf
          rw [if_neg fun z => h1 (by rw [z])]
          rfl
      rintro σ' H' ⟨rfl, rfl⟩
      refine x_cut (¬ (restOf s = "" ∧ s = sl)) ?_ (fun h1 => ?_)
      · walk_at "x"
        refine x_ifd (fun h1 => ?_) (fun h1 => ?_)
        · walk_at "x"
          refine x_ifd (fun h2 => ?_) (fun h2 => ?_)
          · walk_at "x"
            refine ⟨Nat.zero_le _, fun p hp => ?_⟩
            exact kS [] (by rw [z0, if_pos ⟨V.str.inj h1, V.str.inj h2⟩]) p _ hp (Ex.new hp) upd_same
          · walk_at "x"
            exact ⟨rfl, rfl, fun z => h2 (by rw [z.2])⟩
        · walk_at "x"
          exact ⟨rfl, rfl, fun z => h1 (by rw [z.1])⟩
      rw [if_neg h1] at z0
      walk_at "x"
      refine ⟨_, _, rfl, rfl, by decide +kernel, by omega, fun p hp => ?_⟩
      walk_at "x"
      have e1 : Ex H' (upd H' p (.lst ((Txt.split (restOf s) sl).map V.str))) := Ex.new hp
      have l1 : (upd H' p (.lst ((Txt.split (restOf s) sl).map V.str))) p = some (.lst ((Txt.split (restOf s) sl).map V.str)) := upd_same
      generalize hG : upd H' p (.lst ((Txt.split (restOf s) sl).map V.str)) = H1 at e1 l1
      refine x_cutE (fun _ => goodParts (Txt.split (restOf s) sl) = true) ?_ (fun H2 e2 h2 => ?_)
      · walk_at "x"
        refine x_lenL (SqL.of l1) ?_
        walk_at "x"
        refine x_ifd (fun h2 => ?_) (fun h2 => ?_)
        · refine iteT ?_
          refine kN ?_ H1 e1
          rw [z0, if_neg fun z => ?_]
          have := (good_all z).1
          rw [List.length_map] at h2
          omega
        · walk_at "x"
          have l12 : (Txt.split (restOf s) sl).length ≤ 12 := by
            rw [List.length_map] at h2
            omega
          refine x_lcLV (SqL.of l1) ⟨fun _ => rfl, by rw [List.length_map]; omega, fun _ => true, fun v => .bl (partV v), fun x hx H' e R k => k H' Ex.rfl, fun x hx _ H' e R k => ?_, fun D H' hD e hl => ?_⟩
          · obtain ⟨c, hc, rfl⟩ := List.mem_map.mp hx
            walk_at "x"
            have := split_small _ hc
            exact ⟨_, rfl, .inl ⟨c, rfl, by omega⟩, fun H' e => k H' e⟩
          · walk_at "x"
            refine x_all (bs := (Txt.split (restOf s) sl).map isPart) (.inl (.inl ?_)) ?_
            · rw [hl]
              congr 2
              rw [List.filter_eq_self.mpr (fun _ _ => rfl), List.map_map, List.map_map]
              rfl
            · walk_at "x"
              rw [List.all_map]
              refine x_if (fun h3 => ?_) (fun h3 => ?_)
              · refine kN ?_ H' (e1.tr e)
                rw [z0, if_neg fun z => ?_]
                have h4 : (!(Txt.split (restOf s) sl).all isPart) = true := h3
                rw [List.all_eq_true.mpr (good_all z).2] at h4
                cases h4
              · walk_at "x"
                refine ⟨rfl, e, good_of l12 ?_⟩
                have h4 : (!(Txt.split (restOf s) sl).all isPart) = false := h3
                rw [Bool.not_eq_false'] at h4
                exact List.all_eq_true.mp h4
      · walk_at "x"
        exact kS _ (by rw [z0, if_pos h2]) p H2 hp (e1.tr e2) (e2 _ _ l1)
  · walk_at "if"
    refine x_isi (.ty _) ht hk ?_
    walk_at "x"
    refine iteT ?_
    exact k H Ex.rfl
def wayInv (K : PySem.W.Frag) (H : Hp) (h : Addr) (W : Wd) (u : Int) (s : Str) (follow : Bool) (R : WayR) (m : Nat) (σ' : L2.St) (H' : Hp) : Prop := ∃ (sp rp : Addr) (ss : List Std) (rest : List Str) (hints : Nat) (x7 x8 x9 x10 : Option V), σ' = [some (.ref h), some (.int u), some (.str s), some (.bl follow), some (.ref sp), some (.ref rp), some (.int hints), x7, x8, x9, x10] ∧ Ex H H' ∧ StandsAt K H' sp ss ∧ H sp = none ∧
      H' rp = some (.lst (rest.map V.str)) ∧ ss ≠ [] ∧ (∀ z ∈ ss, z.number < W.nodes.length) ∧ (∀ z ∈ rest, isPart z = true) ∧ rest.length + 12 * (8 - hints) ≤ 108 ∧ ss.length + m ≤ 201 ∧ wayGo W u follow m ss rest hints = R
abbrev N_World_way : List Str := ["self", "user", "path", "follow", "stands", "rest", "hints", "part", "here", "number", "node"]
theorem sc_World_way : FnScope N_World_way ["self", "user", "path", "follow"] (defScope s_World_way) := ⟨rfl, rfl, rfl, by decide +kernel, rfl, by decide +kernel, by decide +kernel⟩
theorem ok_World_way {P : Program} {w : World} {K : PySem.W.Frag} {mg : Str → Option Value} {base : Heap} {f : Addr} {fd : FuncData} (F : FunD K "way" "World.way" (defArgs s_World_way) (defBody s_World_way) (defScope s_World_way) [.bl true] [] f fd)
    (M_Stand : Mks P w K mg base 1 "Stand" (He.ga K "Stand") ["self", "number", "name", "under"] (sp_Stand K)) (F_parts_ofD : FnD P w K mg base 3 "parts_of" ["path", "from_top"] [.bl true] (sp_parts_of K)) (CK : ClsK K) (c_PASS : ∃ t, mg "PASS" = some (.int 1 t)) (F_World_look_right : Mt P w K mg base 3 (cHouse K) "look_right" ["self", "user", "number", "right"] [] (sp_look_right K)) (c_ABOVE : ∃ t, mg "ABOVE" = some (.str ".." t)) (b_max : mg "max" = none) (b_len : mg "len" = none) (c_HERE : ∃ t, mg "HERE" = some (.str "." t)) (R_NoName : Ri P w K mg base "NoName" (He.ga K "NoName") ["name"]) (c_MOST_HINTS : ∃ t, mg "MOST_HINTS" = some (.int 8 t)) (R_TooDeep : Rz K mg "TooDeep" (He.ga K "TooDeep")) (F_parts_ofK : FnK P w K mg base 3 "parts_of" ["path", "from_top"] 1 ["from_top"] (sp_parts_of K)) (F_World_stand_at : Mt P w K mg base 3 (cHouse K) "stand_at" ["self", "number", "name"] [] (sp_stand_at K)) (R_NotRoom : Rz K mg "NotRoom" (He.ga K "NotRoom"))  : FnOk P w K mg base (L2.CX P w) 4 f fd ["self", "user", "path", "follow"] (sp_way K) := by
  have nd := sc_World_way.nd
  refine F.ok (k := 3) sc_World_way (fun vs H Q E h => ?_) (fun cdv A outer s H vs Q E hr h => ?_)
  · obtain ⟨_, _, _, _, _, _, rfl, _⟩ := h
    rfl
  have hu := hu_of hr
  refine ⟨_, (pss_cons (ps_set (i := 4) nd rfl (Or.inl rfl) (pe_lst (pa_cons (pe_mkS M_Stand (hr.mono (by decide)) (by rfl) (passD rfl rfl rfl rfl) (pa_cons pe_int (pa_cons pe_str (pa_cons pe_non pa_nil)))) pa_nil)))
      (pss_cons (ps_set (i := 5) nd rfl (Or.inl rfl) (pe_fnD F_parts_ofD (hr.mono (by decide)) (by rfl) (passD rfl rfl rfl rfl) (pa_cons (pv 2) pa_nil)))
      (pss_cons (ps_set (i := 6) nd rfl (Or.inl rfl) pe_int)
      (pss_cons (ps_while (passes_of rfl) (pt_cmpR (op_neD hr.units) (pv 5) (pe_lst pa_nil) (nomark _))
      (pss_cons (ps_set (i := 7) nd rfl (Or.inl rfl) (pe_ix ix_list (pv 5) pe_int (fun _ _ => rfl)))
      (pss_cons (ps_set (i := 5) nd rfl (Or.inl rfl) (pe_slice sl_list (pv 5) (po_some pe_int) po_none))
      (pss_cons (ps_set (i := 8) nd rfl (Or.inl rfl) (pe_fld (pe_ix ix_list (pv 4) (pe_un un_neg pe_int) (fun _ _ => rfl)) (by rfl)))
      (pss_cons (ps_expr (pe_mtS F_World_look_right (pv 0) (hr.mono (by decide)) (passD rfl rfl rfl rfl) (pa_cons (pv 1) (pa_cons (pv 8) (pa_cons (pe_gint c_PASS (by rfl)) pa_nil)))))
      (pss_one (ps_if (pt_cmpR op_eq (pv 7) (pe_gstr c_ABOVE (by rfl)) (nomark _)) (pss_one (ps_set (i := 4) nd rfl (Or.inl rfl) (pe_slice sl_list (pv 4) po_none (po_some (pe_callB (call_max2 rfl) (by rfl) b_max (by decide +kernel) (pa_cons pe_int (pa_cons (pe_op op_sub (pe_callB call_lenQ (by rfl) b_len (by decide +kernel) (pa_cons (pv 4) pa_nil)) pe_int) pa_nil)))))))
      (pss_one (ps_if (pt_cmpR op_ne (pv 7) (pe_gstr c_HERE (by rfl)) (nomark _)) (pss_mid (ps_if (pt_cmp (pc_dnotin hu (pv 7) (pe_fld (pe_dget hu (pe_fld (pv 0) (by rfl)) (pv 8) (fun _ _ => rfl)) (by rfl)))) (pss_one (ps_raise rfl (takes_of rfl rfl rfl rfl) (pmk_ini R_NoName (hr.mono (by decide)) (by rfl) (pa_cons (pv 7) pa_nil))))
      pss_nil)
      (pss_cons (ps_set (i := 9) nd rfl (Or.inl rfl) (pe_dget hu (pe_fld (pe_dget hu (pe_fld (pv 0) (by rfl)) (pv 8) (fun _ _ => rfl)) (by rfl)) (pv 7) (fun _ _ => rfl)))
      (pss_cons (ps_set (i := 10) nd rfl (Or.inl rfl) (pe_dget hu (pe_fld (pv 0) (by rfl)) (pv 9) (fun _ _ => rfl)))
      (pss_one (ps_if (PW.pt (pw_and (pt_cmpR op_eq (pe_fld (pv 10) (by rfl)) pe_str (nomark _)) (pw_and1 (PW.pt (pw_or (pt_cmpR (op_neD hr.units) (pv 5) (pe_lst pa_nil) (nomark _)) (pw_or1 (pt_val (pv 3)))))))) (pss_cons (ps_set (i := 6) nd rfl (Or.inl rfl) (pe_op op_add (pv 6) pe_int))
      (pss_mid (ps_if (pt_cmpR op_gt (pv 6) (pe_gint c_MOST_HINTS (by rfl)) (nomark _)) (pss_one (ps_raise rfl (takes_of rfl rfl rfl rfl) (pmk_txt R_TooDeep (by rfl))))
      pss_nil)
      (pss_cons (ps_set (i := 5) nd rfl (Or.inl rfl) (pe_op op_cat (pe_fnK F_parts_ofK (hr.mono (by decide)) (by rfl) (passD rfl rfl rfl rfl) (pa_cons (pe_fld (pv 10) (by rfl)) pa_nil) (pk_cons pe_bl pk_nil)) (pv 5)))
      (pss_one (ps_set (i := 4) nd rfl (Or.inl rfl) (pe_ifExp (pt_cmpR op_eq (pe_slice C8.sl_txt (pe_fld (pv 10) (by rfl)) po_none (po_some pe_int)) pe_str (nomark _)) (pe_slice sl_list (pv 4) po_none (po_some pe_int)) (pv 4)))))))
      (pss_one (ps_if (pt_cmpR op_eq (pe_fld (pv 10) (by rfl)) pe_str (nomark _)) (pss_one (ps_expr (pe_bm PySem.F.plainAttrs_list PySem.F.slot_list_append PySem.F.type_list_append mt_append (pv 4) (pa_cons (pe_mtS F_World_stand_at (pv 0) (hr.mono (by decide)) (passD rfl rfl rfl rfl) (pa_cons (pv 9) (pa_cons (pv 7) pa_nil))) pa_nil))))
      (pss_one (ps_if (pt_cmpR (op_neD hr.units) (pv 5) (pe_lst pa_nil) (nomark _)) (pss_one (ps_raise rfl (takes_of rfl rfl rfl rfl) (pmk_txt R_NotRoom (by rfl))))
      (pss_one (ps_ret (pe_tup (pa_cons (pv 4) (pa_cons (pv 9) pa_nil))))))))))))))
      pss_nil)))))))))
      (pss_one (ps_ret (pe_tup (pa_cons (pv 4) (pa_cons pe_non pa_nil))))))))), ?_⟩
  obtain ⟨h, L, W, u, v, follow, rfl, hh, ok, u0, u1, hv, kN, kS⟩ := h
  walk_at "x"
  refine mk_stand (s := std0) rfl fun s0 H1 hs0 e1 st0 => ?_
  walk_at "x"
  refine x_newL fun sp0 H2 hsp e2 h2 => ?_
  walk_at "x"
  have e12 := e1.tr e2
  rcases hv with ⟨s, rfl, hz⟩ | hv
  · refine ⟨_, _, rfl, .inl ⟨s, rfl, hz, fun ps hps rp0 H3 hrp e3 h3 => ?_, fun hn H3 e3 => kN (fun s' ps' e z => by cases e; rw [hn] at z; cases z) H3 (e12.tr e3)⟩⟩
    obtain ⟨kE, kO⟩ := kS s ps rfl hps
    walk_at "x"
    have hR : wayOf W u follow ps ≠ .stuck := wayGo_ne _ _ _ _ (by have := parts_len hps; omega)
    generalize hRe : wayOf W u follow ps = R at kE kO hR
    have ng : ¬ H2 sp0 = none := by rw [h2]; exact fun z => nomatch z
    have nsr : rp0 ≠ sp0 := fun z => by rw [z, h2] at hrp; cases hrp
    refine x_while (wayInv K H h W u s follow R) 200
      ⟨sp0, rp0, [std0], ps, 0, none, none, none, none, rfl, e12.tr e3, ⟨[s0], e3 _ _ h2, .cons ((st0.up e2).up e3) .nil⟩, ?_, h3, by simp, ?_, parts_all hps, by have := parts_len hps; omega, by simp, hRe⟩ ?_
    · cases q : H sp0 with
      | none => rfl
      | some o =>
        have := e1 _ _ q
        rw [hsp] at this
        cases this
    · intro z hz
      rw [List.mem_singleton.mp hz]
      exact ok.one
    rintro m σ' H4 ⟨sp, rp, ss, rest, hints, x7, x8, x9, x10, rfl, e4, sts, hsp4, hrp4, ssn, snum, rpt, rlen, slen, hgo⟩
    have hh4 := hh.up e4
    walk_at "x"
    refine x_newL fun l0 H5 hl0 e5 h5 => ?_
    refine ⟨_, _, .lst (SqL.of (e5 _ _ hrp4)) (dp_strs rest), .lst (SqL.of h5) (dp_strs []), shaped_strs (fun z hz => part_ok (rpt z hz)), rfl, ?_⟩
    rw [eqv_list_strs]
    walk_at "x"
    have hh5 := hh4.up e5
    have sts5 := sts.up e5
    refine x_wh (fun hb => ?_) (fun hb => ?_)
    · cases rest with
      | nil => cases hb
      | cons part rest =>
        cases m with
        | zero => exact (hR (by rw [← hgo]; rfl)).elim
        | succ m =>
          walk_at "x"
          refine x_ixL (v := .str part) (SqL.of (e5 _ _ hrp4)) atI_zero ?_
          walk_at "x"
          refine x_slE (SqL.of (e5 _ _ hrp4)) fun rq H6 hrq e6 h6 => ?_
          rw [cut_from (by decide)] at h6
          replace h6 : H6 rq = some (.lst (rest.map V.str)) := h6
          have sts6 := sts5.up e6
          have hh6 := hh5.up e6
          obtain ⟨as, la, hsp6, asl, hat, hla⟩ := sts6.last ssn
          obtain ⟨as0, sts_lst, _⟩ := sts
          walk_at "x"
          refine x_ixL (SqL.of hsp6) hat ?_
          walk_at "x"
          refine hla.num CK ?_
          walk_at "x"
          refine hh6.ob ?_
          have hl6 : (last ss).number < W.nodes.length := by
            refine snum _ ?_
            unfold last
            rw [List.getLastD_eq_getLast?, List.getLast?_eq_some_getLast ssn]
            exact List.getLast_mem ssn
          have E6 : Ex H H6 := (e4.tr e5).tr e6
          walk_at "x"
          refine ⟨h, L, W, u, (last ss).number, 1, rfl, hh6, u0, u1, hl6, fun hm => ?_, fun hm cls d H7 e7 ha => ?_⟩
          · have go := hgo
            unfold wayGo at go
            rw [if_neg (by rw [hm]; decide)] at go
            rw [List.length_cons] at rlen
            have rpt' : ∀ z ∈ rest, isPart z = true := fun z hz => rpt z (List.mem_cons_of_mem _ hz)
            have fin : ∀ (σ' : L2.St) (H' : Hp) (sp' rp' : Addr) (ss' : List Std) (rest' : List Str) (hints' : Nat) (x7 x8 x9 x10 : Option V), σ' = [some (.ref h), some (.int u), some (.str s), some (.bl follow), some (.ref sp'), some (.ref rp'), some (.int hints'), x7, x8, x9, x10] → Ex H H' → StandsAt K H' sp' ss' → H sp' = none →
                H' rp' = some (.lst (rest'.map V.str)) → ss' ≠ [] → (∀ z ∈ ss', z.number < W.nodes.length) → (∀ z ∈ rest', isPart z = true) → rest'.length + 12 * (8 - hints') ≤ 108 → ss'.length ≤ ss.length + 1 → wayGo W u follow m ss' rest' hints' = R →
                ∃ m', m' < m + 1 ∧ wayInv K H h W u s follow R m' σ' H' :=
              fun σ' H' sp' rp' ss' rest' hints' x7 x8 x9 x10 a1 a2 a3 a4 a5 a6 a7 a8 a9 a10 a11 => ⟨m, Nat.lt_succ_self _, sp', rp', ss', rest', hints', x7, x8, x9, x10, a1, a2, a3, a4, a5, a6, a7, a8, a9, by omega, a11⟩
            have back : ∀ {q : Addr} {H' : Hp}, Ex H H' → H' q = none → H q = none := fun {q H'} e z => by
              cases y : H q with
              | none => rfl
              | some o => rw [e _ _ y] at z; cases z
            have tkn : ∀ n, 0 < n → ss.take n ≠ [] := fun n hn z => by
              have := congrArg List.length z
              rw [List.length_take, List.length_nil] at this
              have := List.length_pos_iff.mpr ssn
              omega
            walk_at "x"
            refine x_ifd (fun h1 => ?_) (fun h1 => ?_)
            · have h1 : part = ".." := V.str.inj h1
              rw [if_pos h1] at go
              walk_at "x"
              refine x_lenL (SqL.of hsp6) ?_
              walk_at "x"
              refine ⟨_, _, rfl, ?_⟩
              walk_at "x"
              refine x_slE (SqL.of hsp6) fun sq H7 hsq e7 h7 => ?_
              have mx : (if ((as.map V.ref).length : Int) - 1 > 1 then ((as.map V.ref).length : Int) - 1 else 1) = ((max 1 (ss.length - 1) : Nat) : Int) := by
                rw [List.length_map, asl]
                split <;> omega
              rw [mx, cut_to (by omega), ← List.map_take] at h7
              walk_at "x"
              refine fin _ H7 sq rq _ rest hints _ _ _ _ rfl (E6.tr e7) (sts6.take hsp6 e7 _ h7) (back E6 hsq) (e7 _ _ h6) (tkn _ (by omega)) (fun z hz => snum z (List.mem_of_mem_take hz)) rpt' (by omega) (by rw [List.length_take]; omega) go
            have h1 : ¬ part = ".." := fun z => h1 (by rw [z])
            rw [if_neg h1] at go
            walk_at "x"
            refine x_ifn (fun h2 => ?_) (fun h2 => ?_)
            · have h2 : ¬ part = "." := fun z => h2 (by rw [z])
              rw [if_neg h2] at go
              have N := hh6.nod _ hl6
              refine x_thru ?_
              walk_at "x"
              refine hh6.fN CK ?_
              walk_at "x"
              refine hh6.node hl6 ?_
              walk_at "x"
              refine N.names CK ?_
              refine x_dinS N.nam ?_
              rw [valV_names]
              walk_at "x"
              cases hl : look part (W.at (last ss).number).names with
              | none =>
                rw [hl] at go
                refine iteT ?_
                walk_at "x"
                refine x_mkO rfl (by simp) fun d H' hd e hx => ?_
                exact kE (.name part) go.symm _ _ H' (E6.tr e) ⟨rfl, d, rfl, hx⟩
              | some j =>
                rw [hl] at go
                dsimp only at go
                refine iteF ?_
                have hj : j < W.nodes.length := ((ok.at hl6).nam _ (look_mem hl)).2
                have Nj := hh6.nod _ hj
                have okj := ok.at hj
                walk_at "x"
                refine hh6.fN CK ?_
                walk_at "x"
                refine hh6.node hl6 ?_
                walk_at "x"
                refine N.names CK ?_
                walk_at "x"
                refine x_dgetS (v := .int j) N.nam (by rw [valV_names, hl]; rfl) ?_
                walk_at "x"
                refine hh6.fN CK ?_
                walk_at "x"
                refine hh6.node hj ?_
                walk_at "x"
                refine Nj.kind CK ?_
                walk_at "x"
                have hk1 : ∀ {a b : Str}, (V.str a = V.str b) → a = b := fun z => V.str.inj z
                refine x_ifd (fun h3 => ?_) (fun h3 => ?_)
                · have h3 := hk1 h3
                  walk_at "x"
                  refine x_newL fun l1 H7 hl1 e7 h7 => ?_
                  refine ⟨_, _, .lst (SqL.of (e7 _ _ h6)) (dp_strs rest), .lst (SqL.of h7) (dp_strs []), shaped_strs (fun z hz => part_ok (rpt' z hz)), rfl, ?_⟩
                  rw [eqv_list_strs]
                  have E7 := E6.tr e7
                  have hh7 := hh6.up e7
                  have sts7 := sts6.up e7
                  have Nj7 := hh7.nod _ hj
                  by_cases hc : rest ≠ [] ∨ follow = true
                  · rw [if_pos ⟨h3, hc⟩] at go
                    obtain ⟨hps, hpt⟩ := okj.hnt h3
                    rw [hpt] at go
                    have hpl := parts_len hpt
                    have txl := okj.txt
                    have hci : ((hints + 1 : Nat) : Int) = (hints : Int) + 1 := by omega
                    by_cases hr : rest = []
                    case' pos =>
                      rw [decide_eq_true hr]
                      walk_at "x"
                      refine iteF ?_
                      walk_at "x"
                      rcases hc with hc | hc
                      · exact (hc hr).elim
                      walk_at "x"
                      rw [if_pos hc]
                    case' neg =>
                      rw [decide_eq_false hr]
                      walk_at "x"
                      refine iteT ?_
                      refine iteT ?_
                    all_goals
                      walk_at "x"
                      dsimp only
                      refine x_cut (hints + 1 ≤ 8) ?_ (fun h8 => ?_)
                      · walk_at "x"
                        refine x_ifd (fun h8 => ?_) (fun h8 => ?_)
                        · walk_at "x"
                          rw [if_pos (by omega)] at go
                          exact kE (.no 10) go.symm _ _ H7 E7 ⟨rfl, rfl⟩
                        · walk_at "x"
                          exact ⟨rfl, rfl, by omega⟩
                      rw [if_neg (by omega)] at go
                      walk_at "x"
                      refine Nj7.text CK ?_
                      walk_at "x"
                      have big : (1000 : Nat) ≤ sizeLine := by decide
                      refine ⟨rfl, rfl, _, _, rfl, .inl ⟨(W.at j).text, rfl, by omega, fun qs hqs qp H8 hqp e8 h8' => ?_, fun hn => by rw [hpt] at hn; cases hn⟩⟩
                      rw [hpt] at hqs
                      cases hqs
                      walk_at "x"
                      refine x_cat h8' (e8 _ _ (e7 _ _ h6)) (by rw [List.length_map, List.length_map]; omega) fun rr H9 hrr e9 h9 => ?_
                      rw [← List.map_append] at h9
                      walk_at "x"
                      have hh9 := (hh7.up e8).up e9
                      refine (hh9.nod _ hj).text CK ?_
                      walk_at "x"
                      refine x_slS (by omega) ?_
                      walk_at "x"
                      have E9 := (E7.tr e8).tr e9
                      have sts9 := (sts7.up e8).up e9
                      have hsp9 := e9 _ _ (e8 _ _ (e7 _ _ hsp6))
                      have rp9 : ∀ z ∈ hps ++ rest, isPart z = true := fun z hz => by
                        rcases List.mem_append.mp hz with hz | hz
                        · exact parts_all hpt z hz
                        · exact rpt' z hz
                      refine x_ifd (fun h10 => ?_) (fun h10 => ?_)
                      · rw [if_pos (hk1 h10)] at go
                        walk_at "x"
                        refine x_slE (SqL.of hsp9) fun sq H10 hsq e10 h11 => ?_
                        rw [cut_to (by decide), ← List.map_take] at h11
                        walk_at "x"
                        rw [← hci]
                        exact fin _ H10 sq rr _ (hps ++ rest) (hints + 1) _ _ _ _ (by rfl) (E9.tr e10) (sts9.take hsp9 e10 1 h11) (back E9 hsq) (e10 _ _ h9) (tkn _ (by omega)) (fun z hz => snum z (List.mem_of_mem_take hz)) rp9 (by rw [List.length_append]; omega) (by rw [List.length_take]; omega) go
                      · rw [if_neg (fun z => h10 (by rw [z]))] at go
                        walk_at "x"
                        rw [← hci]
                        exact fin _ H9 sp rr _ (hps ++ rest) (hints + 1) _ _ _ _ (by rfl) E9 sts9 hsp4 h9 ssn snum rp9 (by rw [List.length_append]; omega) (by omega) go
                  · have hr : rest = [] := Classical.byContradiction fun z => hc (.inl z)
                    have hf : follow = false := by
                      cases follow with
                      | false => rfl
                      | true => exact (hc (.inr rfl)).elim
                    subst hr
                    subst hf
                    rw [if_neg (fun z => hc z.2), if_neg (by rw [h3]; decide +kernel), if_neg (fun z => z rfl)] at go
                    walk_at "x"
                    refine iteF ?_
                    walk_at "x"
                    refine iteF ?_
                    walk_at "x"
                    refine Nj7.kind CK ?_
                    walk_at "x"
                    rw [h3]
                    refine iteF ?_
                    walk_at "x"
                    refine x_newL fun l2 H8 hl2 e8 h8 => ?_
                    refine ⟨_, _, .lst (SqL.of ((e7.tr e8) _ _ h6)) (dp_strs []), .lst (SqL.of h8) (dp_strs []), rfl, rfl, ?_⟩
                    rw [eqv_list_strs]
                    walk_at "x"
                    refine iteF ?_
                    walk_at "x"
                    refine x_newT fun tp H9 htp e9 h9 => ?_
                    exact kO ss (some j) go.symm tp sp H9 (back (E7.tr e8) htp) hsp4 ((E7.tr e8).tr e9) h9 ((sts7.up e8).up e9)
                have h3 : ¬ (W.at j).kind = "hint" := fun z => h3 (by rw [z])
                rw [if_neg (fun z => h3 z.1)] at go
                refine iteF ?_
                walk_at "x"
                refine Nj.kind CK ?_
                walk_at "x"
                refine x_ifd (fun h4 => ?_) (fun h4 => ?_)
                · have h4 := hk1 h4
                  rw [if_pos h4] at go
                  walk_at "x"
                  refine x_tyL (SqL.of hsp6) ?_
                  walk_at "x"
                  refine hh6.ob ?_
                  walk_at "x"
                  refine ⟨h, L, W, j, part, rfl, hh6, ok, fun x H7 hx e7 hst => ?_⟩
                  walk_at "x"
                  refine x_app (e7 _ _ hsp6) ?_ ?_
                  · rw [List.length_map]
                    have : (1000 : Nat) ≤ sizeLine := by decide
                    omega
                  walk_at "x"
                  have asx : ∀ (b : Addr) (o : HO), b ≠ sp → H7 b = some o → upd H7 sp (.lst (as.map V.ref ++ [.ref x])) b = some o := fun b o hb z => by rw [upd_ne hb]; exact z
                  have nst : ∀ {b : Addr} {z : Std}, StandAt K H7 b z → b ≠ sp := fun {b z} hz e => by
                    obtain ⟨dz, hz⟩ := hz
                    rw [e, e7 _ _ hsp6] at hz
                    cases hz
                  obtain ⟨bs, hb1, hb2⟩ := sts6.up e7
                  have ebs : bs.map V.ref = as.map V.ref := by
                    have := e7 _ _ hsp6
                    rw [hb1] at this
                    injection this with this
                    injection this
                  have upn : ∀ {b : Addr} {z : Std}, StandAt K H7 b z → StandAt K (upd H7 sp (.lst (as.map V.ref ++ [.ref x]))) b z := fun {b z} hz => by
                    have n := nst hz
                    obtain ⟨dz, hz⟩ := hz
                    exact ⟨dz, asx _ _ n hz⟩
                  have hrs : sp ≠ rq := (ne_of_none (e5 _ _ sts_lst) hrq)
                  refine fin _ _ sp rq (ss ++ [standOf W j part]) rest hints _ _ _ _ rfl (fun b o hb => ?_) ⟨bs ++ [x], ?_, ?_⟩ hsp4 ?_ (by simp) (fun z hz => ?_) rpt' (by omega) (by simp) go
                  · have n : b ≠ sp := fun z => by rw [z, hsp4] at hb; cases hb
                    exact asx _ _ n ((E6.tr e7) _ _ hb)
                  · rw [upd_same, List.map_append, ebs]
                    rfl
                  · exact Paired.snoc (L2.Paired.mapP hb2 fun a s h => upn h) (upn hst)
                  · exact asx _ _ hrs.symm (e7 _ _ h6)
                  · rcases List.mem_append.mp hz with hz | hz
                    · exact snum z hz
                    · rw [List.mem_singleton.mp hz]
                      exact stand_lt ok part hj
                · have h4 : ¬ (W.at j).kind = "room" := fun z => h4 (by rw [z])
                  rw [if_neg h4] at go
                  walk_at "x"
                  refine x_newL fun l2 H8 hl2 e8 h8 => ?_
                  refine ⟨_, _, .lst (SqL.of (e8 _ _ h6)) (dp_strs rest), .lst (SqL.of h8) (dp_strs []), shaped_strs (fun z hz => part_ok (rpt' z hz)), rfl, ?_⟩
                  rw [eqv_list_strs]
                  walk_at "x"
                  refine x_ifn (fun h5 => ?_) (fun h5 => ?_)
                  · rw [if_pos h5] at go
                    walk_at "x"
                    exact kE (.no 6) go.symm _ _ H8 (E6.tr e8) ⟨rfl, rfl⟩
                  · rw [if_neg (fun z => z h5)] at go
                    walk_at "x"
                    refine x_newT fun tp H9 htp e9 h9 => ?_
                    exact kO ss (some j) go.symm tp sp H9 (back (E6.tr e8) htp) hsp4 ((E6.tr e8).tr e9) h9 ((sts6.up e8).up e9)
            · have h2 : part = "." := V.str.inj h2
              rw [if_pos h2] at go
              walk_at "x"
              exact fin _ H6 sp rq ss rest hints _ _ _ _ rfl E6 sts6 hsp4 h6 ssn snum rpt' (by omega) (by omega) go
          · refine kE (.right u (last ss).number) ?_ cls d H7 (E6.tr e7) ha
            rw [← hgo]
            unfold wayGo
            rw [if_pos hm]
    · have hr : rest = [] := by
        have hb' : (!decide (rest = [])) = false := hb
        simpa using hb'
      subst hr
      walk_at "x"
      refine x_newT fun tp H6 htp e6 h6 => ?_
      refine kO ss none ?_ tp sp H6 ?_ hsp4 ((e4.tr e5).tr e6) h6 ((sts.up e5).up e6)
      · rw [← hgo]
        cases m with
        | zero => exact (hR (by rw [← hgo]; rfl)).elim
        | succ m => rfl
      · cases q : H tp with
        | none => rfl
        | some o =>
          have := (e4.tr e5) _ _ q
          rw [htp] at this
          cases this
  · refine ⟨_, _, rfl, .inr ⟨hv.ex e12, fun H3 e3 => kN (fun s' ps' e z => ?_) H3 (e12.tr e3)⟩⟩
    subst e
    exact (not_text hv).elim
abbrev N_World_room_of : List Str := ["self", "user", "path", "stands", "number"]
theorem sc_World_room_of : FnScope N_World_room_of ["self", "user", "path"] (defScope s_World_room_of) := ⟨rfl, rfl, rfl, by decide +kernel, rfl, by decide +kernel, by decide +kernel⟩
theorem ok_World_room_of {P : Program} {w : World} {K : PySem.W.Frag} {mg : Str → Option Value} {base : Heap} {f : Addr} {fd : FuncData} (F : FunD K "room_of" "World.room_of" (defArgs s_World_room_of) (defBody s_World_room_of) (defScope s_World_room_of) [] [] f fd)
    (F_World_wayD : Mt P w K mg base 4 (cHouse K) "way" ["self", "user", "path", "follow"] [.bl true] (sp_way K)) (R_NotRoom : Rz K mg "NotRoom" (He.ga K "NotRoom"))  : FnOk P w K mg base (L2.CX P w) 5 f fd ["self", "user", "path"] (sp_room_of K) := by
  have nd := sc_World_room_of.nd
  refine F.ok (k := 4) sc_World_room_of (fun vs H Q E h => ?_) (fun cdv A outer s H vs Q E hr h => ?_)
  · obtain ⟨_, _, _, _, _, rfl, _⟩ := h
    rfl
  have hu := hu_of hr
  refine ⟨_, (pss_cons (ps_asg (pe_mtS F_World_wayD (pv 0) (hr.mono (by decide)) (passD rfl rfl rfl rfl) (pa_cons (pv 1) (pa_cons (pv 2) pa_nil))) (pg_tup rfl (pgs_cons (pg_name (i := 3) nd rfl (Or.inl rfl)) (pgs_cons (pg_name (i := 4) nd rfl (Or.inl rfl)) pgs_nil))))
      (pss_mid (ps_if (pt_cmpR op_isNt (pv 4) pe_non (nomark _)) (pss_one (ps_raise rfl (takes_of rfl rfl rfl rfl) (pmk_txt R_NotRoom (by rfl))))
      pss_nil)
      (pss_one (ps_ret (pv 3))))), ?_⟩
  obtain ⟨h, L, W, u, v, rfl, hh, ok, u0, u1, hv, kN, kS⟩ := h
  walk_at "x"
  refine hh.ob ?_
  walk_at "x"
  refine ⟨h, L, W, u, v, true, rfl, hh, ok, u0, u1, hv, kN, fun s ps hs hps => ?_⟩
  obtain ⟨kE, kR, kO⟩ := kS s ps hs hps
  refine ⟨kE, fun ss num hw p q H1 hp hq e1 h1 hst => ?_⟩
  refine x_gtup h1 ?_
  walk_at "x"
  refine x_thru ?_
  cases num with
  | none =>
    walk_at "x"
    refine iteF ?_
    walk_at "x"
    exact kO ss hw q H1 hq e1 hst
  | some k =>
    walk_at "x"
    refine iteT ?_
    walk_at "x"
    exact kR ss k hw H1 e1
theorem goodVs_strs : ∀ {xs : List V}, xs.all partV = true → ∃ ps : List Str, xs = ps.map V.str ∧ ∀ p ∈ ps, isPart p = true
  | [], _ => ⟨[], rfl, fun _ h => nomatch h⟩
  | x :: r, h => by
    rw [List.all_cons, Bool.and_eq_true] at h
    obtain ⟨ps, e, hp⟩ := goodVs_strs h.2
    cases x with
    | str s =>
      refine ⟨s :: ps, by rw [e]; rfl, fun p hm => ?_⟩
      rcases List.mem_cons.mp hm with z | z
      · rw [z]
        exact h.1
      · exact hp p z
    | _ => cases h.1
abbrev N_path_of : List Str := ["parts", "part"]
theorem sc_path_of : FnScope N_path_of ["parts"] (defScope s_path_of) := ⟨rfl, rfl, rfl, by decide +kernel, rfl, by decide +kernel, by decide +kernel⟩
theorem ok_path_of {P : Program} {w : World} {K : PySem.W.Frag} {mg : Str → Option Value} {base : Heap} {f : Addr} {fd : FuncData} (F : FunD K "path_of" "path_of" (defArgs s_path_of) (defBody s_path_of) (defScope s_path_of) [] [] f fd)
    (b_isinstance : mg "isinstance" = none) (b_list : mg "list" = none) (b_len : mg "len" = none) (c_MOST_PARTS : ∃ t, mg "MOST_PARTS" = some (.int 12 t)) (b_all : mg "all" = none) (F_is_part : Fn P w K mg base 2 "is_part" ["thing"] (sp_is_part K)) (R_BadPath : Rz K mg "BadPath" (He.ga K "BadPath"))  : FnOk P w K mg base (L2.CX P w) 3 f fd ["parts"] (sp_path_of K) := by
  have nd := sc_path_of.nd
  refine F.ok (k := 2) sc_path_of (fun vs H Q E h => ?_) (fun cdv A outer s H vs Q E hr h => ?_)
  · obtain ⟨_, rfl, _⟩ := h
    rfl
  have hu := hu_of hr
  refine ⟨_, (pss_mid (ps_if (PW.pt (pw_or (pt_not (pt_val (pe_callB call_isi (by rfl) b_isinstance (by decide +kernel) (pa_cons (pv 0) (pa_cons (pe_ty (n := "list") b_list (by decide +kernel) (by rfl)) pa_nil))))) (pw_or (pt_cmpR op_gt (pe_callB call_lenQ (by rfl) b_len (by decide +kernel) (pa_cons (pv 0) pa_nil)) (pe_gint c_MOST_PARTS (by rfl)) (nomark _)) (pw_or1 (pt_not (pt_val (pe_callB (cr_all rfl) (by rfl) b_all (by decide +kernel) (pa_cons (pe_lc (own := [("part", 1)]) (g := (gName 1)) (by rfl) nd (pi_list (pv 0)) (blkOk_by (own := [("part", 1)]) (N := N_path_of) (sc := defScope s_path_of) (by decide +kernel)) (fun _ _ _ _ _ => (pg_name (i := 1) nd rfl (Or.inl rfl))) (fun _ _ _ _ _ => pts_nil) (fun _ _ _ _ _ => (pe_fn F_is_part (hr.mono (by decide)) (by rfl) (passC rfl) (pa_cons (pv 1) pa_nil)))) pa_nil)))))))) (pss_one (ps_raise rfl (takes_of rfl rfl rfl rfl) (pmk_txt R_BadPath (by rfl))))
      pss_nil)
      (pss_one (ps_ret (pe_op op_catS pe_str (pe_join pe_str (pv 0)))))), ?_⟩
  obtain ⟨v, rfl, ⟨a, xs, rfl, ha, hz, hx, kS, kN⟩ | ⟨⟨tv, ht, hk⟩, k⟩⟩ := h
  · refine x_cutE (fun _ => goodVs xs = true) ?_ (fun H2 e2 h2 => ?_)
    · walk_at "x"
      refine x_isi (b := true) (.ty _) (.base (.lst ha)) (kit_ty (by decide +kernel)) ?_
      walk_at "x"
      refine iteF ?_
      walk_at "x"
      refine x_lenL (SqL.of ha) ?_
      walk_at "x"
      refine x_ifd (fun h2 => ?_) (fun h2 => ?_)
      · refine iteT ?_
        refine kN ?_ H Ex.rfl
        unfold goodVs
        rw [decide_eq_false (by omega), Bool.false_and]
      · walk_at "x"
        refine x_lcLV (SqL.of ha) ⟨fun _ => rfl, hz, fun _ => true, fun v => .bl (partV v), fun x hx H' e R k => k H' Ex.rfl, fun x hm _ H' e R k => ?_, fun D H' hD e hl => ?_⟩
        · walk_at "x"
          exact ⟨_, rfl, (hx x hm).ex e, fun H' e => k H' e⟩
        · walk_at "x"
          refine x_all (bs := xs.map partV) (.inl (.inl ?_)) ?_
          · rw [hl]
            congr 2
            rw [List.filter_eq_self.mpr (fun _ _ => rfl), List.map_map]
            rfl
          · walk_at "x"
            rw [List.all_map]
            refine x_if (fun h3 => ?_) (fun h3 => ?_)
            · refine kN ?_ H' e
              have h4 : (!xs.all partV) = true := h3
              unfold goodVs
              rw [Bool.not_eq_true'] at h4
              rw [h4, Bool.and_false]
            · walk_at "x"
              refine ⟨rfl, e, ?_⟩
              have h4 : (!xs.all partV) = false := h3
              unfold goodVs
              rw [Bool.not_eq_false'] at h4
              rw [h4, Bool.and_true]
              exact decide_eq_true (by omega)
    · unfold goodVs at h2
      rw [Bool.and_eq_true, decide_eq_true_eq] at h2
      obtain ⟨ps, rfl, hp⟩ := goodVs_strs h2.2
      rw [List.length_map] at h2
      have g := good_of h2.1 hp
      have js := join_short g
      have jl := join_len g
      walk_at "x"
      refine ⟨sl, a, ps, rfl, rfl, .inl (SqL.of (e2 _ _ ha)), by omega, ?_⟩
      refine x_catS ?_ ?_
      · have z : (108 : Nat) + 1 ≤ sizeLine := by decide
        have z1 : ("/" : Str).length = 1 := by decide +kernel
        omega
      · exact kS ps rfl g H2 e2
  · refine x_thru ?_
    walk_at "x"
    refine x_isi (.ty _) ht hk ?_
    walk_at "x"
    refine iteT ?_
    refine iteT ?_
    exact k H Ex.rfl
abbrev N_split_last : List Str := ["path", "parts"]
theorem sc_split_last : FnScope N_split_last ["path"] (defScope s_split_last) := ⟨rfl, rfl, rfl, by decide +kernel, rfl, by decide +kernel, by decide +kernel⟩
theorem ok_split_last {P : Program} {w : World} {K : PySem.W.Frag} {mg : Str → Option Value} {base : Heap} {f : Addr} {fd : FuncData} (F : FunD K "split_last" "split_last" (defArgs s_split_last) (defBody s_split_last) (defScope s_split_last) [] [] f fd)
    (F_parts_ofD : FnD P w K mg base 3 "parts_of" ["path", "from_top"] [.bl true] (sp_parts_of K)) (F_is_name : Fn P w K mg base 1 "is_name" ["thing"] (sp_is_name K)) (R_BadPath : Rz K mg "BadPath" (He.ga K "BadPath")) (F_path_of : Fn P w K mg base 3 "path_of" ["parts"] (sp_path_of K))  : FnOk P w K mg base (L2.CX P w) 4 f fd ["path"] (sp_split K) := by
  have nd := sc_split_last.nd
  refine F.ok (k := 3) sc_split_last (fun vs H Q E h => ?_) (fun cdv A outer s H vs Q E hr h => ?_)
  · obtain ⟨_, rfl, _⟩ := h
    rfl
  have hu := hu_of hr
  refine ⟨_, (pss_cons (ps_set (i := 1) nd rfl (Or.inl rfl) (pe_fnD F_parts_ofD (hr.mono (by decide)) (by rfl) (passD rfl rfl rfl rfl) (pa_cons (pv 0) pa_nil)))
      (pss_mid (ps_if (PW.pt (pw_or (pt_cmpR (op_eqD hr.units) (pv 1) (pe_lst pa_nil) (nomark _)) (pw_or1 (pt_not (pt_val (pe_fn F_is_name (hr.mono (by decide)) (by rfl) (passD rfl rfl rfl rfl) (pa_cons (pe_ix ix_list (pv 1) (pe_un un_neg pe_int) (fun _ _ => rfl)) pa_nil))))))) (pss_one (ps_raise rfl (takes_of rfl rfl rfl rfl) (pmk_txt R_BadPath (by rfl))))
      pss_nil)
      (pss_one (ps_ret (pe_tup (pa_cons (pe_fn F_path_of (hr.mono (by decide)) (by rfl) (passD rfl rfl rfl rfl) (pa_cons (pe_slice sl_list (pv 1) po_none (po_some (pe_un un_neg pe_int))) pa_nil)) (pa_cons (pe_ix ix_list (pv 1) (pe_un un_neg pe_int) (fun _ _ => rfl)) pa_nil))))))), ?_⟩
  obtain ⟨v, rfl, ⟨s, rfl, hz, kS, kN⟩ | ⟨ht, k⟩⟩ := h
  · have big : (1000 : Nat) ≤ sizeLine := by decide
    walk_at "x"
    refine ⟨_, _, rfl, .inl ⟨s, rfl, hz, fun ps hps p H1 hp e1 h1 => ?_, fun hn H1 e1 => kN (by unfold splitOf; rw [hn]) H1 e1⟩⟩
    have g := parts_good hps
    obtain ⟨g1, g2⟩ := good_all g
    have shp : SeqAt.shaped (.list (ps.map PyData.str)) = true := shaped_strs fun s h => part_ok (g2 s h)
    walk_at "x"
    have at_ : ∀ n, ps.getLast? = some n → atI (ps.map V.str) (-1) = some (.str n) := fun n hn => by
      have hl : 0 < ps.length := by
        cases ps with
        | nil => cases hn
        | cons a r => exact Nat.succ_pos _
      unfold atI
      have : ixN (ps.map V.str).length (-1) = some (ps.length - 1) := by
        unfold ixN
        rw [List.length_map, if_neg (by decide), if_pos (by omega)]
        congr 1
        omega
      rw [this]
      show (ps.map V.str)[ps.length - 1]? = _
      rw [List.getElem?_map, ← List.getLast?_eq_getElem?, hn]
      rfl
    refine x_cutE (fun _ => ∃ n, ps.getLast? = some n ∧ isName n = true) ?_ (fun H2 e2 hn => ?_)
    · walk_at "x"
      refine ⟨by decide, fun z hz => ?_⟩
      refine ⟨_, _, .lst (SqL.of (Ex.new hz _ _ h1)) (dp_strs _), .lst (SqL.of upd_same) (dp_strs []), shp, rfl, ?_⟩
      walk_at "x"
      rw [eqv_list_strs]
      refine x_ifd (fun h3 => ?_) (fun h3 => ?_)
      · refine iteT ?_
        refine kN ?_ _ (e1.tr (Ex.new hz))
        unfold splitOf
        rw [hps, h3]
        rfl
      · walk_at "x"
        obtain ⟨n, hn⟩ : ∃ n, ps.getLast? = some n := by
          cases e : ps.getLast? with
          | none => exact absurd (List.getLast?_eq_none_iff.mp e) h3
          | some n => exact ⟨n, rfl⟩
        refine x_ixL (SqL.of (Ex.new hz _ _ h1)) (at_ n hn) ?_
        walk_at "x"
        have hm : n ∈ ps := List.mem_of_getLast? hn
        have l8 := (part_facts (g2 n hm)).2.2
        refine ⟨_, rfl, .inl ⟨n, rfl, by omega, fun H3 e3 => ?_⟩⟩
        walk_at "x"
        refine x_if (fun h4 => ?_) (fun h4 => ?_)
        · refine kN ?_ _ ((e1.tr (Ex.new hz)).tr e3)
          rw [Bool.not_eq_true'] at h4
          unfold splitOf
          rw [hps]
          show (match ps.getLast? with | none => none | some n => if isName n = true then some (ps.dropLast, n) else none) = none
          rw [hn]
          show (if isName n = true then some (ps.dropLast, n) else none) = none
          rw [if_neg (by rw [h4]; decide)]
        · rw [Bool.not_eq_false'] at h4
          walk_at "x"
          exact ⟨rfl, (Ex.new hz).tr e3, n, hn, h4⟩
    · obtain ⟨n, hn, hN⟩ := hn
      have so : splitOf s = some (ps.dropLast, n) := by
        unfold splitOf
        rw [hps]
        show (match ps.getLast? with | none => none | some n => if isName n = true then some (ps.dropLast, n) else none) = _
        rw [hn]
        show (if isName n = true then some (ps.dropLast, n) else none) = _
        rw [if_pos hN]
      have gd : goodParts ps.dropLast = true := good_of (by rw [List.length_dropLast]; omega) fun q hq => g2 q (List.dropLast_subset ps hq)
      obtain ⟨gd1, gd2⟩ := good_all gd
      have h2 := e2 _ _ h1
      walk_at "x"
      refine x_slL (SqL.of h2) fun q hq => ?_
      rw [show cutV (ps.map V.str) none (some (-1)) = ps.dropLast.map V.str by rw [cut_last, List.map_dropLast]]
      walk_at "x"
      refine ⟨_, rfl, .inl ⟨q, _, rfl, upd_same, by rw [List.length_map]; omega, fun x hx => ?_, fun ps' eq' g' H3 e3 => ?_, fun hb => ?_⟩⟩
      · obtain ⟨y, hy, rfl⟩ := List.mem_map.mp hx
        have := (part_facts (gd2 y hy)).2.2
        exact .inl ⟨y, rfl, by omega⟩
      · have e8 : ps.dropLast = ps' := map_str_inj eq'
        subst e8
        walk_at "x"
        refine x_ixL (SqL.of (e3 _ _ (Ex.new hq _ _ h2))) (at_ n hn) ?_
        walk_at "x"
        refine ⟨by show 2 ≤ sizeLine; decide, fun y hy => ?_⟩
        have ea := e1.tr (e2.tr ((Ex.new hq).tr e3))
        exact kS _ _ so y _ (ex_none ea hy) (ea.tr (Ex.new hy)) upd_same
      · have hg : goodVs (ps.dropLast.map V.str) = true := by
          unfold goodVs
          rw [List.length_map, decide_eq_true gd1, List.all_map, Bool.true_and, List.all_eq_true]
          exact fun s h => gd2 s h
        rw [hg] at hb
        cases hb
  · walk_at "x"
    exact ⟨_, _, rfl, .inr ⟨ht, fun H1 e1 => k H1 e1⟩⟩
abbrev N_House_place_for : List Str := ["self", "user", "path", "room", "name", "stands"]
theorem sc_House_place_for : FnScope N_House_place_for ["self", "user", "path"] (defScope s_House_place_for) := ⟨rfl, rfl, rfl, by decide +kernel, rfl, by decide +kernel, by decide +kernel⟩
theorem ok_House_place_for {P : Program} {w : World} {K : PySem.W.Frag} {mg : Str → Option Value} {base : Heap} {f : Addr} {fd : FuncData} (F : FunD K "place_for" "House.place_for" (defArgs s_House_place_for) (defBody s_House_place_for) (defScope s_House_place_for) [] [] f fd)
    (F_split_last : Fn P w K mg base 4 "split_last" ["path"] (sp_split K)) (F_World_room_of : Mt P w K mg base 5 (cHouse K) "room_of" ["self", "user", "path"] [] (sp_room_of K)) (c_CHANGE : ∃ t, mg "CHANGE" = some (.int 2 t)) (c_PASS : ∃ t, mg "PASS" = some (.int 1 t)) (CK : ClsK K) (F_World_look_right : Mt P w K mg base 3 (cHouse K) "look_right" ["self", "user", "number", "right"] [] (sp_look_right K))  : FnOk P w K mg base (L2.CX P w) 6 f fd ["self", "user", "path"] (sp_place_for K) := by
  have nd := sc_House_place_for.nd
  refine F.ok (k := 5) sc_House_place_for (fun vs H Q E h => ?_) (fun cdv A outer s H vs Q E hr h => ?_)
  · obtain ⟨_, _, _, _, _, rfl, _⟩ := h
    rfl
  have hu := hu_of hr
  refine ⟨_, (pss_cons (ps_asg (pe_fn F_split_last (hr.mono (by decide)) (by rfl) (passD rfl rfl rfl rfl) (pa_cons (pv 2) pa_nil)) (pg_tup rfl (pgs_cons (pg_name (i := 3) nd rfl (Or.inl rfl)) (pgs_cons (pg_name (i := 4) nd rfl (Or.inl rfl)) pgs_nil))))
      (pss_cons (ps_set (i := 5) nd rfl (Or.inl rfl) (pe_mtS F_World_room_of (pv 0) (hr.mono (by decide)) (passD rfl rfl rfl rfl) (pa_cons (pv 1) (pa_cons (pv 3) pa_nil))))
      (pss_cons (ps_expr (pe_mtS F_World_look_right (pv 0) (hr.mono (by decide)) (passD rfl rfl rfl rfl) (pa_cons (pv 1) (pa_cons (pe_fld (pe_ix ix_list (pv 5) (pe_un un_neg pe_int) (fun _ _ => rfl)) (by rfl)) (pa_cons (pe_op op_add (pe_gint c_CHANGE (by rfl)) (pe_gint c_PASS (by rfl))) pa_nil)))))
      (pss_one (ps_ret (pe_tup (pa_cons (pv 5) (pa_cons (pv 4) pa_nil)))))))), ?_⟩
  obtain ⟨h, L, W, u, v, rfl, hh, ok, u0, u1, hv, kE, kO⟩ := h
  have bad : placeV W u v = .err (.no 0) → ∀ H', Ex H H' → E (.ref (errC K 0)) none H' := fun z H' e => kE _ z _ _ H' e ⟨rfl, rfl⟩
  walk_at "x"
  rcases hv with ⟨s, rfl, hz⟩ | hv
  · refine ⟨_, rfl, .inl ⟨s, rfl, hz, fun ps n hsp tp H1 htp e1 h1 => ?_, fun hn H1 e1 => bad (by unfold placeV; simp only [hn]) H1 e1⟩⟩
    have hps : goodParts ps = true := split_good hsp
    have hpp := parts_path true hps
    have pl : placeV W u (.str s) = placeOn W u n (wayOf W u true ps) := by
      unfold placeV
      simp only [hsp]
    have hh1 := hh.up e1
    walk_at "x"
    refine x_gtup h1 ?_
    walk_at "x"
    refine hh1.ob ?_
    walk_at "x"
    have plen := path_len hps
    have big : (1000 : Nat) ≤ sizeLine := by decide
    refine ⟨h, L, W, u, _, rfl, hh1, ok, u0, u1, .inl ⟨_, rfl, by omega⟩, fun hn => (hn _ _ rfl hpp).elim, fun s' ps' es hps' => ?_⟩
    cases es
    rw [hpp] at hps'
    cases hps'
    refine ⟨fun e he cls d H2 e2 ha => ?_, fun ss k hk H2 e2 => ?_, fun ss hss q H2 hq e2 hst => ?_⟩
    · exact kE e (by rw [pl, he]; rfl) cls d H2 (e1.tr e2) ha
    · exact kE (.no 6) (by rw [pl, hk]; rfl) _ _ H2 (e1.tr e2) ⟨rfl, rfl⟩
    · rw [hss] at pl
      have pl : placeV W u (.str s) = if mayOf W u (last ss).number 3 = true then .ok ss n else .err (.right u (last ss).number) := pl
      have wok := wayOf_ok ok hss
      have hh2 := hh1.up e2
      obtain ⟨as, la, hsp2, asl, hat, hla⟩ := hst.last wok.1
      have hl : (last ss).number < W.nodes.length := by
        refine wok.2.1 _ ?_
        unfold last
        rw [List.getLastD_eq_getLast?, List.getLast?_eq_some_getLast wok.1]
        exact List.getLast_mem wok.1
      walk_at "x"
      refine hh2.ob ?_
      walk_at "x"
      refine x_ixL (SqL.of hsp2) hat ?_
      walk_at "x"
      refine hla.num CK ?_
      walk_at "x"
      refine ⟨h, L, W, u, (last ss).number, 3, rfl, hh2, u0, u1, hl, fun hm => ?_, fun hm cls d H3 e3 ha => ?_⟩
      · rw [if_pos hm] at pl
        walk_at "x"
        refine x_newT fun tq H3 htq e3 h3 => ?_
        refine kO ss n pl tq q H3 (back_none (e1.tr e2) htq) (back_none e1 hq) ((e1.tr e2).tr e3) h3 (hst.up e3)
      · rw [if_neg (by rw [hm]; decide)] at pl
        exact kE _ pl cls d H3 ((e1.tr e2).tr e3) ha
  · refine ⟨_, rfl, .inr ⟨hv, fun H1 e1 => bad ?_ H1 e1⟩⟩
    cases v with
    | str s => exact (not_text hv).elim
    | _ => rfl
abbrev N_House_free_place : List Str := ["self", "user", "path", "stands", "name"]
theorem sc_House_free_place : FnScope N_House_free_place ["self", "user", "path"] (defScope s_House_free_place) := ⟨rfl, rfl, rfl, by decide +kernel, rfl, by decide +kernel, by decide +kernel⟩
theorem ok_House_free_place {P : Program} {w : World} {K : PySem.W.Frag} {mg : Str → Option Value} {base : Heap} {f : Addr} {fd : FuncData} (F : FunD K "free_place" "House.free_place" (defArgs s_House_free_place) (defBody s_House_free_place) (defScope s_House_free_place) [] [] f fd)
    (F_House_place_for : Mt P w K mg base 6 (cHouse K) "place_for" ["self", "user", "path"] [] (sp_place_for K)) (CK : ClsK K) (R_Taken : Rz K mg "Taken" (He.ga K "Taken"))  : FnOk P w K mg base (L2.CX P w) 7 f fd ["self", "user", "path"] (sp_free_place K) := by
  have nd := sc_House_free_place.nd
  refine F.ok (k := 6) sc_House_free_place (fun vs H Q E h => ?_) (fun cdv A outer s H vs Q E hr h => ?_)
  · obtain ⟨_, _, _, _, _, rfl, _⟩ := h
    rfl
  have hu := hu_of hr
  refine ⟨_, (pss_cons (ps_asg (pe_mtS F_House_place_for (pv 0) (hr.mono (by decide)) (passD rfl rfl rfl rfl) (pa_cons (pv 1) (pa_cons (pv 2) pa_nil))) (pg_tup rfl (pgs_cons (pg_name (i := 3) nd rfl (Or.inl rfl)) (pgs_cons (pg_name (i := 4) nd rfl (Or.inl rfl)) pgs_nil))))
      (pss_mid (ps_if (pt_cmp (pc_din hu (pv 4) (pe_fld (pe_dget hu (pe_fld (pv 0) (by rfl)) (pe_fld (pe_ix ix_list (pv 3) (pe_un un_neg pe_int) (fun _ _ => rfl)) (by rfl)) (fun _ _ => rfl)) (by rfl)))) (pss_one (ps_raise rfl (takes_of rfl rfl rfl rfl) (pmk_txt R_Taken (by rfl))))
      pss_nil)
      (pss_one (ps_ret (pe_tup (pa_cons (pv 3) (pa_cons (pv 4) pa_nil))))))), ?_⟩
  obtain ⟨h, L, W, u, v, rfl, hh, ok, u0, u1, hv, kE, kO⟩ := h
  walk_at "x"
  refine hh.ob ?_
  walk_at "x"
  refine ⟨h, L, W, u, v, rfl, hh, ok, u0, u1, hv, fun e he => kE e (by unfold freeV; rw [he]), fun ss n hp p q H1 hpn hq e1 h1 hst => ?_⟩
  have fr : freeV W u v = if (look n (W.at (last ss).number).names).isSome = true then .err (.no 9) else .ok ss n := by
    unfold freeV
    rw [hp]
  obtain ⟨pk1, pk2, pk3⟩ := place_ok ok hp
  have hl := last_lt pk1 pk2
  obtain ⟨as, la, hsp, asl, hat, hla⟩ := hst.last pk1
  have hh1 := hh.up e1
  have N := hh1.nod _ hl
  refine x_gtup h1 ?_
  walk_at "x"
  refine x_thru ?_
  walk_at "x"
  refine hh1.fN CK ?_
  walk_at "x"
  refine x_ixL (SqL.of hsp) hat ?_
  walk_at "x"
  refine hla.num CK ?_
  walk_at "x"
  refine hh1.node hl ?_
  walk_at "x"
  refine N.names CK ?_
  refine x_dinS N.nam ?_
  rw [valV_names]
  walk_at "x"
  cases hk : look n (W.at (last ss).number).names with
  | some k =>
    rw [hk] at fr
    refine iteT ?_
    walk_at "x"
    exact kE (.no 9) fr _ _ H1 e1 ⟨rfl, rfl⟩
  | none =>
    rw [hk] at fr
    refine iteF ?_
    walk_at "x"
    refine x_newT fun tp H2 htp e2 h2 => ?_
    exact kO ss n fr tp q H2 (back_none e1 htp) hq (e1.tr e2) h2 (hst.up e2)
abbrev N_World_end_of : List Str := ["self", "user", "path", "follow", "stands", "number"]
theorem sc_World_end_of : FnScope N_World_end_of ["self", "user", "path", "follow"] (defScope s_World_end_of) := ⟨rfl, rfl, rfl, by decide +kernel, rfl, by decide +kernel, by decide +kernel⟩
theorem ok_World_end_of {P : Program} {w : World} {K : PySem.W.Frag} {mg : Str → Option Value} {base : Heap} {f : Addr} {fd : FuncData} (F : FunD K "end_of" "World.end_of" (defArgs s_World_end_of) (defBody s_World_end_of) (defScope s_World_end_of) [.bl true] [] f fd)
    (F_World_wayK : MtK P w K mg base 4 (cHouse K) "way" ["self", "user", "path", "follow"] 3 ["follow"] (sp_way K)) (CK : ClsK K)  : FnOk P w K mg base (L2.CX P w) 5 f fd ["self", "user", "path", "follow"] (sp_end_of K) := by
  have nd := sc_World_end_of.nd
  refine F.ok (k := 4) sc_World_end_of (fun vs H Q E h => ?_) (fun cdv A outer s H vs Q E hr h => ?_)
  · obtain ⟨_, _, _, _, _, _, rfl, _⟩ := h
    rfl
  have hu := hu_of hr
  refine ⟨_, (pss_cons (ps_asg (pe_mtKS F_World_wayK (pv 0) (hr.mono (by decide)) (passD rfl rfl rfl rfl) (pa_cons (pv 1) (pa_cons (pv 2) pa_nil)) (pk_cons (pv 3) pk_nil)) (pg_tup rfl (pgs_cons (pg_name (i := 4) nd rfl (Or.inl rfl)) (pgs_cons (pg_name (i := 5) nd rfl (Or.inl rfl)) pgs_nil))))
      (pss_one (ps_ret (pe_ifExp (pt_cmpR op_isNo (pv 5) pe_non (nomark _)) (pe_fld (pe_ix ix_list (pv 4) (pe_un un_neg pe_int) (fun _ _ => rfl)) (by rfl)) (pv 5))))), ?_⟩
  obtain ⟨h, L, W, u, v, follow, rfl, hh, ok, u0, u1, hv, kN, kS⟩ := h
  walk_at "x"
  refine hh.ob ?_
  walk_at "x"
  refine ⟨rfl, rfl, h, L, W, u, v, follow, rfl, hh, ok, u0, u1, hv, kN, fun s ps hs hps => ?_⟩
  obtain ⟨kE, kO⟩ := kS s ps hs hps
  refine ⟨kE, fun ss num hw p q H1 hp hq e1 h1 hst => ?_⟩
  refine x_gtup h1 ?_
  walk_at "x"
  cases num with
  | none =>
    refine iteT ?_
    have hne : ss ≠ [] := (wayOf_ok ok hw).1
    obtain ⟨as, la, hsp, asl, hat, hla⟩ := hst.last hne
    walk_at "x"
    refine x_ixL (SqL.of hsp) hat ?_
    walk_at "x"
    refine hla.num CK ?_
    exact kO ss none hw H1 e1
  | some k =>
    refine iteF ?_
    walk_at "x"
    exact kO ss (some k) hw H1 e1
abbrev N_is_small : List Str := ["thing", "high"]
theorem sc_is_small : FnScope N_is_small ["thing", "high"] (defScope s_is_small) := ⟨rfl, rfl, rfl, by decide +kernel, rfl, by decide +kernel, by decide +kernel⟩
theorem ok_is_small {P : Program} {w : World} {K : PySem.W.Frag} {mg : Str → Option Value} {base : Heap} {f : Addr} {fd : FuncData} (F : FunD K "is_small" "is_small" (defArgs s_is_small) (defBody s_is_small) (defScope s_is_small) [] [] f fd)
    (b_isinstance : mg "isinstance" = none) (b_int : mg "int" = none) (b_bool : mg "bool" = none)  : FnOk P w K mg base (L2.CX P w) 1 f fd ["thing", "high"] (sp_is_small K) := by
  have nd := sc_is_small.nd
  refine F.ok (k := 0) sc_is_small (fun vs H Q E h => ?_) (fun cdv A outer s H vs Q E hr h => ?_)
  · obtain ⟨_, _, rfl, _⟩ := h
    rfl
  have hu := hu_of hr
  refine ⟨_, (pss_one (ps_ret (pe_and (pe_callB call_isi (by rfl) b_isinstance (by decide +kernel) (pa_cons (pv 0) (pa_cons (pe_ty (n := "int") b_int (by decide +kernel) (by rfl)) pa_nil))) (pe_and (pe_not (pe_callB call_isi (by rfl) b_isinstance (by decide +kernel) (pa_cons (pv 0) (pa_cons (pe_ty (n := "bool") b_bool (by decide +kernel) (by rfl)) pa_nil)))) (pe_one (pe_chain op_le op_le pe_int (pv 0) (pv 1))))))), ?_⟩
  obtain ⟨v, high, rfl, hv, k⟩ := h
  rcases hv with ⟨i, rfl⟩ | ⟨b, rfl⟩ | hv
  · walk_at "x"
    refine x_isi (b := true) (.ty _) (.base (.int i)) (kit_ty (by decide +kernel)) ?_
    walk_at "x"
    refine iteT ?_
    walk_at "x"
    refine x_isi (b := false) (.ty _) (.base (.int i)) (kit_ty (by decide +kernel)) ?_
    walk_at "x"
    refine iteT ?_
    walk_at "x"
    have k : Q (.bl (decide (0 ≤ i) && decide (i ≤ high))) H := k H Ex.rfl
    refine x_ifd (fun h1 => ?_) (fun h1 => ?_)
    · walk_at "x"
      rw [decide_eq_true h1, Bool.true_and] at k
      exact k
    · rw [decide_eq_false h1, Bool.false_and] at k
      exact k
  · walk_at "x"
    refine x_isi (b := true) (.ty _) (.base (.bl b)) (kit_ty (by decide +kernel)) ?_
    walk_at "x"
    refine iteT ?_
    walk_at "x"
    refine x_isi (b := true) (.ty _) (.base (.bl b)) (kit_ty (by decide +kernel)) ?_
    walk_at "x"
    refine iteF ?_
    exact k H Ex.rfl
  · obtain ⟨tv, ht, hk⟩ := hv
    walk_at "x"
    refine x_isi (.ty _) ht hk ?_
    walk_at "x"
    refine iteF ?_
    have := k H Ex.rfl
    have e : smallV v high = false := by
      cases v with
      | int i =>
        cases ht with
        | base h1 =>
          cases h1
          have h3 : PySem.W.kitOne K (.type "int") (.type "int") = some true := kit_ty (by decide +kernel)
          rw [h3] at hk
          cases hk
      | _ => rfl
    rw [e] at this
    exact this
abbrev N_World_look_user : List Str := ["self", "user"]
theorem sc_World_look_user : FnScope N_World_look_user ["self", "user"] (defScope s_World_look_user) := ⟨rfl, rfl, rfl, by decide +kernel, rfl, by decide +kernel, by decide +kernel⟩
theorem ok_World_look_user {P : Program} {w : World} {K : PySem.W.Frag} {mg : Str → Option Value} {base : Heap} {f : Addr} {fd : FuncData} (F : FunD K "look_user" "World.look_user" (defArgs s_World_look_user) (defBody s_World_look_user) (defScope s_World_look_user) [] [] f fd)
    (F_is_small : Fn P w K mg base 1 "is_small" ["thing", "high"] (sp_is_small K)) (b_len : mg "len" = none) (CK : ClsK K) (R_NoUser : Rz K mg "NoUser" (He.ga K "NoUser"))  : FnOk P w K mg base (L2.CX P w) 2 f fd ["self", "user"] (sp_look_user K) := by
  have nd := sc_World_look_user.nd
  refine F.ok (k := 1) sc_World_look_user (fun vs H Q E h => ?_) (fun cdv A outer s H vs Q E hr h => ?_)
  · obtain ⟨_, _, _, _, rfl, _⟩ := h
    rfl
  have hu := hu_of hr
  refine ⟨_, (pss_one (ps_if (pt_not (pt_val (pe_fn F_is_small (hr.mono (by decide)) (by rfl) (passD rfl rfl rfl rfl) (pa_cons (pv 1) (pa_cons (pe_op op_sub (pe_callB call_lenQ (by rfl) b_len (by decide +kernel) (pa_cons (pe_fld (pv 0) (by rfl)) pa_nil)) pe_int) pa_nil))))) (pss_one (ps_raise rfl (takes_of rfl rfl rfl rfl) (pmk_txt R_NoUser (by rfl))))
      pss_nil)), ?_⟩
  obtain ⟨h, L, W, v, rfl, hh, hv, kY, kN⟩ := h
  walk_at "x"
  refine hh.fG CK ?_
  walk_at "x"
  refine x_lenL (SqL.of hh.grp) ?_
  walk_at "x"
  refine ⟨v, _, rfl, hv, fun H' e => ?_⟩
  rw [List.length_map]
  walk_at "x"
  refine x_if (fun h1 => ?_) (fun h1 => ?_)
  · walk_at "x"
    refine kN ?_ H' e
    simpa using h1
  · walk_at "x"
    refine kY ?_ H' e
    simpa using h1
abbrev N_House_link : List Str := ["self", "user", "old", "new", "number", "stands", "name"]
theorem sc_House_link : FnScope N_House_link ["self", "user", "old", "new"] (defScope s_House_link) := ⟨rfl, rfl, rfl, by decide +kernel, rfl, by decide +kernel, by decide +kernel⟩
theorem ok_House_link {P : Program} {w : World} {K : PySem.W.Frag} {mg : Str → Option Value} {base : Heap} {f : Addr} {fd : FuncData} (F : FunD K "link" "House.link" (defArgs s_House_link) (defBody s_House_link) (defScope s_House_link) [] [] f fd)
    (F_World_look_user : Mt P w K mg base 2 (cHouse K) "look_user" ["self", "user"] [] (sp_look_user K)) (F_World_end_ofK : MtK P w K mg base 5 (cHouse K) "end_of" ["self", "user", "path", "follow"] 3 ["follow"] (sp_end_of K)) (CK : ClsK K) (R_NotLeaf : Rz K mg "NotLeaf" (He.ga K "NotLeaf")) (F_House_free_place : Mt P w K mg base 7 (cHouse K) "free_place" ["self", "user", "path"] [] (sp_free_place K))  : FnOk P w K mg base (L2.CX P w) 8 f fd ["self", "user", "old", "new"] (sp_link K) := by
  have nd := sc_House_link.nd
  refine F.ok (k := 7) sc_House_link (fun vs H Q E h => ?_) (fun cdv A outer s H vs Q E hr h => ?_)
  · obtain ⟨_, _, _, _, _, _, rfl, _⟩ := h
    rfl
  have hu := hu_of hr
  refine ⟨_, (pss_cons (ps_expr (pe_mtS F_World_look_user (pv 0) (hr.mono (by decide)) (passD rfl rfl rfl rfl) (pa_cons (pv 1) pa_nil)))
      (pss_cons (ps_set (i := 4) nd rfl (Or.inl rfl) (pe_mtKS F_World_end_ofK (pv 0) (hr.mono (by decide)) (passD rfl rfl rfl rfl) (pa_cons (pv 1) (pa_cons (pv 2) pa_nil)) (pk_cons pe_bl pk_nil)))
      (pss_mid (ps_if (pt_cmpR op_eq (pe_fld (pe_dget hu (pe_fld (pv 0) (by rfl)) (pv 4) (fun _ _ => rfl)) (by rfl)) pe_str (nomark _)) (pss_one (ps_raise rfl (takes_of rfl rfl rfl rfl) (pmk_txt R_NotLeaf (by rfl))))
      pss_nil)
      (pss_cons (ps_asg (pe_mtS F_House_free_place (pv 0) (hr.mono (by decide)) (passD rfl rfl rfl rfl) (pa_cons (pv 1) (pa_cons (pv 3) pa_nil))) (pg_tup rfl (pgs_cons (pg_name (i := 5) nd rfl (Or.inl rfl)) (pgs_cons (pg_name (i := 6) nd rfl (Or.inl rfl)) pgs_nil))))
      (pss_cons (ps_dput hu (pe_fld (pe_dget hu (pe_fld (pv 0) (by rfl)) (pe_fld (pe_ix ix_list (pv 5) (pe_un un_neg pe_int) (fun _ _ => rfl)) (by rfl)) (fun _ _ => rfl)) (by rfl)) (pv 6) (pv 4) rfl)
      (pss_one (ps_fld (pe_dget hu (pe_fld (pv 0) (by rfl)) (pv 4) (fun _ _ => rfl)) (pe_op op_add (pe_fld (pe_dget hu (pe_fld (pv 0) (by rfl)) (pv 4) (fun _ _ => rfl)) (by rfl)) pe_int) rfl))))))), ?_⟩
  obtain ⟨h, L, W, vu, vo, vn, rfl, hh, ok, hz, hu', ho, hn', kE, kO⟩ := h
  walk_at "x"
  refine hh.ob ?_
  walk_at "x"
  refine ⟨h, L, W, vu, rfl, hh, hu', fun hb H1 e1 => ?_, fun hb H1 e1 => kE (.no 3) (by unfold linkR userB; rw [if_pos hb]) _ _ H1 e1 ⟨rfl, rfl⟩⟩
  obtain ⟨u, rfl, ui, u0, u1⟩ := userB_int ok hb
  have hb : userB W (.int u) = true := hb
  have hh1 := hh.up e1
  have sr : linkR W (.int u) vo vn = match wayV W u false vo with
      | .err e => .err e
      | .ok (ss, num) => if (W.at (endNum ss num)).kind = "room" then .err (.no 7) else match freeV W u vn with
        | .err e => .err e
        | .ok st n => .ok (endNum ss num, st, n) := by
    unfold linkR
    rw [if_neg (by rw [hb]; decide)]
    rfl
  rw [sr] at kE kO
  walk_at "x"
  refine hh1.ob ?_
  walk_at "x"
  refine ⟨rfl, rfl, end_ofV hh1 ok u0 u1 (ho.ex e1) (fun e he cls d H2 e2 ha => kE e (by rw [he]) cls d H2 (e1.tr e2) ha) fun ss num hw H2 e2 => ?_⟩
  rw [hw] at kE kO
  have hl := endV_lt ok hw
  have hh2 := hh1.up e2
  have E2 := e1.tr e2
  have N := hh2.nod _ hl
  generalize hk : endNum ss num = k at hl N kE kO
  replace kE : ∀ e, (if (W.at k).kind = "room" then .err (.no 7) else match freeV W u vn with
        | .err e => .err e
        | .ok st n => .ok (k, st, n) : Res (Nat × List Std × Str)) = .err e → ∀ cls d H', Ex H H' → ErrAt K e cls d H' → E cls d H' := by
    rw [← hk]; exact kE
  replace kO : ∀ k' st n, (if (W.at k).kind = "room" then .err (.no 7) else match freeV W u vn with
        | .err e => .err e
        | .ok st n => .ok (k, st, n) : Res (Nat × List Std × Str)) = .ok (k', st, n) → ∀ H', HouseAt K H' h L (linkW W (last st).number n k') → (linkW W (last st).number n k').Ok → Off (fp h L) H H' → Q .non H' := by
    rw [← hk]; exact kO
  walk_at "x"
  refine x_thru ?_
  walk_at "x"
  refine hh2.fN CK ?_
  walk_at "x"
  refine hh2.node hl ?_
  walk_at "x"
  refine N.kind CK ?_
  walk_at "x"
  rw [dec_str]
  by_cases hr : (W.at k).kind = "room"
  · rw [decide_eq_true (show (W.at k).kind = Str.ofString "room" from hr)]
    refine iteT ?_
    walk_at "x"
    exact kE (.no 7) (if_pos hr) _ _ H2 E2 ⟨rfl, rfl⟩
  · rw [decide_eq_false (show ¬ (W.at k).kind = Str.ofString "room" from hr)]
    rw [if_neg hr] at kE kO
    refine iteF ?_
    walk_at "x"
    refine hh2.ob ?_
    walk_at "x"
    refine ⟨h, L, W, u, vn, rfl, hh2, ok, u0, u1, hn'.ex E2, fun e he cls d H3 e3 ha => kE e (by rw [he]) cls d H3 (E2.tr e3) ha, fun st n hf p q H3 hpn hq e3 h3 hst => ?_⟩
    rw [hf] at kO
    obtain ⟨hpl, hlk⟩ := free_place hf
    obtain ⟨pk1, pk2, pk3⟩ := place_ok ok hpl
    have hll := last_lt pk1 pk2
    obtain ⟨as, la, hsp, asl, hat, hla⟩ := hst.last pk1
    have hh3 := hh2.up e3
    have E3 := E2.tr e3
    have Nr := hh3.nod _ hll
    refine x_gtup h3 ?_
    walk_at "x"
    refine hh3.fN CK ?_
    walk_at "x"
    refine x_ixL (SqL.of hsp) hat ?_
    walk_at "x"
    refine hla.num CK ?_
    walk_at "x"
    refine hh3.node hll ?_
    walk_at "x"
    refine Nr.names CK ?_
    walk_at "x"
    refine x_dputSE Nr.nam ?_ fun H4 h4 o4 => ?_
    · unfold namesV
      rw [List.length_map]
      have := hz.2 (last st).number
      omega
    rw [putK_new (by rw [valV_names, hlk]; rfl), ← namesV_snoc] at h4
    have hh4 : HouseAt K H4 h L (nameW W (last st).number n k) := hh3.names hll h4 o4
    have f4 : Off (fp h L) H3 H4 := hh3.offN hll o4
    have hk4 : k < (nameW W (last st).number n k).nodes.length := by rw [len_name]; exact hl
    have N4 := hh4.nod _ hk4
    walk_at "x"
    refine hh4.fN CK ?_
    walk_at "x"
    refine hh4.node hk4 ?_
    walk_at "x"
    refine N4.count CK ?_
    walk_at "x"
    refine hh4.fN CK ?_
    walk_at "x"
    refine hh4.node hk4 ?_
    walk_at "x"
    refine hh4.setF CK hk4 { (nameW W (last st).number n k).at k with count := ((nameW W (last st).number n k).at k).count + 1 } (CK.nf _ (by decide)) (fun _ _ => by rfl) rfl rfl fun H5 hh5 o5 => ?_
    walk_at "x"
    exact kO k st n rfl H5 hh5 (cnt_ok (nameW_ok ok hll (place_room ok hpl) pk3 hlk hl) hk4) fun b x hb hn => o5 _ _ (f4 _ _ (E3 _ _ hb) hn) hn
abbrev N_Node___init__ : List Str := ["self", "kind", "owner", "group", "rights"]
theorem sc_Node___init__ : FnScope N_Node___init__ ["self", "kind", "owner", "group", "rights"] (defScope s_Node___init__) := ⟨rfl, rfl, rfl, by decide +kernel, rfl, by decide +kernel, by decide +kernel⟩
theorem ok_Node___init__ {P : Program} {w : World} {K : PySem.W.Frag} {mg : Str → Option Value} {base : Heap} {f : Addr} {fd : FuncData} (F : FunD K "__init__" "Node.__init__" (defArgs s_Node___init__) (defBody s_Node___init__) (defScope s_Node___init__) [] [] f fd)
    (CK : ClsK K)  : FnOk P w K mg base (L2.CX P w) 1 f fd ["self", "kind", "owner", "group", "rights"] (sp_Node K) := by
  have nd := sc_Node___init__.nd
  refine F.ok (k := 0) sc_Node___init__ (fun vs H Q E h => ?_) (fun cdv A outer s H vs Q E hr h => ?_)
  · obtain ⟨_, _, _, _, _, _, rfl, _⟩ := h
    rfl
  have hu := hu_of hr
  refine ⟨_, (pss_cons (ps_fld (pv 0) (pv 1) rfl)
      (pss_cons (ps_fld (pv 0) (pv 2) rfl)
      (pss_cons (ps_fld (pv 0) (pv 3) rfl)
      (pss_cons (ps_fld (pv 0) (pv 4) rfl)
      (pss_cons (ps_fld (pv 0) pe_dnewK rfl)
      (pss_cons (ps_fld (pv 0) pe_str rfl)
      (pss_one (ps_fld (pv 0) pe_int rfl)))))))), ?_⟩
  obtain ⟨x, dx, rt, kind, owner, group, rfl, hx, k⟩ := h
  walk_at "x"
  refine x_fsetE [("kind", .str kind)] hx CK.n (CK.nf _ (by decide)) fun H1 h1 o1 => ?_
  walk_at "x"
  refine x_fsetE [("kind", .str kind), ("owner", .int owner)] h1 CK.n (CK.nf _ (by decide)) fun H2 h2 o2 => ?_
  walk_at "x"
  refine x_fsetE [("kind", .str kind), ("owner", .int owner), ("group", .int group)] h2 CK.n (CK.nf _ (by decide)) fun H3 h3 o3 => ?_
  walk_at "x"
  refine x_fsetE [("kind", .str kind), ("owner", .int owner), ("group", .int group), ("rights", .ref rt)] h3 CK.n (CK.nf _ (by decide)) fun H4 h4 o4 => ?_
  walk_at "x"
  refine x_dnewK fun nm He hnm ee hd => ?_
  walk_at "x"
  refine x_fsetE [("kind", .str kind), ("owner", .int owner), ("group", .int group), ("rights", .ref rt), ("names", .ref nm)] (ee _ _ h4) CK.n (CK.nf _ (by decide)) fun H5 h5 o5 => ?_
  walk_at "x"
  refine x_fsetE [("kind", .str kind), ("owner", .int owner), ("group", .int group), ("rights", .ref rt), ("names", .ref nm), ("text", .str "")] h5 CK.n (CK.nf _ (by decide)) fun H6 h6 o6 => ?_
  walk_at "x"
  refine x_fsetE [("kind", .str kind), ("owner", .int owner), ("group", .int group), ("rights", .ref rt), ("names", .ref nm), ("text", .str ""), ("count", .int 1)] h6 CK.n (CK.nf _ (by decide)) fun H7 h7 o7 => ?_
  have nx : nm ≠ x := ne_of_none h4 hnm |>.symm
  have on : ∀ b, b ≠ x → H4 b = H b := fun b hb => by rw [o4 b hb, o3 b hb, o2 b hb, o1 b hb]
  refine k nm H7 ?_ h7 ?_ fun b o h1 h2 => ?_
  · rw [← on nm nx]
    exact hnm
  · rw [o7 nm nx, o6 nm nx, o5 nm nx]
    exact hd
  · rw [o7 b h1, o6 b h1, o5 b h1]
    exact ee _ _ (by rw [on b h1]; exact h2)
abbrev N_World_new_node : List Str := ["self", "kind", "user", "rights", "number"]
theorem sc_World_new_node : FnScope N_World_new_node ["self", "kind", "user", "rights"] (defScope s_World_new_node) := ⟨rfl, rfl, rfl, by decide +kernel, rfl, by decide +kernel, by decide +kernel⟩
theorem ok_World_new_node {P : Program} {w : World} {K : PySem.W.Frag} {mg : Str → Option Value} {base : Heap} {f : Addr} {fd : FuncData} (F : FunD K "new_node" "World.new_node" (defArgs s_World_new_node) (defBody s_World_new_node) (defScope s_World_new_node) [] [] f fd)
    (CK : ClsK K) (M_Node : Mks P w K mg base 1 "Node" (He.ga K "Node") ["self", "kind", "owner", "group", "rights"] (sp_Node K))  : FnOk P w K mg base (L2.CX P w) 3 f fd ["self", "kind", "user", "rights"] (sp_new_node K) := by
  have nd := sc_World_new_node.nd
  refine F.ok (k := 2) sc_World_new_node (fun vs H Q E h => ?_) (fun cdv A outer s H vs Q E hr h => ?_)
  · obtain ⟨_, _, _, _, _, _, _, _, _, rfl, _⟩ := h
    rfl
  have hu := hu_of hr
  refine ⟨_, (pss_cons (ps_set (i := 4) nd rfl (Or.inl rfl) (pe_fld (pv 0) (by rfl)))
      (pss_cons (ps_dput hu (pe_fld (pv 0) (by rfl)) (pv 4) (pe_mkS M_Node (hr.mono (by decide)) (by rfl) (passD rfl rfl rfl rfl) (pa_cons (pv 1) (pa_cons (pv 2) (pa_cons (pe_ix ix_list (pe_fld (pv 0) (by rfl)) (pv 2) (fun _ _ => rfl)) (pa_cons (pv 3) pa_nil))))) rfl)
      (pss_cons (ps_fld (pv 0) (pe_op op_add (pe_fld (pv 0) (by rfl)) pe_int) rfl)
      (pss_one (ps_ret (pv 4)))))), ?_⟩
  obtain ⟨h, L, W, kind, u, rt, r0, r1, r2, rfl, hh, u0, u1, hz, hrt, k⟩ := h
  walk_at "x"
  refine hh.fM CK ?_
  walk_at "x"
  refine hh.fG CK ?_
  walk_at "x"
  refine x_ixL (SqL.of hh.grp) (atI_ints u0 u1) ?_
  walk_at "x"
  refine mk_node fun x nm dx H1 hx hnm hne e1 h1 h2 => ?_
  have hh1 := hh.up e1
  walk_at "x"
  refine hh1.fN CK ?_
  walk_at "x"
  refine x_dputIE hh1.nds (by rw [nodesV_len, hh.la]; omega) fun H2 h3 o3 => ?_
  rw [putK_new (valV_nodes_none _ _ _ (by rw [hh.la]; omega))] at h3
  obtain ⟨dxh, ho⟩ := hh1.obj
  have d1 := List.nodup_cons.mp hh.dis
  have d2 := List.nodup_cons.mp d1.2
  have hnd : h ≠ L.nd := fun z => d1.1 (by rw [z]; exact List.mem_cons_self ..)
  have ho2 : H2 h = some (.ins (cHouse K) dxh (houseF L W)) := by rw [o3 h hnd]; exact ho
  walk_at "x"
  refine x_fldV ho2 CK.h (CK.hf _ (by decide)) (by rfl) ?_
  walk_at "x"
  refine x_fsetE [("groups", .ref L.g), ("nodes", .ref L.nd), ("made", .int (W.nodes.length + 1)), ("over", .ref L.ov)] ho2 CK.h (CK.hf _ (by decide)) (fun H3 h4 o4 => ?_) (by rfl) (by simp [houseF])
  walk_at "x"
  have some_ne : ∀ {b c : Addr} {o : HO}, H b = some o → H c = none → b ≠ c := fun hb hc z => by rw [z, hc] at hb; cases hb
  obtain ⟨dxo, hoo⟩ := hh.obj
  have off : ∀ b o, H b = some o → b ≠ h → b ≠ L.nd → H3 b = some o := fun b o hb n1 n2 => by
    rw [o4 b n1, o3 b n2]
    exact e1 _ _ hb
  have hxn : ∀ z ∈ fp h L, ∃ o, H z = some o := fun z hz => by
    unfold fp at hz
    simp only [List.mem_cons, List.mem_append] at hz
    rcases hz with rfl | rfl | rfl | hz | hz
    · exact ⟨_, hoo⟩
    · exact ⟨_, hh.nds⟩
    · exact ⟨_, hh.ovr⟩
    · obtain ⟨i, hi, rfl⟩ := List.mem_iff_getElem.mp hz
      obtain ⟨_, _, z1, _⟩ := (hh.nod i (by rw [← hh.la]; exact hi)).ex
      rw [List.getD_eq_getElem?_getD, List.getElem?_eq_getElem hi] at z1
      exact ⟨_, z1⟩
    · obtain ⟨i, hi, rfl⟩ := List.mem_iff_getElem.mp hz
      have z1 := (hh.nod i (by rw [← hh.ln]; exact hi)).nam
      rw [List.getD_eq_getElem?_getD, List.getElem?_eq_getElem hi] at z1
      exact ⟨_, z1⟩
  have nx : ∀ z ∈ fp h L, z ≠ x ∧ z ≠ nm := fun z hz => by
    obtain ⟨o, ho⟩ := hxn z hz
    exact ⟨some_ne ho hx, some_ne ho hnm⟩
  have xh := nx h (List.mem_cons_self ..)
  have xnd := nx L.nd (List.mem_cons_of_mem _ (List.mem_cons_self ..))
  have ndg : L.g ≠ L.nd := fun z => by
    have := hh.grp
    rw [z, hh.nds] at this
    cases this
  have hg : L.g ≠ h := fun z => by
    have := hh.grp
    rw [z, hoo] at this
    cases this
  have ovh : L.ov ≠ h := fun z => by
    have := hh.ovr
    rw [z, hoo] at this
    cases this
  have ovn : L.ov ≠ L.nd := fun z => d2.1 (by rw [← z]; exact List.mem_cons_self ..)
  refine k x nm H3 hx hnm ⟨⟨dxh, ?_⟩, off _ _ hh.grp hg ndg, ?_, ?_, ?_, ?_, fun i hi => ?_, ?_⟩ fun b o hb hn => ?_
  · rw [h4]
    unfold houseF Lay.add Wd.add
    rw [List.length_append]
    rfl
  · show H3 L.nd = _
    rw [o4 _ (fun z => hnd z.symm), h3]
    show _ = some (HO.dK (nodesV 0 (L.as ++ [x])))
    rw [nodesV_snoc, Nat.zero_add, hh.la]
  · exact off _ _ hh.ovr ovh ovn
  · show (L.as ++ [x]).length = (W.nodes ++ [_]).length
    rw [List.length_append, List.length_append, hh.la]
    rfl
  · show (L.ns ++ [nm]).length = (W.nodes ++ [_]).length
    rw [List.length_append, List.length_append, hh.ln]
    rfl
  · have hl : (W.add (newNd W kind u r0 r1 r2)).nodes.length = W.nodes.length + 1 := by
      show (W.nodes ++ [_]).length = _
      rw [List.length_append]
      rfl
    rw [hl] at hi
    show NodeAt K H3 ((L.as ++ [x]).getD i 0) ((L.ns ++ [nm]).getD i 0) ((W.nodes ++ [newNd W kind u r0 r1 r2]).getD i nd0)
    by_cases e : i < W.nodes.length
    · have ga : (L.as ++ [x]).getD i 0 = L.as.getD i 0 := by
        rw [List.getD_eq_getElem?_getD, List.getElem?_append_left (by rw [hh.la]; exact e), ← List.getD_eq_getElem?_getD]
      have gn : (L.ns ++ [nm]).getD i 0 = L.ns.getD i 0 := by
        rw [List.getD_eq_getElem?_getD, List.getElem?_append_left (by rw [hh.ln]; exact e), ← List.getD_eq_getElem?_getD]
      have gw : (W.nodes ++ [newNd W kind u r0 r1 r2]).getD i nd0 = W.at i := by
        rw [List.getD_eq_getElem?_getD, List.getElem?_append_left e, ← List.getD_eq_getElem?_getD]
        rfl
      rw [ga, gn, gw]
      obtain ⟨dxi, rti, z1, z2⟩ := (hh.nod i e).ex
      have z3 := (hh.nod i e).nam
      obtain ⟨a1, a2, _⟩ := hh.dH (.inl (hh.mA e))
      obtain ⟨b1, b2, _⟩ := hh.dH (.inr (hh.mN e))
      refine ⟨⟨dxi, rti, off _ _ z1 a1.symm a2.symm, off _ _ z2 (fun z => ?_) (fun z => ?_)⟩, off _ _ z3 b1.symm b2.symm⟩
      · rw [z, hoo] at z2
        cases z2
      · rw [z, hh.nds] at z2
        cases z2
    · have ei : i = W.nodes.length := by omega
      subst ei
      have ga : (L.as ++ [x]).getD W.nodes.length 0 = x := by
        rw [List.getD_eq_getElem?_getD, ← hh.la, List.getElem?_concat_length]
        rfl
      have gn : (L.ns ++ [nm]).getD W.nodes.length 0 = nm := by
        rw [List.getD_eq_getElem?_getD, ← hh.ln, List.getElem?_concat_length]
        rfl
      have gw : (W.nodes ++ [newNd W kind u r0 r1 r2]).getD W.nodes.length nd0 = newNd W kind u r0 r1 r2 := by
        rw [List.getD_eq_getElem?_getD, List.getElem?_concat_length]
        rfl
      rw [ga, gn, gw]
      refine ⟨⟨dx, rt, ?_, ?_⟩, ?_⟩
      · rw [o4 _ xh.1.symm, o3 _ xnd.1.symm]
        exact h1
      · refine off _ _ hrt (fun z => ?_) (fun z => ?_)
        · rw [z, hoo] at hrt
          cases hrt
        · rw [z, hh.nds] at hrt
          cases hrt
      · rw [o4 _ xh.2.symm, o3 _ xnd.2.symm]
        exact h2
  · show (h :: L.nd :: L.ov :: ((L.as ++ [x]) ++ (L.ns ++ [nm]))).Nodup
    have p : List.Perm (h :: L.nd :: L.ov :: ((L.as ++ [x]) ++ (L.ns ++ [nm]))) (x :: nm :: fp h L) := by
      have e : h :: L.nd :: L.ov :: ((L.as ++ [x]) ++ (L.ns ++ [nm])) = (h :: L.nd :: L.ov :: L.as) ++ x :: (L.ns ++ [nm]) := by simp
      rw [e]
      refine List.perm_middle.trans (List.Perm.cons x ?_)
      have e2 : (h :: L.nd :: L.ov :: L.as) ++ (L.ns ++ [nm]) = ((h :: L.nd :: L.ov :: L.as) ++ L.ns) ++ nm :: [] := by simp
      rw [e2]
      refine List.perm_middle.trans (List.Perm.cons nm ?_)
      rw [List.append_nil]
      exact List.Perm.refl _
    rw [p.nodup_iff]
    refine List.nodup_cons.mpr ⟨fun z => ?_, List.nodup_cons.mpr ⟨fun z => (nx nm z).2 rfl, hh.dis⟩⟩
    rcases List.mem_cons.mp z with z | z
    · exact hne z
    · exact (nx x z).1 rfl
  · exact off _ _ hb (fun z => hn (by rw [z]; exact List.mem_cons_self ..)) (fun z => hn (by rw [z]; exact List.mem_cons_of_mem _ (List.mem_cons_self ..)))
abbrev N_House_made_at : List Str := ["self", "user", "path", "kind", "rights", "stands", "name", "number"]
theorem sc_House_made_at : FnScope N_House_made_at ["self", "user", "path", "kind", "rights"] (defScope s_House_made_at) := ⟨rfl, rfl, rfl, by decide +kernel, rfl, by decide +kernel, by decide +kernel⟩
theorem ok_House_made_at {P : Program} {w : World} {K : PySem.W.Frag} {mg : Str → Option Value} {base : Heap} {f : Addr} {fd : FuncData} (F : FunD K "made_at" "House.made_at" (defArgs s_House_made_at) (defBody s_House_made_at) (defScope s_House_made_at) [] [] f fd)
    (F_House_free_place : Mt P w K mg base 7 (cHouse K) "free_place" ["self", "user", "path"] [] (sp_free_place K)) (F_World_new_node : Mt P w K mg base 3 (cHouse K) "new_node" ["self", "kind", "user", "rights"] [] (sp_new_node K)) (CK : ClsK K)  : FnOk P w K mg base (L2.CX P w) 8 f fd ["self", "user", "path", "kind", "rights"] (sp_made_at K) := by
  have nd := sc_House_made_at.nd
  refine F.ok (k := 7) sc_House_made_at (fun vs H Q E h => ?_) (fun cdv A outer s H vs Q E hr h => ?_)
  · obtain ⟨_, _, _, _, _, _, _, _, _, _, rfl, _⟩ := h
    rfl
  have hu := hu_of hr
  refine ⟨_, (pss_cons (ps_asg (pe_mtS F_House_free_place (pv 0) (hr.mono (by decide)) (passD rfl rfl rfl rfl) (pa_cons (pv 1) (pa_cons (pv 2) pa_nil))) (pg_tup rfl (pgs_cons (pg_name (i := 5) nd rfl (Or.inl rfl)) (pgs_cons (pg_name (i := 6) nd rfl (Or.inl rfl)) pgs_nil))))
      (pss_cons (ps_set (i := 7) nd rfl (Or.inl rfl) (pe_mtS F_World_new_node (pv 0) (hr.mono (by decide)) (passD rfl rfl rfl rfl) (pa_cons (pv 3) (pa_cons (pv 1) (pa_cons (pv 4) pa_nil)))))
      (pss_cons (ps_dput hu (pe_fld (pe_dget hu (pe_fld (pv 0) (by rfl)) (pe_fld (pe_ix ix_list (pv 5) (pe_un un_neg pe_int) (fun _ _ => rfl)) (by rfl)) (fun _ _ => rfl)) (by rfl)) (pv 6) (pv 7) rfl)
      (pss_one (ps_ret (pv 7)))))), ?_⟩
  obtain ⟨h, L, W, u, v, kind, rt, r0, r1, r2, rfl, hh, ok, u0, u1, hv, hz, hrt, kE, kO⟩ := h
  walk_at "x"
  refine hh.ob ?_
  walk_at "x"
  refine ⟨h, L, W, u, v, rfl, hh, ok, u0, u1, hv, kE, fun ss n hf p q H1 hpn hq e1 h1 hst => ?_⟩
  obtain ⟨hp, hlk⟩ := free_place hf
  obtain ⟨pk1, pk2, pk3⟩ := place_ok ok hp
  have hl := last_lt pk1 pk2
  have hh1 := hh.up e1
  refine x_gtup h1 ?_
  walk_at "x"
  refine hh1.ob ?_
  walk_at "x"
  refine ⟨h, L, W, kind, u, rt, r0, r1, r2, rfl, hh1, u0, u1, by have := hz.1; omega, e1 _ _ hrt, fun x nm H2 hx hnm hh2 o2 => ?_⟩
  have qn : q ∉ fp h L := fun z => by
    obtain ⟨o, ho⟩ := hh.there z
    rw [hq] at ho
    cases ho
  have st2 := hst.off hh1 qn o2
  obtain ⟨as, la, hsp, asl, hat, hla⟩ := st2.last pk1
  have hl2 : (last ss).number < (W.add (newNd W kind u r0 r1 r2)).nodes.length := by rw [Wd.add_len]; omega
  have N := hh2.nod _ hl2
  rw [Wd.add_at hl] at N
  walk_at "x"
  refine hh2.fN CK ?_
  walk_at "x"
  refine x_ixL (SqL.of hsp) hat ?_
  walk_at "x"
  refine hla.num CK ?_
  walk_at "x"
  refine hh2.node hl2 ?_
  walk_at "x"
  refine N.names CK ?_
  walk_at "x"
  refine x_dputSE N.nam ?_ fun H3 h3 o3 => ?_
  · unfold namesV
    rw [List.length_map]
    have := hz.2 (last ss).number
    omega
  rw [putK_new (by rw [valV_names, hlk]; rfl), ← namesV_snoc] at h3
  walk_at "x"
  have hh3 := hh2.names hl2 h3 o3
  rw [Wd.add_at hl] at hh3
  refine kO ss n hf _ H3 hh3 (fun b o hb hn => ?_) (Grew.add (back_none e1 hx) (back_none e1 hnm))
  refine hh2.offN hl2 o3 b o (o2 b o (e1 _ _ hb) hn) fun z => ?_
  rcases (Grew.add (h := h) (L := L) (back_none e1 hx) (back_none e1 hnm)).2 b z with z | z
  · exact hn z
  · rw [z] at hb
    cases hb
abbrev N_House_make_hint : List Str := ["self", "user", "path", "goal"]
theorem sc_House_make_hint : FnScope N_House_make_hint ["self", "user", "path", "goal"] (defScope s_House_make_hint) := ⟨rfl, rfl, rfl, by decide +kernel, rfl, by decide +kernel, by decide +kernel⟩
theorem ok_House_make_hint {P : Program} {w : World} {K : PySem.W.Frag} {mg : Str → Option Value} {base : Heap} {f : Addr} {fd : FuncData} (F : FunD K "make_hint" "House.make_hint" (defArgs s_House_make_hint) (defBody s_House_make_hint) (defScope s_House_make_hint) [] [] f fd)
    (F_World_look_user : Mt P w K mg base 2 (cHouse K) "look_user" ["self", "user"] [] (sp_look_user K)) (F_parts_ofK : FnK P w K mg base 3 "parts_of" ["path", "from_top"] 1 ["from_top"] (sp_parts_of K)) (CK : ClsK K) (F_House_made_at : Mt P w K mg base 8 (cHouse K) "made_at" ["self", "user", "path", "kind", "rights"] [] (sp_made_at K))  : FnOk P w K mg base (L2.CX P w) 9 f fd ["self", "user", "path", "goal"] (sp_make_hint K) := by
  have nd := sc_House_make_hint.nd
  refine F.ok (k := 8) sc_House_make_hint (fun vs H Q E h => ?_) (fun cdv A outer s H vs Q E hr h => ?_)
  · obtain ⟨_, _, _, _, _, _, rfl, _⟩ := h
    rfl
  have hu := hu_of hr
  refine ⟨_, (pss_cons (ps_expr (pe_mtS F_World_look_user (pv 0) (hr.mono (by decide)) (passD rfl rfl rfl rfl) (pa_cons (pv 1) pa_nil)))
      (pss_cons (ps_expr (pe_fnK F_parts_ofK (hr.mono (by decide)) (by rfl) (passD rfl rfl rfl rfl) (pa_cons (pv 3) pa_nil) (pk_cons pe_bl pk_nil)))
      (pss_one (ps_fld (pe_dget hu (pe_fld (pv 0) (by rfl)) (pe_mtS F_House_made_at (pv 0) (hr.mono (by decide)) (passD rfl rfl rfl rfl) (pa_cons (pv 1) (pa_cons (pv 2) (pa_cons pe_str (pa_cons (pe_tup (pa_cons pe_int (pa_cons pe_int (pa_cons pe_int pa_nil)))) pa_nil))))) (fun _ _ => rfl)) (pv 3) rfl)))), ?_⟩
  obtain ⟨h, L, W, vu, vp, vg, rfl, hh, ok, sm, hu', hp, ht', kE, kO⟩ := h
  walk_at "x"
  refine hh.ob ?_
  walk_at "x"
  refine ⟨h, L, W, vu, rfl, hh, hu', fun hb H1 e1 => ?_, fun hb H1 e1 => kE (.no 3) (by unfold hintV userB; rw [if_pos hb]) _ _ H1 e1 ⟨rfl, rfl⟩⟩
  obtain ⟨u, rfl, ui, u0, u1⟩ := userB_int ok hb
  have hb : userB W (.int u) = true := hb
  have hh1 := hh.up e1
  have bad : goalOf vg = none → ∀ H2, Ex H1 H2 → E (.ref (errC K 0)) none H2 := fun z H2 e2 => kE (.no 0) (by unfold hintV; rw [if_neg (by rw [hb]; decide), z]; rfl) _ _ H2 (e1.tr e2) ⟨rfl, rfl⟩
  walk_at "x"
  rcases ht' with ⟨g, rfl, gl⟩ | hn
  · refine ⟨rfl, rfl, _, _, rfl, .inl ⟨g, rfl, gl, fun gs hgs gp H1b hgp e1b h1b => ?_, fun hn H2 e2 => bad hn H2 e2⟩⟩
    have E1 := e1.tr e1b
    have hg : goalOf (.str g) = some gs := hgs
    have rv : hintV W (.int u) vp (.str g) = ofPl (freeV W u vp) := by
      unfold hintV
      rw [if_neg (by rw [hb]; decide), hg, if_neg (by simp)]
      rfl
    have hhb := hh1.up e1b
    walk_at "x"
    refine hhb.fN CK ?_
    walk_at "x"
    refine hhb.ob ?_
    walk_at "x"
    refine x_newT fun rt H2 hrt e2 h2 => ?_
    have E2 := E1.tr e2
    have hh2 := hh.up E2
    walk_at "x"
    refine ⟨h, L, W, u, vp, "hint", rt, 7, 7, 7, rfl, hh2, ok, u0, u1, hp.ex E2, sm, h2, fun e he cls d H3 e3 ha => ?_, fun ss n hf L' H3 hh3 o3 g3 => ?_⟩
    · exact kE e (by rw [rv, he]; rfl) cls d H3 (E2.tr e3) ha
    · obtain ⟨hpl, hlk⟩ := free_place hf
      obtain ⟨pk1, pk2, pk3⟩ := place_ok ok hpl
      have hll := last_lt pk1 pk2
      have hk3 : W.nodes.length < (madeW W (last ss).number n (newNd W "hint" u 7 7 7)).nodes.length := by
        unfold madeW
        rw [Wd.len_put, Wd.add_len]
        omega
      walk_at "x"
      rw [← g3.1.1]
      refine hh3.node hk3 ?_
      walk_at "x"
      refine hh3.setF CK hk3 { (madeW W (last ss).number n (newNd W "hint" u 7 7 7)).at W.nodes.length with text := g } (CK.nf _ (by decide)) (fun _ _ => by rfl) rfl rfl fun H4 hh4 o4 => ?_
      rw [made_text hll] at hh4
      walk_at "x"
      refine kO ss n (by rw [rv, hf]; rfl) L' H4 hh4 ?_ (fun b o hb hn => ?_) (g3.back E2)
      · exact made_ok ok hll (place_room ok hpl) pk3 hlk ⟨rfl, fun _ => ⟨gs, hgs⟩, text_len hgs, (show ((0 : Int) ≤ 7 ∧ (7 : Int) ≤ 7) ∧ ((0 : Int) ≤ 7 ∧ (7 : Int) ≤ 7) ∧ ((0 : Int) ≤ 7 ∧ (7 : Int) ≤ 7) by decide), .inr (.inr rfl)⟩
      · refine o4 b o (o3 b o (E2 _ _ hb) hn) fun z => ?_
        rcases g3.2 b z with z | z
        · exact hn z
        · rw [E2 _ _ hb] at z
          cases z
  · refine ⟨rfl, rfl, _, _, rfl, .inr ⟨hn.ex e1, fun H2 e2 => bad ?_ H2 e2⟩⟩
    cases vg with
    | str s => exact (not_text hn).elim
    | _ => rfl
abbrev N_look_rights : List Str := ["rights", "one"]
theorem sc_look_rights : FnScope N_look_rights ["rights"] (defScope s_look_rights) := ⟨rfl, rfl, rfl, by decide +kernel, rfl, by decide +kernel, by decide +kernel⟩
theorem ok_look_rights {P : Program} {w : World} {K : PySem.W.Frag} {mg : Str → Option Value} {base : Heap} {f : Addr} {fd : FuncData} (F : FunD K "look_rights" "look_rights" (defArgs s_look_rights) (defBody s_look_rights) (defScope s_look_rights) [] [] f fd)
    (b_isinstance : mg "isinstance" = none) (b_tuple : mg "tuple" = none) (b_len : mg "len" = none) (b_all : mg "all" = none) (F_is_small : Fn P w K mg base 1 "is_small" ["thing", "high"] (sp_is_small K)) (R_BadRights : Rz K mg "BadRights" (He.ga K "BadRights"))  : FnOk P w K mg base (L2.CX P w) 2 f fd ["rights"] (sp_look_rights K) := by
  have nd := sc_look_rights.nd
  refine F.ok (k := 1) sc_look_rights (fun vs H Q E h => ?_) (fun cdv A outer s H vs Q E hr h => ?_)
  · obtain ⟨_, rfl, _⟩ := h
    rfl
  have hu := hu_of hr
  refine ⟨_, (pss_one (ps_if (PW.pt (pw_or (pt_not (pt_val (pe_callB call_isi (by rfl) b_isinstance (by decide +kernel) (pa_cons (pv 0) (pa_cons (pe_ty (n := "tuple") b_tuple (by decide +kernel) (by rfl)) pa_nil))))) (pw_or (pt_cmpR op_ne (pe_callB call_lenQ (by rfl) b_len (by decide +kernel) (pa_cons (pv 0) pa_nil)) pe_int (nomark _)) (pw_or1 (pt_not (pt_val (pe_callB (cr_all rfl) (by rfl) b_all (by decide +kernel) (pa_cons (pe_lc (own := [("one", 1)]) (g := (gName 1)) (by rfl) nd (pi_tup (pv 0)) (blkOk_by (own := [("one", 1)]) (N := N_look_rights) (sc := defScope s_look_rights) (by decide +kernel)) (fun _ _ _ _ _ => (pg_name (i := 1) nd rfl (Or.inl rfl))) (fun _ _ _ _ _ => pts_nil) (fun _ _ _ _ _ => (pe_fn F_is_small (hr.mono (by decide)) (by rfl) (passC rfl) (pa_cons (pv 1) (pa_cons pe_int pa_nil))))) pa_nil)))))))) (pss_one (ps_raise rfl (takes_of rfl rfl rfl rfl) (pmk_txt R_BadRights (by rfl))))
      pss_nil)), ?_⟩
  obtain ⟨v, rfl, ⟨a, xs, rfl, ha, hz, hx⟩ | ⟨⟨tv, ht, hk⟩, hb⟩, kY, kN⟩ := h
  · have eb : rightsB H (.ref a) = (decide (xs.length = 3) && xs.all fun x => smallV x 7) := by
      unfold rightsB
      simp only [ha]
    walk_at "x"
    refine x_isi (b := true) (.ty _) (.base (.tup ha)) (kit_ty (by decide +kernel)) ?_
    walk_at "x"
    refine iteF ?_
    walk_at "x"
    refine ⟨a, _, rfl, .inr (SqT.of ha), ?_⟩
    walk_at "x"
    rw [dec_int]
    refine x_ifn (fun h1 => ?_) (fun h1 => ?_)
    · refine iteT ?_
      walk_at "x"
      refine kN ?_ H Ex.rfl
      rw [eb, decide_eq_false (by omega), Bool.false_and]
    · walk_at "x"
      refine x_lcTV (SqT.of ha) (fun H' e => SqT.of (e _ _ ha)) ⟨fun _ => rfl, by omega, fun _ => true, fun v => .bl (smallV v 7), fun x hx H' e R k => k H' Ex.rfl, fun x hm _ H' e R k => ?_, fun D H' hD e hl => ?_⟩
      · walk_at "x"
        exact ⟨x, 7, rfl, (hx x hm).ex e, fun H' e => k H' e⟩
      · walk_at "x"
        refine x_all (bs := xs.map fun x => smallV x 7) (.inl (.inl ?_)) ?_
        · rw [hl]
          congr 2
          rw [List.filter_eq_self.mpr (fun _ _ => rfl), List.map_map]
          rfl
        · walk_at "x"
          rw [List.all_map]
          refine x_if (fun h3 => ?_) (fun h3 => ?_)
          · walk_at "x"
            refine kN ?_ H' e
            have h4 : (!xs.all fun x => smallV x 7) = true := h3
            rw [Bool.not_eq_true'] at h4
            rw [eb, h4, Bool.and_false]
          · walk_at "x"
            refine kY ?_ H' e
            have h4 : (!xs.all fun x => smallV x 7) = false := h3
            rw [Bool.not_eq_false'] at h4
            rw [eb, h4, Bool.and_true]
            exact decide_eq_true (by omega)
  · walk_at "x"
    refine x_isi (.ty _) ht hk ?_
    walk_at "x"
    refine iteT ?_
    refine iteT ?_
    walk_at "x"
    exact kN (hb H Ex.rfl) H Ex.rfl
abbrev N_look_text : List Str := ["text", "sign"]
theorem sc_look_text : FnScope N_look_text ["text"] (defScope s_look_text) := ⟨rfl, rfl, rfl, by decide +kernel, rfl, by decide +kernel, by decide +kernel⟩
theorem ok_look_text {P : Program} {w : World} {K : PySem.W.Frag} {mg : Str → Option Value} {base : Heap} {f : Addr} {fd : FuncData} (F : FunD K "look_text" "look_text" (defArgs s_look_text) (defBody s_look_text) (defScope s_look_text) [] [] f fd)
    (b_isinstance : mg "isinstance" = none) (b_str : mg "str" = none) (b_len : mg "len" = none) (c_MOST_TEXT : ∃ t, mg "MOST_TEXT" = some (.int 40 t)) (b_all : mg "all" = none) (b_ord : mg "ord" = none) (R_BadText : Rz K mg "BadText" (He.ga K "BadText"))  : FnOk P w K mg base (L2.CX P w) 1 f fd ["text"] (sp_look_text K) := by
  have nd := sc_look_text.nd
  refine F.ok (k := 0) sc_look_text (fun vs H Q E h => ?_) (fun cdv A outer s H vs Q E hr h => ?_)
  · obtain ⟨_, rfl, _⟩ := h
    rfl
  have hu := hu_of hr
  refine ⟨_, (pss_one (ps_if (PW.pt (pw_or (pt_not (pt_val (pe_callB call_isi (by rfl) b_isinstance (by decide +kernel) (pa_cons (pv 0) (pa_cons (pe_ty (n := "str") b_str (by decide +kernel) (by rfl)) pa_nil))))) (pw_or (pt_cmpR op_gt (pe_callB call_lenT (by rfl) b_len (by decide +kernel) (pa_cons (pv 0) pa_nil)) (pe_gint c_MOST_TEXT (by rfl)) (nomark _)) (pw_or1 (pt_not (pt_val (pe_callB (cr_all rfl) (by rfl) b_all (by decide +kernel) (pa_cons (pe_lc (own := [("sign", 1)]) (g := (gName 1)) (by rfl) nd (pi_str (pv 0)) (blkOk_by (own := [("sign", 1)]) (N := N_look_text) (sc := defScope s_look_text) (by decide +kernel)) (fun _ _ _ _ _ => (pg_name (i := 1) nd rfl (Or.inl rfl))) (fun _ _ _ _ _ => pts_nil) (fun _ _ _ _ _ => (pe_chain op_le op_le pe_int (pe_callB call_ord (by rfl) b_ord (by decide +kernel) (pa_cons (pv 1) pa_nil)) pe_int))) pa_nil)))))))) (pss_one (ps_raise rfl (takes_of rfl rfl rfl rfl) (pmk_txt R_BadText (by rfl))))
      pss_nil)), ?_⟩
  obtain ⟨v, rfl, ⟨s, rfl, hz⟩ | hv, kY, kN⟩ := h
  · have eb : textB (.str s) = (decide (s.length ≤ 40) && (cs s).all fun c => decide (32 ≤ c) && decide (c ≤ 126)) := rfl
    walk_at "x"
    refine x_isi (b := true) (.ty _) (.base (.str s)) (kit_ty (by decide +kernel)) ?_
    walk_at "x"
    refine iteF ?_
    walk_at "x"
    refine x_lenT (by omega) ?_
    walk_at "x"
    refine x_ifd (fun h1 => ?_) (fun h1 => ?_)
    · refine iteT ?_
      walk_at "x"
      refine kN ?_ H Ex.rfl
      rw [eb, decide_eq_false (by omega), Bool.false_and]
    · walk_at "x"
      refine x_lcSV ⟨fun _ => rfl, ?_, fun _ => true, fun v => match v with | .str a => .bl (decide (32 ≤ a.cps.getD 0 0) && decide (a.cps.getD 0 0 ≤ 126)) | _ => .non, fun x hx H' e R k => k H' Ex.rfl, fun x hx _ H' e R k => ?_, fun D H' hD e hl => ?_⟩
      · rw [List.length_map, ← len_cs]
        omega
      · obtain ⟨c, hc, rfl⟩ := List.mem_map.mp hx
        walk_at "x"
        refine ⟨_, rfl, rfl, ?_⟩
        walk_at "x"
        have e0 : (⟨#[c]⟩ : Str).cps.getD 0 0 = c := rfl
        have k2 : ∀ H2, Ex H' H2 → R (.bl (decide (32 ≤ c) && decide (c ≤ 126))) H2 := k
        refine x_ifd (fun h5 => ?_) (fun h5 => ?_)
        · walk_at "x"
          have := k2 H' Ex.rfl
          rw [decide_eq_true (show 32 ≤ c by rw [e0] at h5; omega), Bool.true_and] at this
          rw [e0, show decide ((c : Int) ≤ 126) = decide (c ≤ 126) from decide_eq_decide.mpr (by omega)]
          exact this
        · have := k2 H' Ex.rfl
          rw [decide_eq_false (show ¬ 32 ≤ c by rw [e0] at h5; omega), Bool.false_and] at this
          exact this
      · walk_at "x"
        refine x_all (bs := (cs s).map fun c => decide (32 ≤ c) && decide (c ≤ 126)) (.inl (.inl ?_)) ?_
        · rw [hl]
          congr 2
          rw [List.filter_eq_self.mpr (fun _ _ => rfl), List.map_map, List.map_map]
          rfl
        · walk_at "x"
          rw [List.all_map]
          refine x_if (fun h3 => ?_) (fun h3 => ?_)
          · walk_at "x"
            refine kN ?_ H' e
            have h4 : (!(cs s).all fun c => decide (32 ≤ c) && decide (c ≤ 126)) = true := h3
            rw [Bool.not_eq_true'] at h4
            rw [eb, h4, Bool.and_false]
          · walk_at "x"
            refine kY ?_ H' e
            have h4 : (!(cs s).all fun c => decide (32 ≤ c) && decide (c ≤ 126)) = false := h3
            rw [Bool.not_eq_false'] at h4
            rw [eb, h4, Bool.and_true]
            exact decide_eq_true (by omega)
  · have e : textB v = false := by
      cases v with
      | str s => exact (not_text hv).elim
      | _ => rfl
    obtain ⟨tv, ht, hk⟩ := hv
    walk_at "x"
    refine x_isi (.ty _) ht hk ?_
    walk_at "x"
    refine iteT ?_
    refine iteT ?_
    walk_at "x"
    exact kN e H Ex.rfl
abbrev N_House_make_leaf : List Str := ["self", "user", "path", "text", "rights"]
theorem sc_House_make_leaf : FnScope N_House_make_leaf ["self", "user", "path", "text", "rights"] (defScope s_House_make_leaf) := ⟨rfl, rfl, rfl, by decide +kernel, rfl, by decide +kernel, by decide +kernel⟩
theorem ok_House_make_leaf {P : Program} {w : World} {K : PySem.W.Frag} {mg : Str → Option Value} {base : Heap} {f : Addr} {fd : FuncData} (F : FunD K "make_leaf" "House.make_leaf" (defArgs s_House_make_leaf) (defBody s_House_make_leaf) (defScope s_House_make_leaf) [] [] f fd)
    (F_World_look_user : Mt P w K mg base 2 (cHouse K) "look_user" ["self", "user"] [] (sp_look_user K)) (F_look_text : Fn P w K mg base 1 "look_text" ["text"] (sp_look_text K)) (F_look_rights : Fn P w K mg base 2 "look_rights" ["rights"] (sp_look_rights K)) (CK : ClsK K) (F_House_made_at : Mt P w K mg base 8 (cHouse K) "made_at" ["self", "user", "path", "kind", "rights"] [] (sp_made_at K))  : FnOk P w K mg base (L2.CX P w) 9 f fd ["self", "user", "path", "text", "rights"] (sp_make_leaf K) := by
  have nd := sc_House_make_leaf.nd
  refine F.ok (k := 8) sc_House_make_leaf (fun vs H Q E h => ?_) (fun cdv A outer s H vs Q E hr h => ?_)
  · obtain ⟨_, _, _, _, _, _, _, rfl, _⟩ := h
    rfl
  have hu := hu_of hr
  refine ⟨_, (pss_cons (ps_expr (pe_mtS F_World_look_user (pv 0) (hr.mono (by decide)) (passD rfl rfl rfl rfl) (pa_cons (pv 1) pa_nil)))
      (pss_cons (ps_expr (pe_fn F_look_text (hr.mono (by decide)) (by rfl) (passD rfl rfl rfl rfl) (pa_cons (pv 3) pa_nil)))
      (pss_cons (ps_expr (pe_fn F_look_rights (hr.mono (by decide)) (by rfl) (passD rfl rfl rfl rfl) (pa_cons (pv 4) pa_nil)))
      (pss_one (ps_fld (pe_dget hu (pe_fld (pv 0) (by rfl)) (pe_mtS F_House_made_at (pv 0) (hr.mono (by decide)) (passD rfl rfl rfl rfl) (pa_cons (pv 1) (pa_cons (pv 2) (pa_cons pe_str (pa_cons (pv 4) pa_nil))))) (fun _ _ => rfl)) (pv 3) rfl))))), ?_⟩
  obtain ⟨h, L, W, vu, vp, vt, vr, rfl, hh, ok, sm, hu', hp, ht', hr', kE, kO⟩ := h
  walk_at "x"
  refine hh.ob ?_
  walk_at "x"
  refine ⟨h, L, W, vu, rfl, hh, hu', fun hb H1 e1 => ?_, fun hb H1 e1 => kE (.no 3) (by unfold leafV userB; rw [if_pos hb]) _ _ H1 e1 ⟨rfl, rfl⟩⟩
  obtain ⟨u, rfl, ui, u0, u1⟩ := userB_int ok hb
  have hb : userB W (.int u) = true := hb
  have hh1 := hh.up e1
  walk_at "x"
  refine ⟨vt, rfl, ht'.ex e1, fun hbt H1b e1b => ?_, fun hbt H1b e1b => kE (.no 1) (by unfold leafV; rw [if_neg (by rw [hb]; decide), if_pos hbt]) _ _ H1b (e1.tr e1b) ⟨rfl, rfl⟩⟩
  have E1 := e1.tr e1b
  have same := hr'.same E1
  walk_at "x"
  refine ⟨vr, rfl, hr'.ex E1, fun hb2 H2 e2 => ?_, fun hb2 H2 e2 => kE (.no 2) (by unfold leafV; rw [if_neg (by rw [hb]; decide), if_neg (by rw [hbt]; decide), if_pos (by rw [← same]; exact hb2)]) _ _ H2 (E1.tr e2) ⟨rfl, rfl⟩⟩
  rw [same] at hb2
  obtain ⟨rt, r0, r1, r2, rfl, hrt, rr⟩ := rightsB_tup hb2
  have E2 := E1.tr e2
  have hh2 := hh.up E2
  have rv : leafV W H (.int u) vp vt (.ref rt) = ofPl (freeV W u vp) := by
    unfold leafV
    rw [if_neg (by rw [hb]; decide), if_neg (by rw [hbt]; decide), if_neg (by rw [hb2]; decide)]
    rfl
  obtain ⟨t, rfl, tl⟩ : ∃ t, vt = .str t ∧ t.length ≤ 40 := by
    cases vt with
    | str t =>
      have hbt : (decide (t.length ≤ 40) && (cs t).all fun c => decide (32 ≤ c) && decide (c ≤ 126)) = true := hbt
      rw [Bool.and_eq_true, decide_eq_true_eq] at hbt
      exact ⟨t, rfl, hbt.1⟩
    | _ => cases hbt
  walk_at "x"
  refine hh2.fN CK ?_
  walk_at "x"
  refine hh2.ob ?_
  walk_at "x"
  refine ⟨h, L, W, u, vp, "leaf", rt, r0, r1, r2, rfl, hh2, ok, u0, u1, hp.ex E2, sm, E2 _ _ hrt, fun e he cls d H3 e3 ha => ?_, fun ss n hf L' H3 hh3 o3 g3 => ?_⟩
  · exact kE e (by rw [rv, he]; rfl) cls d H3 (E2.tr e3) ha
  · obtain ⟨hpl, hlk⟩ := free_place hf
    obtain ⟨pk1, pk2, pk3⟩ := place_ok ok hpl
    have hll := last_lt pk1 pk2
    have hk3 : W.nodes.length < (madeW W (last ss).number n (newNd W "leaf" u r0 r1 r2)).nodes.length := by
      unfold madeW
      rw [Wd.len_put, Wd.add_len]
      omega
    walk_at "x"
    rw [← g3.1.1]
    refine hh3.node hk3 ?_
    walk_at "x"
    refine hh3.setF CK hk3 { (madeW W (last ss).number n (newNd W "leaf" u r0 r1 r2)).at W.nodes.length with text := t } (CK.nf _ (by decide)) (fun _ _ => by rfl) rfl rfl fun H4 hh4 o4 => ?_
    rw [made_text hll] at hh4
    walk_at "x"
    refine kO ss n (by rw [rv, hf]; rfl) rt r0 r1 r2 rfl hrt L' H4 hh4 ?_ (fun b o hb hn => ?_) (g3.back E2)
    · exact made_ok ok hll (place_room ok hpl) pk3 hlk ⟨rfl, fun z => absurd z (show ¬ ("leaf" : Str) = "hint" by decide +kernel), by show t.length ≤ 200; omega, rr, .inr (.inl rfl)⟩
    · refine o4 b o (o3 b o (E2 _ _ hb) hn) fun z => ?_
      rcases g3.2 b z with z | z
      · exact hn z
      · rw [E2 _ _ hb] at z
        cases z
abbrev N_House_make_room : List Str := ["self", "user", "path", "rights"]
theorem sc_House_make_room : FnScope N_House_make_room ["self", "user", "path", "rights"] (defScope s_House_make_room) := ⟨rfl, rfl, rfl, by decide +kernel, rfl, by decide +kernel, by decide +kernel⟩
theorem ok_House_make_room {P : Program} {w : World} {K : PySem.W.Frag} {mg : Str → Option Value} {base : Heap} {f : Addr} {fd : FuncData} (F : FunD K "make_room" "House.make_room" (defArgs s_House_make_room) (defBody s_House_make_room) (defScope s_House_make_room) [] [] f fd)
    (F_World_look_user : Mt P w K mg base 2 (cHouse K) "look_user" ["self", "user"] [] (sp_look_user K)) (F_look_rights : Fn P w K mg base 2 "look_rights" ["rights"] (sp_look_rights K)) (F_House_made_at : Mt P w K mg base 8 (cHouse K) "made_at" ["self", "user", "path", "kind", "rights"] [] (sp_made_at K))  : FnOk P w K mg base (L2.CX P w) 9 f fd ["self", "user", "path", "rights"] (sp_make_room K) := by
  have nd := sc_House_make_room.nd
  refine F.ok (k := 8) sc_House_make_room (fun vs H Q E h => ?_) (fun cdv A outer s H vs Q E hr h => ?_)
  · obtain ⟨_, _, _, _, _, _, rfl, _⟩ := h
    rfl
  have hu := hu_of hr
  refine ⟨_, (pss_cons (ps_expr (pe_mtS F_World_look_user (pv 0) (hr.mono (by decide)) (passD rfl rfl rfl rfl) (pa_cons (pv 1) pa_nil)))
      (pss_cons (ps_expr (pe_fn F_look_rights (hr.mono (by decide)) (by rfl) (passD rfl rfl rfl rfl) (pa_cons (pv 3) pa_nil)))
      (pss_one (ps_expr (pe_mtS F_House_made_at (pv 0) (hr.mono (by decide)) (passD rfl rfl rfl rfl) (pa_cons (pv 1) (pa_cons (pv 2) (pa_cons pe_str (pa_cons (pv 3) pa_nil))))))))), ?_⟩
  obtain ⟨h, L, W, vu, vp, vr, rfl, hh, ok, sm, hu', hp, hr', kE, kO⟩ := h
  walk_at "x"
  refine hh.ob ?_
  walk_at "x"
  refine ⟨h, L, W, vu, rfl, hh, hu', fun hb H1 e1 => ?_, fun hb H1 e1 => kE (.no 3) (by unfold roomV userB; rw [if_pos hb]) _ _ H1 e1 ⟨rfl, rfl⟩⟩
  obtain ⟨u, rfl, ui, u0, u1⟩ := userB_int ok hb
  have hh1 := hh.up e1
  walk_at "x"
  have same := hr'.same e1
  refine ⟨vr, rfl, hr'.ex e1, fun hb2 H2 e2 => ?_, fun hb2 H2 e2 => kE (.no 2) (by unfold roomV; rw [if_neg (by rw [show userB W (.int u) = true from hb]; decide), if_pos (by rw [← same]; exact hb2)]) _ _ H2 (e1.tr e2) ⟨rfl, rfl⟩⟩
  rw [same] at hb2
  obtain ⟨rt, r0, r1, r2, rfl, hrt, rr⟩ := rightsB_tup hb2
  have hh2 := hh1.up e2
  have E2 := e1.tr e2
  have rv : roomV W H (.int u) vp (.ref rt) = ofPl (freeV W u vp) := by
    unfold roomV
    rw [if_neg (by rw [show userB W (.int u) = true from hb]; decide), if_neg (by rw [hb2]; decide)]
    rfl
  walk_at "x"
  refine hh2.ob ?_
  walk_at "x"
  refine ⟨h, L, W, u, vp, "room", rt, r0, r1, r2, rfl, hh2, ok, u0, u1, hp.ex E2, sm, E2 _ _ hrt, fun e he cls d H3 e3 ha => ?_, fun ss n hf L' H3 hh3 o3 g3 => ?_⟩
  · exact kE e (by rw [rv, he]; rfl) cls d H3 (E2.tr e3) ha
  · walk_at "x"
    obtain ⟨hpl, hlk⟩ := free_place hf
    obtain ⟨pk1, pk2, pk3⟩ := place_ok ok hpl
    refine kO ss n (by rw [rv, hf]; rfl) rt r0 r1 r2 rfl hrt L' H3 hh3 ?_ (fun b o hb hn => o3 b o (E2 _ _ hb) hn) ⟨g3.1, fun a ha => ?_⟩
    · exact made_ok ok (last_lt pk1 pk2) (place_room ok hpl) pk3 hlk ⟨rfl, fun z => absurd z (show ¬ ("room" : Str) = "hint" by decide +kernel), Nat.zero_le _, rr, .inl rfl⟩
    · rcases g3.2 a ha with z | z
      · exact .inl z
      · exact .inr (back_none E2 z)
abbrev N_House_read : List Str := ["self", "user", "path", "number"]
theorem sc_House_read : FnScope N_House_read ["self", "user", "path"] (defScope s_House_read) := ⟨rfl, rfl, rfl, by decide +kernel, rfl, by decide +kernel, by decide +kernel⟩
theorem ok_House_read {P : Program} {w : World} {K : PySem.W.Frag} {mg : Str → Option Value} {base : Heap} {f : Addr} {fd : FuncData} (F : FunD K "read" "House.read" (defArgs s_House_read) (defBody s_House_read) (defScope s_House_read) [] [] f fd)
    (F_World_look_user : Mt P w K mg base 2 (cHouse K) "look_user" ["self", "user"] [] (sp_look_user K)) (F_World_end_ofD : Mt P w K mg base 5 (cHouse K) "end_of" ["self", "user", "path", "follow"] [.bl true] (sp_end_of K)) (CK : ClsK K) (R_NotLeaf : Rz K mg "NotLeaf" (He.ga K "NotLeaf")) (c_SEE : ∃ t, mg "SEE" = some (.int 4 t)) (F_World_look_right : Mt P w K mg base 3 (cHouse K) "look_right" ["self", "user", "number", "right"] [] (sp_look_right K))  : FnOk P w K mg base (L2.CX P w) 6 f fd ["self", "user", "path"] (sp_read K) := by
  have nd := sc_House_read.nd
  refine F.ok (k := 5) sc_House_read (fun vs H Q E h => ?_) (fun cdv A outer s H vs Q E hr h => ?_)
  · obtain ⟨_, _, _, _, _, rfl, _⟩ := h
    rfl
  have hu := hu_of hr
  refine ⟨_, (pss_cons (ps_expr (pe_mtS F_World_look_user (pv 0) (hr.mono (by decide)) (passD rfl rfl rfl rfl) (pa_cons (pv 1) pa_nil)))
      (pss_cons (ps_set (i := 3) nd rfl (Or.inl rfl) (pe_mtS F_World_end_ofD (pv 0) (hr.mono (by decide)) (passD rfl rfl rfl rfl) (pa_cons (pv 1) (pa_cons (pv 2) pa_nil))))
      (pss_mid (ps_if (pt_cmpR op_ne (pe_fld (pe_dget hu (pe_fld (pv 0) (by rfl)) (pv 3) (fun _ _ => rfl)) (by rfl)) pe_str (nomark _)) (pss_one (ps_raise rfl (takes_of rfl rfl rfl rfl) (pmk_txt R_NotLeaf (by rfl))))
      pss_nil)
      (pss_cons (ps_expr (pe_mtS F_World_look_right (pv 0) (hr.mono (by decide)) (passD rfl rfl rfl rfl) (pa_cons (pv 1) (pa_cons (pv 3) (pa_cons (pe_gint c_SEE (by rfl)) pa_nil)))))
      (pss_one (ps_ret (pe_fld (pe_dget hu (pe_fld (pv 0) (by rfl)) (pv 3) (fun _ _ => rfl)) (by rfl)))))))), ?_⟩
  obtain ⟨h, L, W, vu, v, rfl, hh, ok, hu', hv, kE, kO⟩ := h
  walk_at "x"
  refine hh.ob ?_
  walk_at "x"
  refine ⟨h, L, W, vu, rfl, hh, hu', fun hb H1 e1 => ?_, fun hb H1 e1 => kE (.no 3) (by unfold readR atR userB; rw [if_pos hb]) _ _ H1 e1 ⟨rfl, rfl⟩⟩
  obtain ⟨u, rfl, ui, u0, u1⟩ := userB_int ok hb
  have hb : userB W (.int u) = true := hb
  have ar : ∀ f, atR W (.int u) v f = wayV W u f v := fun f => by
    unfold atR
    rw [if_neg (by rw [hb]; decide)]
    rfl
  have hh1 := hh.up e1
  walk_at "x"
  refine hh1.ob ?_
  walk_at "x"
  refine end_ofV hh1 ok u0 u1 (hv.ex e1) (fun e he cls d H2 e2 ha => kE e (by unfold readR; rw [ar, he]) cls d H2 (e1.tr e2) ha) fun ss num hw H2 e2 => ?_
  have hl := endV_lt ok hw
  have hh2 := hh1.up e2
  have gr : readR W (.int u) v = if (W.at (endNum ss num)).kind = "leaf" then if mayOf W u (endNum ss num) 4 = true then .ok (endNum ss num) else .err (.right u (endNum ss num)) else .err (.no 7) := by
    unfold readR
    rw [ar, hw]
    rfl
  walk_at "x"
  refine x_thru ?_
  walk_at "x"
  refine hh2.fN CK ?_
  walk_at "x"
  refine hh2.node hl ?_
  walk_at "x"
  refine (hh2.nod _ hl).kind CK ?_
  walk_at "x"
  refine x_ifn (fun h1 => ?_) (fun h1 => ?_)
  · rw [if_neg (fun z => h1 (by rw [z]))] at gr
    walk_at "x"
    exact kE (.no 7) gr _ _ H2 (e1.tr e2) ⟨rfl, rfl⟩
  · rw [if_pos (V.str.inj h1)] at gr
    walk_at "x"
    refine hh2.ob ?_
    walk_at "x"
    refine ⟨h, L, W, u, endNum ss num, 4, rfl, hh2, u0, u1, hl, fun hm => ?_, fun hm cls d H3 e3 ha => ?_⟩
    · rw [if_pos hm] at gr
      walk_at "x"
      refine hh2.fN CK ?_
      walk_at "x"
      refine hh2.node hl ?_
      walk_at "x"
      refine (hh2.nod _ hl).text CK ?_
      exact kO _ gr H2 (e1.tr e2)
    · rw [if_neg (by rw [hm]; decide)] at gr
      exact kE _ gr cls d H3 ((e1.tr e2).tr e3) ha
abbrev N_House_write : List Str := ["self", "user", "path", "text", "number"]
theorem sc_House_write : FnScope N_House_write ["self", "user", "path", "text"] (defScope s_House_write) := ⟨rfl, rfl, rfl, by decide +kernel, rfl, by decide +kernel, by decide +kernel⟩
theorem ok_House_write {P : Program} {w : World} {K : PySem.W.Frag} {mg : Str → Option Value} {base : Heap} {f : Addr} {fd : FuncData} (F : FunD K "write" "House.write" (defArgs s_House_write) (defBody s_House_write) (defScope s_House_write) [] [] f fd)
    (F_World_look_user : Mt P w K mg base 2 (cHouse K) "look_user" ["self", "user"] [] (sp_look_user K)) (F_look_text : Fn P w K mg base 1 "look_text" ["text"] (sp_look_text K)) (F_World_end_ofD : Mt P w K mg base 5 (cHouse K) "end_of" ["self", "user", "path", "follow"] [.bl true] (sp_end_of K)) (CK : ClsK K) (R_NotLeaf : Rz K mg "NotLeaf" (He.ga K "NotLeaf")) (c_CHANGE : ∃ t, mg "CHANGE" = some (.int 2 t)) (F_World_look_right : Mt P w K mg base 3 (cHouse K) "look_right" ["self", "user", "number", "right"] [] (sp_look_right K))  : FnOk P w K mg base (L2.CX P w) 6 f fd ["self", "user", "path", "text"] (sp_write K) := by
  have nd := sc_House_write.nd
  refine F.ok (k := 5) sc_House_write (fun vs H Q E h => ?_) (fun cdv A outer s H vs Q E hr h => ?_)
  · obtain ⟨_, _, _, _, _, _, rfl, _⟩ := h
    rfl
  have hu := hu_of hr
  refine ⟨_, (pss_cons (ps_expr (pe_mtS F_World_look_user (pv 0) (hr.mono (by decide)) (passD rfl rfl rfl rfl) (pa_cons (pv 1) pa_nil)))
      (pss_cons (ps_expr (pe_fn F_look_text (hr.mono (by decide)) (by rfl) (passD rfl rfl rfl rfl) (pa_cons (pv 3) pa_nil)))
      (pss_cons (ps_set (i := 4) nd rfl (Or.inl rfl) (pe_mtS F_World_end_ofD (pv 0) (hr.mono (by decide)) (passD rfl rfl rfl rfl) (pa_cons (pv 1) (pa_cons (pv 2) pa_nil))))
      (pss_mid (ps_if (pt_cmpR op_ne (pe_fld (pe_dget hu (pe_fld (pv 0) (by rfl)) (pv 4) (fun _ _ => rfl)) (by rfl)) pe_str (nomark _)) (pss_one (ps_raise rfl (takes_of rfl rfl rfl rfl) (pmk_txt R_NotLeaf (by rfl))))
      pss_nil)
      (pss_cons (ps_expr (pe_mtS F_World_look_right (pv 0) (hr.mono (by decide)) (passD rfl rfl rfl rfl) (pa_cons (pv 1) (pa_cons (pv 4) (pa_cons (pe_gint c_CHANGE (by rfl)) pa_nil)))))
      (pss_one (ps_fld (pe_dget hu (pe_fld (pv 0) (by rfl)) (pv 4) (fun _ _ => rfl)) (pv 3) rfl))))))), ?_⟩
  obtain ⟨h, L, W, vu, vp, vt, rfl, hh, ok, hu', hp, ht', kE, kO⟩ := h
  walk_at "x"
  refine hh.ob ?_
  walk_at "x"
  refine ⟨h, L, W, vu, rfl, hh, hu', fun hb H1 e1 => ?_, fun hb H1 e1 => kE (.no 3) (by unfold writeR userB; rw [if_pos hb]) _ _ H1 e1 ⟨rfl, rfl⟩⟩
  obtain ⟨u, rfl, ui, u0, u1⟩ := userB_int ok hb
  have hb : userB W (.int u) = true := hb
  have hh1 := hh.up e1
  have sr : writeR W (.int u) vp vt = if textB vt = false then .err (.no 1) else match wayV W u true vp with
      | .err e => .err e
      | .ok (ss, num) => if (W.at (endNum ss num)).kind = "leaf" then if mayOf W u (endNum ss num) 2 = true then .ok (endNum ss num) else .err (.right u (endNum ss num)) else .err (.no 7) := by
    unfold writeR
    rw [if_neg (by rw [hb]; decide)]
    rfl
  rw [sr] at kE kO
  walk_at "x"
  refine ⟨vt, rfl, ht'.ex e1, fun htb H2 e2 => ?_, fun htb H2 e2 => ?_⟩
  · rw [if_neg (by rw [htb]; decide)] at kE kO
    have hh2 := hh1.up e2
    walk_at "x"
    refine hh2.ob ?_
    walk_at "x"
    refine end_ofV hh2 ok u0 u1 (hp.ex (e1.tr e2)) (fun e he cls d H3 e3 ha => kE e (by rw [he]) cls d H3 ((e1.tr e2).tr e3) ha) fun ss num hw H3 e3 => ?_
    rw [hw] at kE kO
    have hl := endV_lt ok hw
    have hh3 := hh2.up e3
    have E3 := (e1.tr e2).tr e3
    have N := hh3.nod _ hl
    have okn := ok.at hl
    have gr : ∀ {z : Res Nat}, (if (W.at (endNum ss num)).kind = "leaf" then if mayOf W u (endNum ss num) 2 = true then .ok (endNum ss num) else .err (.right u (endNum ss num)) else .err (.no 7) : Res Nat) = z → (match (Res.ok (ss, num) : Res (List Std × Option Nat)) with
      | .err e => .err e
      | .ok (ss, num) => if (W.at (endNum ss num)).kind = "leaf" then if mayOf W u (endNum ss num) 2 = true then .ok (endNum ss num) else .err (.right u (endNum ss num)) else .err (.no 7) : Res Nat) = z := fun z => z
    walk_at "x"
    refine x_thru ?_
    walk_at "x"
    refine hh3.fN CK ?_
    walk_at "x"
    refine hh3.node hl ?_
    walk_at "x"
    refine N.kind CK ?_
    walk_at "x"
    refine x_ifn (fun h1 => ?_) (fun h1 => ?_)
    · walk_at "x"
      exact kE (.no 7) (gr (if_neg (fun z => h1 (by rw [z])))) _ _ H3 E3 ⟨rfl, rfl⟩
    · have hk := V.str.inj h1
      walk_at "x"
      refine hh3.ob ?_
      walk_at "x"
      refine ⟨h, L, W, u, endNum ss num, 2, rfl, hh3, u0, u1, hl, fun hm => ?_, fun hm cls d H4 e4 ha => ?_⟩
      · walk_at "x"
        refine hh3.fN CK ?_
        walk_at "x"
        refine hh3.node hl ?_
        walk_at "x"
        obtain ⟨t, rfl, tl⟩ : ∃ t, vt = .str t ∧ t.length ≤ 40 := by
          unfold textB at htb
          split at htb
          · rename_i t
            rw [Bool.and_eq_true, decide_eq_true_eq] at htb
            exact ⟨t, rfl, htb.1⟩
          · cases htb
        refine hh3.setF CK hl { W.at (endNum ss num) with text := t } (CK.nf _ (by decide)) (fun _ _ => by rfl) rfl rfl fun H4 hh4 o4 => ?_
        walk_at "x"
        refine kO _ (gr (by rw [if_pos hk, if_pos hm])) H4 hh4 (put_ok ok hl rfl rfl (fun z => absurd (hk.symm.trans z) (show ¬ ("leaf" : Str) = "hint" by decide +kernel)) (by show t.length ≤ 200; omega) okn.rts) fun b x hb hn => o4 _ _ (E3 _ _ hb) hn
      · exact kE _ (gr (by rw [if_pos hk, if_neg (by rw [hm]; decide)])) cls d H4 (E3.tr e4) ha
  · rw [if_pos htb] at kE
    exact kE _ rfl _ _ H2 (e1.tr e2) ⟨rfl, rfl⟩
abbrev N_World___init__ : List Str := ["self", "groups", "fine", "group"]
theorem sc_World___init__ : FnScope N_World___init__ ["self", "groups"] (defScope s_World___init__) := ⟨rfl, rfl, rfl, by decide +kernel, rfl, by decide +kernel, by decide +kernel⟩
theorem ok_World___init__ {P : Program} {w : World} {K : PySem.W.Frag} {mg : Str → Option Value} {base : Heap} {f : Addr} {fd : FuncData} (F : FunD K "__init__" "World.__init__" (defArgs s_World___init__) (defBody s_World___init__) (defScope s_World___init__) [] [] f fd)
    (b_isinstance : mg "isinstance" = none) (b_list : mg "list" = none) (b_len : mg "len" = none) (c_MOST_USERS : ∃ t, mg "MOST_USERS" = some (.int 8 t)) (b_all : mg "all" = none) (F_is_small : Fn P w K mg base 1 "is_small" ["thing", "high"] (sp_is_small K)) (R_BadRights : Rz K mg "BadRights" (He.ga K "BadRights")) (CK : ClsK K) (M_Node : Mks P w K mg base 1 "Node" (He.ga K "Node") ["self", "kind", "owner", "group", "rights"] (sp_Node K)) (c_KEEPER : ∃ t, mg "KEEPER" = some (.int 0 t))  : FnOk P w K mg base (L2.CX P w) 3 f fd ["self", "groups"] (sp_World K) := by
  have nd := sc_World___init__.nd
  refine F.ok (k := 2) sc_World___init__ (fun vs H Q E h => ?_) (fun cdv A outer s H vs Q E hr h => ?_)
  · obtain ⟨_, _, _, rfl, _⟩ := h
    rfl
  have hu := hu_of hr
  refine ⟨_, (pss_mid (ps_set (i := 2) nd rfl (Or.inl rfl) (pe_and (pe_callB call_isi (by rfl) b_isinstance (by decide +kernel) (pa_cons (pv 1) (pa_cons (pe_ty (n := "list") b_list (by decide +kernel) (by rfl)) pa_nil))) (pe_one (pe_chain op_le op_le pe_int (pe_callB call_lenQ (by rfl) b_len (by decide +kernel) (pa_cons (pv 1) pa_nil)) (pe_gint c_MOST_USERS (by rfl))))))
      (pss_mid (ps_if (PW.pt (pw_or (pt_not (pt_val (pv 2))) (pw_or1 (pt_not (pt_val (pe_callB (cr_all rfl) (by rfl) b_all (by decide +kernel) (pa_cons (pe_lc (own := [("group", 3)]) (g := (gName 3)) (by rfl) nd (pi_list (pv 1)) (blkOk_by (own := [("group", 3)]) (N := N_World___init__) (sc := defScope s_World___init__) (by decide +kernel)) (fun _ _ _ _ _ => (pg_name (i := 3) nd rfl (Or.inl rfl))) (fun _ _ _ _ _ => pts_nil) (fun _ _ _ _ _ => (pe_fn F_is_small (hr.mono (by decide)) (by rfl) (passC rfl) (pa_cons (pv 3) (pa_cons pe_int pa_nil))))) pa_nil))))))) (pss_one (ps_raise rfl (takes_of rfl rfl rfl rfl) (pmk_txt R_BadRights (by rfl))))
      pss_nil)
      (pss_cons (ps_fld (pv 0) (pe_callTy call_mkL (by rfl) b_list (by decide +kernel) (pa_cons (pv 1) pa_nil)) rfl)
      (pss_cons (ps_fld (pv 0) (pe_disp (pps_cons pe_int (pe_mkS M_Node (hr.mono (by decide)) (by rfl) (passD rfl rfl rfl rfl) (pa_cons pe_str (pa_cons (pe_gint c_KEEPER (by rfl)) (pa_cons (pe_ix ix_list (pv 1) pe_int (fun _ _ => rfl)) (pa_cons (pe_tup (pa_cons pe_int (pa_cons pe_int (pa_cons pe_int pa_nil)))) pa_nil))))) pps_nil) (by rfl) (by rfl) (fun z => by cases z) (by decide)) rfl)
      (pss_cons (ps_fld (pv 0) pe_int rfl)
      (pss_one (ps_fld (pv 0) pe_dnewK rfl))))))), ?_⟩
  obtain ⟨x, dx, v, rfl, hx, ⟨a, xs, rfl, ha, hz, hi, kN, kY⟩ | ⟨⟨tv, ht, hk⟩, kN⟩⟩ := h
  · walk_at "x"
    dsimp only
    refine x_cutM (fun σ' H' => σ' = [some (.ref x), some (.ref a), some (.bl (decide (1 ≤ xs.length) && decide (xs.length ≤ 8))), none] ∧ H' = H) ?_ ?_
    · walk_at "x"
      refine x_isi (b := true) (.ty _) (.base (.lst ha)) (kit_ty (by decide +kernel)) ?_
      walk_at "x"
      refine iteT ?_
      walk_at "x"
      refine x_lenL (SqL.of ha) ?_
      walk_at "x"
      refine x_ifd (fun h1 => ?_) (fun h1 => ?_)
      · walk_at "x"
        rw [decide_eq_true (show 1 ≤ xs.length by omega), Bool.true_and]
        exact ⟨by rw [show decide ((xs.length : Int) ≤ 8) = decide (xs.length ≤ 8) from decide_eq_decide.mpr (by omega)]; rfl, rfl⟩
      · walk_at "x"
        rw [decide_eq_false (show ¬ 1 ≤ xs.length by omega), Bool.false_and]
        exact ⟨rfl, rfl⟩
    rintro σ' H' ⟨rfl, rfl⟩
    refine x_cutE (fun _ => groupsB xs = true) ?_ (fun H1 e1 hg => ?_)
    · walk_at "x"
      refine x_if (fun h1 => ?_) (fun h1 => ?_)
      · refine iteT ?_
        walk_at "x"
        refine kN ?_ H' (fun b o _ hb => hb)
        have h1 : (!(decide (1 ≤ xs.length) && decide (xs.length ≤ 8))) = true := h1
        unfold groupsB
        rw [Bool.not_eq_true'] at h1
        rw [← Bool.and_assoc, h1, Bool.false_and]
      · have h1 : (!(decide (1 ≤ xs.length) && decide (xs.length ≤ 8))) = false := h1
        rw [Bool.not_eq_false'] at h1
        walk_at "x"
        refine x_lcLV (SqL.of ha) ⟨fun _ => rfl, by omega, fun _ => true, fun v => .bl (smallV v 99), fun x hx H' e R k => k H' Ex.rfl, fun y hm _ H' e R k => ?_, fun D H1 hD e hl => ?_⟩
        · walk_at "x"
          exact ⟨y, 99, rfl, (hi y hm).ex e, fun H' e => k H' e⟩
        · walk_at "x"
          refine x_all (bs := xs.map fun x => smallV x 99) (.inl (.inl ?_)) ?_
          · rw [hl]
            congr 2
            rw [List.filter_eq_self.mpr (fun _ _ => rfl), List.map_map]
            rfl
          · walk_at "x"
            rw [List.all_map]
            refine x_if (fun h3 => ?_) (fun h3 => ?_)
            · walk_at "x"
              refine kN ?_ H1 (fun b o _ hb => e _ _ hb)
              have h4 : (!xs.all fun x => smallV x 99) = true := h3
              rw [Bool.not_eq_true'] at h4
              unfold groupsB
              rw [h4, Bool.and_false, Bool.and_false]
            · walk_at "x"
              refine ⟨rfl, e, ?_⟩
              have h4 : (!xs.all fun x => smallV x 99) = false := h3
              rw [Bool.not_eq_false'] at h4
              unfold groupsB
              rw [h4, Bool.and_true]
              exact h1
    have hg' := hg
    unfold groupsB at hg'
    rw [Bool.and_eq_true, Bool.and_eq_true, decide_eq_true_eq, decide_eq_true_eq] at hg'
    obtain ⟨gs, rfl⟩ := smalls_ints hg'.2.2
    have kY := kY gs rfl hg
    rw [List.length_map] at hg'
    have ne : ∀ {b : Addr} {o : HO} {G : Hp}, G b = none → G x = some o → b ≠ x := fun h1 h2 z => by rw [z, h2] at h1; cases h1
    walk_at "x"
    refine x_mkL (SqL.of (e1 _ _ ha)) fun l hl => ?_
    have e2 : Ex H1 (upd H1 l (.lst (gs.map V.int))) := Ex.new hl
    have h2 : upd H1 l (.lst (gs.map V.int)) l = some (.lst (gs.map V.int)) := upd_same
    generalize upd H1 l (.lst (gs.map V.int)) = H2 at e2 h2 ⊢
    have nl := ne hl (e1 _ _ hx)
    walk_at "x"
    refine x_fsetE [("groups", .ref l)] (e2 _ _ (e1 _ _ hx)) CK.h (CK.hf _ (by decide)) fun H3 h3 o3 => ?_
    have a3 : H3 a = some (.lst (gs.map V.int)) := by
      rw [o3 a fun z => by rw [z, hx] at ha; cases ha]
      exact e2 _ _ (e1 _ _ ha)
    have l3 : H3 l = some (.lst (gs.map V.int)) := by
      rw [o3 l nl]
      exact h2
    walk_at "x"
    refine x_disp fun p H4 hp e4 h4 => ?_
    have np := ne hp h3
    walk_at "x"
    refine x_ixL (SqL.of (e4 _ _ a3)) (atI_ints (by decide) (by omega)) ?_
    walk_at "x"
    refine x_newT fun rt H5 hrt e5 h5 => ?_
    walk_at "x"
    refine mk_node fun n nm ndx H6 hn hnm hne e6 h6 h7 => ?_
    walk_at "x"
    have x5 : H5 x = _ := e5 _ _ (e4 _ _ h3)
    have p5 : H5 p = _ := e5 _ _ h4
    refine x_dispV [(.inl 0, .ref n)] (e6 _ _ p5) rfl (by simp) fun H7 h8 o8 => ?_
    walk_at "x"
    have nn := ne hn x5
    have nnm := ne hnm x5
    have pn : n ≠ p := fun z => by rw [z, p5] at hn; cases hn
    have pnm : nm ≠ p := fun z => by rw [z, p5] at hnm; cases hnm
    refine x_fsetE [("groups", .ref l), ("nodes", .ref p)] (by rw [o8 x np.symm]; exact e6 _ _ x5) CK.h (CK.hf _ (by decide)) fun H8 h9 o9 => ?_
    walk_at "x"
    refine x_fsetE [("groups", .ref l), ("nodes", .ref p), ("made", .int 1)] h9 CK.h (CK.hf _ (by decide)) fun H9 h10 o10 => ?_
    walk_at "x"
    refine x_dnewK fun ov H10 hov e11 h11 => ?_
    have nov := ne hov h10
    walk_at "x"
    refine x_fsetE [("groups", .ref l), ("nodes", .ref p), ("made", .int 1), ("over", .ref ov)] (e11 _ _ h10) CK.h (CK.hf _ (by decide)) fun H11 h12 o12 => ?_
    walk_at "x"
    have up : ∀ {b : Addr} {o : HO}, b ≠ x → b ≠ p → H6 b = some o → H11 b = some o := fun {b o} b1 b2 hb => by
      rw [o12 b b1]
      refine e11 _ _ ?_
      rw [o10 b b1, o9 b b1, o8 b b2]
      exact hb
    have nrt : rt ≠ x := ne hrt (e4 _ _ h3)
    have prt : rt ≠ p := fun z => by rw [z, h4] at hrt; cases hrt
    have pl : l ≠ p := fun z => by rw [z, hp] at l3; cases l3
    have p11 : H11 p = some (.dK [(.inl 0, .ref n)]) := by
      rw [o12 p np]
      refine e11 _ _ ?_
      rw [o10 p np, o9 p np]
      exact h8
    have ov11 : H11 ov = some (.dK []) := by
      rw [o12 ov nov]
      exact h11
    have old : ∀ b o, b ≠ x → H' b = some o → H11 b = some o := fun b o b1 hb => by
      have z3 : H3 b = some o := by
        rw [o3 b b1]
        exact e2 _ _ (e1 _ _ hb)
      exact up b1 (fun z => by rw [z, hp] at z3; cases z3) (e6 _ _ (e5 _ _ (e4 _ _ z3)))
    have frs : ∀ b, b ≠ x → H3 b = none → H' b = none := fun b b1 hb => by
      cases y : H' b with
      | none => rfl
      | some o =>
        rw [o3 b b1, e2 _ _ (e1 _ _ y)] at hb
        cases hb
    have fr5 : ∀ b, b ≠ x → H5 b = none → H' b = none := fun b b1 hb => frs b b1 (back_none (e4.tr e5) hb)
    have nd9 : ∃ o, H9 n = some o := by
      rw [o10 n nn, o9 n nn, o8 n pn]
      exact ⟨_, h6⟩
    have nm9 : H9 nm = some (.dK []) := by
      rw [o10 nm nnm, o9 nm nnm, o8 nm pnm]
      exact h7
    have p9 : H9 p = some (.dK [(.inl 0, .ref n)]) := by
      rw [o10 p np, o9 p np]
      exact h8
    have ovn : ov ≠ n := fun z => by
      obtain ⟨o, nd9⟩ := nd9
      rw [z, nd9] at hov
      cases hov
    have ovnm : ov ≠ nm := fun z => by rw [z, nm9] at hov; cases hov
    have ovp : ov ≠ p := fun z => by rw [z, p9] at hov; cases hov
    refine kY ⟨l, p, ov, [n], [nm]⟩ H11 ⟨⟨dx, h12⟩, up nl pl (e6 _ _ (e5 _ _ (e4 _ _ l3))), p11, ov11, rfl, rfl, fun i hi => ?_, ?_⟩ old (fun b hb => ?_)
    · have : i = 0 := by
        have : i < 1 := hi
        omega
      subst this
      exact ⟨⟨ndx, rt, up nn pn h6, up nrt prt (e6 _ _ h5)⟩, up nnm pnm h7⟩
    · show [x, p, ov, n, nm].Nodup
      simp only [List.nodup_cons, List.mem_cons, List.not_mem_nil, or_false, not_or, List.nodup_nil, and_true, not_false_eq_true]
      exact ⟨⟨np.symm, nov.symm, nn.symm, nnm.symm⟩, ⟨ovp.symm, pn.symm, pnm.symm⟩, ⟨ovn, ovnm⟩, hne⟩
    · unfold fp at hb
      simp only [List.mem_cons, List.mem_append, List.not_mem_nil, or_false] at hb
      rcases hb with rfl | rfl | rfl | rfl | rfl | rfl
      · exact .inr (back_none e1 hl)
      · exact .inl rfl
      · exact .inr (frs _ np hp)
      · refine .inr ?_
        cases y : H' _ with
        | none => rfl
        | some o =>
          have z := old _ o nov y
          have z9 : H9 b = none := hov
          have : H9 b = some o := by
            have z3 : H3 b = some o := by
              rw [o3 b nov]
              exact e2 _ _ (e1 _ _ y)
            rw [o10 b nov, o9 b nov, o8 b ovp]
            exact e6 _ _ (e5 _ _ (e4 _ _ z3))
          rw [z9] at this
          cases this
      · exact .inr (fr5 _ nn hn)
      · exact .inr (fr5 _ nnm hnm)
  · walk_at "x"
    dsimp only
    refine x_thru ?_
    walk_at "x"
    refine x_isi (.ty _) ht hk ?_
    walk_at "x"
    refine iteF ?_
    dsimp only
    refine x_thru ?_
    walk_at "x"
    refine iteT ?_
    refine iteT ?_
    walk_at "x"
    exact kN H fun b o _ hb => hb
theorem atI_mod {ns : List Int} {n : Int} (h : 0 < (ns.length : Int)) : ∃ z, atI (ns.map V.int) (n % (ns.length : Int)) = some (.int z) ∧ ixN (ns.map V.int).length (n % (ns.length : Int)) = some (n % (ns.length : Int)).toNat := by
  have h1 := Int.emod_nonneg n (show (ns.length : Int) ≠ 0 by omega)
  have h2 := Int.emod_lt_of_pos n h
  have e : ixN (ns.map V.int).length (n % (ns.length : Int)) = some (n % (ns.length : Int)).toNat := by
    unfold ixN
    rw [List.length_map, if_pos h1, if_pos h2]
  have l : (n % (ns.length : Int)).toNat < ns.length := by omega
  refine ⟨ns[(n % (ns.length : Int)).toNat], ?_, e⟩
  unfold atI
  rw [e]
  show (ns.map V.int)[(n % (ns.length : Int)).toNat]? = _
  rw [List.getElem?_map, List.getElem?_eq_getElem l] <;> rfl
abbrev N_law_draw : List Str := ["town", "many", "cells", "at", "cell", "mixed"]
theorem sc_law_draw : FnScope N_law_draw ["town", "many"] (defScope s_law_draw) := ⟨rfl, rfl, rfl, by decide +kernel, rfl, by decide +kernel, by decide +kernel⟩
theorem ok_law_draw {P : Program} {w : World} {K : PySem.W.Frag} {mg : Str → Option Value} {base : Heap} {f : Addr} {fd : FuncData} (F : FunD K "_law_draw" "_law_draw" (defArgs s_law_draw) (defBody s_law_draw) (defScope s_law_draw) [] [] f fd)
    (b_len : mg "len" = none)  : FnOk P w K mg base (L2.CX P w) 1 f fd ["town", "many"] sp_draw := by
  have nd := sc_law_draw.nd
  refine F.ok (k := 0) sc_law_draw (fun vs H Q E h => ?_) (fun cdv A outer s H vs Q E hr h => ?_)
  · obtain ⟨_, _, _, rfl, _⟩ := h
    rfl
  have hu := hu_of hr
  refine ⟨_, (pss_cons (ps_set (i := 2) nd rfl (Or.inl rfl) (pe_ix ix_list (pv 0) pe_int (fun _ _ => rfl)))
      (pss_cons (ps_asg (pe_op op_add (pe_ix ix_list (pv 0) pe_int (fun _ _ => rfl)) pe_int) (pg_sub (pv 0) pe_int set_list))
      (pss_cons (ps_set (i := 3) nd rfl (Or.inl rfl) (pe_op op_mod (pe_ix ix_list (pv 0) pe_int (fun _ _ => rfl)) (pe_callB call_lenQ (by rfl) b_len (by decide +kernel) (pa_cons (pv 2) pa_nil))))
      (pss_cons (ps_set (i := 4) nd rfl (Or.inl rfl) (pe_ix ix_list (pv 2) (pv 3) (fun _ _ => rfl)))
      (pss_mid (ps_if (pt_cmpR op_ge (pv 4) pe_int (nomark _)) (pss_cons (ps_asg (pe_op op_fdiv (pv 4) (pv 1)) (pg_sub (pv 2) (pv 3) set_list))
      (pss_one (ps_ret (pe_op op_mod (pv 4) (pv 1)))))
      pss_nil)
      (pss_cons (ps_set (i := 5) nd rfl (Or.inl rfl) (pe_op op_mod (pe_op op_add (pv 4) (pe_op op_mul pe_int (pe_ix ix_list (pv 0) pe_int (fun _ _ => rfl)))) pe_int))
      (pss_cons (ps_set (i := 5) nd rfl (Or.inl rfl) (pe_op op_mod (pe_op op_pow (pv 5) pe_int) pe_int))
      (pss_one (ps_ret (pe_op op_mod (pe_op op_fdiv (pe_op op_mod (pe_op op_add (pe_op op_mul (pe_op op_fdiv (pv 5) pe_int) pe_int) (pv 5)) pe_int) pe_int) (pv 1))))))))))), ?_⟩
  obtain ⟨t, c, m, rfl, m0, m1, T, k⟩ := h
  have ntc := T.ne
  obtain ⟨ns, n, ht, hc, hne⟩ := T
  walk_at "x"
  refine x_ixL (v := .ref c) (SqL.of ht) rfl ?_
  walk_at "x"
  refine x_ixL (v := .int n) (SqL.of ht) rfl ?_
  walk_at "x"
  refine x_setL (j := 1) ht rfl ?_
  have e1 : Off [t, c] H (upd H t (.lst [.ref c, .int (n + 1)])) := Off.put Off.rfl (by simp)
  have t1 : (upd H t (.lst [.ref c, .int (n + 1)])) t = some (.lst [.ref c, .int (n + 1)]) := upd_same
  have c1 : (upd H t (.lst [.ref c, .int (n + 1)])) c = some (.lst (ns.map V.int)) := by rw [upd_ne ntc.symm]; exact hc
  show tSeq _ _ _ _ (upd H t (.lst [.ref c, .int (n + 1)]))
  generalize upd H t (.lst [.ref c, .int (n + 1)]) = H1 at e1 t1 c1
  walk_at "x"
  refine x_ixL (v := .int (n + 1)) (SqL.of t1) rfl ?_
  walk_at "x"
  refine x_lenL (SqL.of c1) ?_
  have hl : (0 : Int) < (ns.length : Int) := by
    have := List.length_pos_iff.mpr hne
    omega
  rw [List.length_map]
  refine x_I hl ?_
  walk_at "x"
  obtain ⟨z, ha, hi⟩ := atI_mod (n := n + 1) hl
  refine x_ixL (SqL.of c1) ha ?_
  walk_at "x"
  refine x_thru ?_
  walk_at "x"
  refine x_ifd (fun h1 => ?_) (fun h1 => ?_)
  · walk_at "x"
    refine x_I ⟨m0, m1⟩ ?_
    walk_at "x"
    refine x_setL c1 hi ?_
    walk_at "x"
    refine x_I m0 ?_
    have es : (ns.map V.int).set (((n + 1) % (ns.length : Int)).toNat) (V.int (z / m)) = (ns.set (((n + 1) % (ns.length : Int)).toNat) (z / m)).map V.int := (List.map_set ..).symm
    rw [es]
    refine k _ _ (Int.emod_nonneg _ (by omega)) (Int.emod_lt_of_pos _ m0) ⟨_, _, by rw [upd_ne ntc]; exact t1, upd_same, fun z => hne ?_⟩ (e1.put (by simp))
    have := congrArg List.length z
    rw [List.length_set] at this
    exact List.length_eq_zero_iff.mp this
  · walk_at "x"
    refine x_ixL (v := .int (n + 1)) (SqL.of t1) rfl ?_
    refine x_I (.inl ⟨by decide, by decide⟩) ?_
    walk_at "x"
    refine x_I (by show (0 : Int) < 4294967291; decide) ?_
    walk_at "x"
    have q0 := Int.emod_nonneg (z + 104729 * (n + 1)) (show (4294967291 : Int) ≠ 0 by decide)
    have q1 := Int.emod_lt_of_pos (z + 104729 * (n + 1)) (show (0 : Int) < 4294967291 by decide)
    generalize (z + 104729 * (n + 1)) % 4294967291 = y at q0 q1
    refine x_I ⟨by decide, by decide, by have : (2 : Nat) ^ 64 = 18446744073709551616 := rfl; omega⟩ ?_
    walk_at "x"
    refine x_I (by show (0 : Int) < 4294967279; decide) ?_
    walk_at "x"
    generalize (y ^ (5 : Int).toNat) % 4294967279 = y2
    refine x_I ⟨by decide, by decide⟩ ?_
    walk_at "x"
    refine x_I (.inr ⟨by decide, by decide⟩) ?_
    walk_at "x"
    refine x_I (by show (0 : Int) < 4294967231; decide) ?_
    walk_at "x"
    refine x_I ⟨by decide, by decide⟩ ?_
    walk_at "x"
    refine x_I m0 ?_
    exact k _ _ (Int.emod_nonneg _ (by omega)) (Int.emod_lt_of_pos _ m0) ⟨_, _, t1, c1, hne⟩ e1
abbrev N_law_pick : List Str := ["town", "some"]
theorem sc_law_pick : FnScope N_law_pick ["town", "some"] (defScope s_law_pick) := ⟨rfl, rfl, rfl, by decide +kernel, rfl, by decide +kernel, by decide +kernel⟩
theorem ok_law_pick {P : Program} {w : World} {K : PySem.W.Frag} {mg : Str → Option Value} {base : Heap} {f : Addr} {fd : FuncData} (F : FunD K "_law_pick" "_law_pick" (defArgs s_law_pick) (defBody s_law_pick) (defScope s_law_pick) [] [] f fd)
    (F_law_draw : Fn P w K mg base 1 "_law_draw" ["town", "many"] sp_draw) (b_len : mg "len" = none)  : FnOk P w K mg base (L2.CX P w) 2 f fd ["town", "some"] sp_pick := by
  have nd := sc_law_pick.nd
  refine F.ok (k := 1) sc_law_pick (fun vs H Q E h => ?_) (fun cdv A outer s H vs Q E hr h => ?_)
  · obtain ⟨_, _, _, _, rfl, _⟩ := h
    rfl
  have hu := hu_of hr
  refine ⟨_, (pss_one (ps_ret (pe_ix ix_list (pv 1) (pe_fn F_law_draw (hr.mono (by decide)) (by rfl) (passD rfl rfl rfl rfl) (pa_cons (pv 0) (pa_cons (pe_callB call_lenQ (by rfl) b_len (by decide +kernel) (pa_cons (pv 1) pa_nil)) pa_nil))) (fun _ _ => rfl)))), ?_⟩
  obtain ⟨t, c, l, xs, rfl, T, hl, n1, n2, hne, hz, k⟩ := h
  walk_at "x"
  refine x_lenL (SqL.of hl) ?_
  have hp := List.length_pos_iff.mpr hne
  refine ⟨t, c, _, rfl, by omega, by omega, T, fun r H' r0 r1 T' e => ?_⟩
  have h2 : r.toNat < xs.length := by omega
  refine x_ixL (SqL.of (e _ _ hl (by simp [n1, n2]))) (v := xs[r.toNat]) ?_ (k _ H' (List.getElem_mem h2) T' e)
  exact at_of (j := r.toNat) (by omega) (List.getElem?_eq_getElem h2)
abbrev N_law_town : List Str := ["script"]
theorem sc_law_town : FnScope N_law_town ["script"] (defScope s_law_town) := ⟨rfl, rfl, rfl, by decide +kernel, rfl, by decide +kernel, by decide +kernel⟩
theorem ok_law_town {P : Program} {w : World} {K : PySem.W.Frag} {mg : Str → Option Value} {base : Heap} {f : Addr} {fd : FuncData} (F : FunD K "_law_town" "_law_town" (defArgs s_law_town) (defBody s_law_town) (defScope s_law_town) [] [] f fd)
    (b_list : mg "list" = none)  : FnOk P w K mg base (L2.CX P w) 1 f fd ["script"] (sp_town K) := by
  have nd := sc_law_town.nd
  refine F.ok (k := 0) sc_law_town (fun vs H Q E h => ?_) (fun cdv A outer s H vs Q E hr h => ?_)
  · obtain ⟨_, _, rfl, _⟩ := h
    rfl
  have hu := hu_of hr
  refine ⟨_, (pss_one (ps_ret (pe_lst (pa_cons (pe_ifExp (pt_cmpR (op_neD hr.units) (pv 0) (pe_lst pa_nil) (nomark _)) (pe_callTy call_mkL (by rfl) b_list (by decide +kernel) (pa_cons (pv 0) pa_nil)) (pe_lst (pa_cons pe_int pa_nil))) (pa_cons pe_int pa_nil))))), ?_⟩
  obtain ⟨a, ns, rfl, hs, hl, k⟩ := h
  walk_at "x"
  refine ⟨by decide, fun p hp => ?_⟩
  refine ⟨_, .list [], .lst ((Ex.new hp).sq hs) (dp_ints ns), .lst (SqL.of upd_same) .nil, shaped_ints ns, rfl, ?_⟩
  walk_at "x"
  have fin : ∀ (c : Addr) (H1 : Hp) (l : List Int), H c = none → Ex H H1 → H1 c = some (.lst (l.map V.int)) → l ≠ [] → ∀ t, H1 t = none → Q (.ref t) (upd H1 t (.lst [.ref c, .int 0])) := fun c H1 l hc e h1 h2 t ht => by
    have ne : c ≠ t := ne_of_none h1 ht
    exact k t c _ (ex_none e ht) hc (e.tr (Ex.new ht)) ⟨l, 0, upd_same, by rw [upd_ne ne]; exact h1, h2⟩
  cases ns with
  | nil =>
    refine iteF ?_
    walk_at "x"
    refine ⟨by decide, fun c hc => ?_⟩
    walk_at "x"
    have hc0 : H c = none := ex_none (Ex.new hp) hc
    exact ⟨by show 2 ≤ sizeLine; decide, fun t ht => fin c _ [0] hc0 ((Ex.new hp).tr (Ex.new hc)) upd_same (by simp) t ht⟩
  | cons n r =>
    refine iteT ?_
    walk_at "x"
    refine x_mkL ((Ex.new hp).sq hs) fun c hc => ?_
    walk_at "x"
    have hc0 : H c = none := ex_none (Ex.new hp) hc
    exact ⟨by show 2 ≤ sizeLine; decide, fun t ht => fin c _ (n :: r) hc0 ((Ex.new hp).tr (Ex.new hc)) upd_same (by simp) t ht⟩
abbrev N_about : List Str := ["house", "user", "path", "node"]
theorem sc_about : FnScope N_about ["house", "user", "path"] (defScope s_about) := ⟨rfl, rfl, rfl, by decide +kernel, rfl, by decide +kernel, by decide +kernel⟩
theorem ok_about {P : Program} {w : World} {K : PySem.W.Frag} {mg : Str → Option Value} {base : Heap} {f : Addr} {fd : FuncData} (F : FunD K "about" "about" (defArgs s_about) (defBody s_about) (defScope s_about) [] [] f fd)
    (F_World_look_user : Mt P w K mg base 2 (cHouse K) "look_user" ["self", "user"] [] (sp_look_user K)) (CK : ClsK K) (F_World_end_ofD : Mt P w K mg base 5 (cHouse K) "end_of" ["self", "user", "path", "follow"] [.bl true] (sp_end_of K))  : FnOk P w K mg base (L2.CX P w) 6 f fd ["house", "user", "path"] (sp_about K) := by
  have nd := sc_about.nd
  refine F.ok (k := 5) sc_about (fun vs H Q E h => ?_) (fun cdv A outer s H vs Q E hr h => ?_)
  · obtain ⟨_, _, _, _, _, rfl, _⟩ := h
    rfl
  have hu := hu_of hr
  refine ⟨_, (pss_cons (ps_expr (pe_mtS F_World_look_user (pv 0) (hr.mono (by decide)) (passD rfl rfl rfl rfl) (pa_cons (pv 1) pa_nil)))
      (pss_cons (ps_set (i := 3) nd rfl (Or.inl rfl) (pe_dget hu (pe_fld (pv 0) (by rfl)) (pe_mtS F_World_end_ofD (pv 0) (hr.mono (by decide)) (passD rfl rfl rfl rfl) (pa_cons (pv 1) (pa_cons (pv 2) pa_nil))) (fun _ _ => rfl)))
      (pss_one (ps_ret (pe_tup (pa_cons (pe_fld (pv 3) (by rfl)) (pa_cons (pe_fld (pv 3) (by rfl)) (pa_cons (pe_fld (pv 3) (by rfl)) (pa_cons (pe_fld (pv 3) (by rfl)) pa_nil))))))))), ?_⟩
  obtain ⟨h, L, W, vu, v, rfl, hh, ok, hu', hv, kE, kO⟩ := h
  walk_at "x"
  refine hh.ob ?_
  walk_at "x"
  refine ⟨h, L, W, vu, rfl, hh, hu', fun hb H1 e1 => ?_, fun hb H1 e1 => kE (.no 3) (by unfold atR userB; rw [if_pos hb]) _ _ H1 e1 ⟨rfl, rfl⟩⟩
  obtain ⟨u, rfl, ui, u0, u1⟩ := userB_int ok hb
  have hb : userB W (.int u) = true := hb
  have ar : ∀ f, atR W (.int u) v f = wayV W u f v := fun f => by
    unfold atR
    rw [if_neg (by rw [hb]; decide)]
    rfl
  have hh1 := hh.up e1
  walk_at "x"
  refine hh1.fN CK ?_
  walk_at "x"
  refine hh1.ob ?_
  walk_at "x"
  refine end_ofV hh1 ok u0 u1 (hv.ex e1) (fun e he cls d H2 e2 ha => kE e (by rw [ar]; exact he) cls d H2 (e1.tr e2) ha) fun ss num hw H2 e2 => ?_
  have hl := endV_lt ok hw
  have hh2 := hh1.up e2
  have N := hh2.nod _ hl
  walk_at "x"
  refine hh2.node hl ?_
  walk_at "x"
  refine N.owner CK ?_
  walk_at "x"
  refine N.group CK ?_
  walk_at "x"
  refine N.rights CK fun rt hrt => ?_
  walk_at "x"
  refine N.count CK ?_
  walk_at "x"
  refine x_newT fun p H3 hp e3 h3 => ?_
  exact kO ss num (by rw [ar]; exact hw) p rt H3 (back_none (e1.tr e2) hp) ((e1.tr e2).tr e3) h3 (e3 _ _ hrt)
theorem path_ofT {K : PySem.W.Frag} {H : Hp} {D : Addr} {ns : List Str} {Q : VK} {E : XK} (hD : H D = some (.lst (ns.map V.str))) (hg : goodParts ns = true) (k : ∀ H', Ex H H' → Q (.str (pathOf ns)) H') : sp_path_of K [.ref D] H Q E := by
  have g := good_all hg
  refine ⟨_, rfl, .inl ⟨D, _, rfl, hD, by rw [List.length_map]; omega, fun x hx => ?_, fun ps hps _ H' e => ?_, fun hb H' e => ?_⟩⟩
  · obtain ⟨z, hz, rfl⟩ := List.mem_map.mp hx
    have := (part_facts (g.2 z hz)).2.2
    have : (1000 : Nat) ≤ sizeLine := by decide
    exact .inl ⟨z, rfl, by omega⟩
  · have e8 : ns = ps := map_str_inj hps
    subst e8
    exact k H' e
  · have hg' : goodVs (ns.map V.str) = true := by
      unfold goodVs
      rw [List.length_map, decide_eq_true g.1, List.all_map, Bool.true_and, List.all_eq_true]
      exact fun s h => g.2 s h
    rw [hg'] at hb
    cases hb
abbrev N_beneath : List Str := ["house", "user", "path", "stands", "found", "rest", "here", "names", "name", "node", "stand", "new", "one"]
theorem sc_beneath : FnScope N_beneath ["house", "user", "path"] (defScope s_beneath) := ⟨rfl, rfl, rfl, by decide +kernel, rfl, by decide +kernel, by decide +kernel⟩
theorem ok_beneath {P : Program} {w : World} {K : PySem.W.Frag} {mg : Str → Option Value} {base : Heap} {f : Addr} {fd : FuncData} (F : FunD K "beneath" "beneath" (defArgs s_beneath) (defBody s_beneath) (defScope s_beneath) [] [] f fd)
    (F_World_look_user : Mt P w K mg base 2 (cHouse K) "look_user" ["self", "user"] [] (sp_look_user K)) (F_World_room_of : Mt P w K mg base 5 (cHouse K) "room_of" ["self", "user", "path"] [] (sp_room_of K)) (c_SEE : ∃ t, mg "SEE" = some (.int 4 t)) (c_PASS : ∃ t, mg "PASS" = some (.int 1 t)) (CK : ClsK K) (F_World_look_right : Mt P w K mg base 3 (cHouse K) "look_right" ["self", "user", "number", "right"] [] (sp_look_right K)) (b_len : mg "len" = none) (c_MOST_STANDS : ∃ t, mg "MOST_STANDS" = some (.int 12 t)) (R_BadPath : Rz K mg "BadPath" (He.ga K "BadPath")) (b_sorted : mg "sorted" = none) (F_path_of : Fn P w K mg base 3 "path_of" ["parts"] (sp_path_of K)) (c_MOST_ROWS : ∃ t, mg "MOST_ROWS" = some (.int 200 t)) (F_World_stand_at : Mt P w K mg base 3 (cHouse K) "stand_at" ["self", "number", "name"] [] (sp_stand_at K)) (F_World_may : Mt P w K mg base 1 (cHouse K) "may" ["self", "user", "number", "right"] [] (sp_may K))  : FnOk P w K mg base (L2.CX P w) 6 f fd ["house", "user", "path"] (sp_beneath K) := by
  have nd := sc_beneath.nd
  refine F.ok (k := 5) sc_beneath (fun vs H Q E h => ?_) (fun cdv A outer s H vs Q E hr h => ?_)
  · obtain ⟨_, _, _, _, _, rfl, _⟩ := h
    rfl
  have hu := hu_of hr
  refine ⟨_, (pss_cons (ps_expr (pe_mtS F_World_look_user (pv 0) (hr.mono (by decide)) (passD rfl rfl rfl rfl) (pa_cons (pv 1) pa_nil)))
      (pss_cons (ps_set (i := 3) nd rfl (Or.inl rfl) (pe_mtS F_World_room_of (pv 0) (hr.mono (by decide)) (passD rfl rfl rfl rfl) (pa_cons (pv 1) (pa_cons (pv 2) pa_nil))))
      (pss_cons (ps_expr (pe_mtS F_World_look_right (pv 0) (hr.mono (by decide)) (passD rfl rfl rfl rfl) (pa_cons (pv 1) (pa_cons (pe_fld (pe_ix ix_list (pv 3) (pe_un un_neg pe_int) (fun _ _ => rfl)) (by rfl)) (pa_cons (pe_op op_add (pe_gint c_SEE (by rfl)) (pe_gint c_PASS (by rfl))) pa_nil)))))
      (pss_mid (ps_if (pt_cmpR op_gt (pe_callB call_lenQ (by rfl) b_len (by decide +kernel) (pa_cons (pv 3) pa_nil)) (pe_gint c_MOST_STANDS (by rfl)) (nomark _)) (pss_one (ps_raise rfl (takes_of rfl rfl rfl rfl) (pmk_txt R_BadPath (by rfl))))
      pss_nil)
      (pss_cons (ps_set (i := 4) nd rfl (Or.inl rfl) (pe_lst pa_nil))
      (pss_cons (ps_set (i := 5) nd rfl (Or.inl rfl) (pe_lst (pa_cons (pv 3) pa_nil)))
      (pss_cons (ps_while (passes_of rfl) (pt_cmpR (op_ne0 hr.units) (pv 5) (pe_lst pa_nil) (nomark _))
      (pss_cons (ps_set (i := 6) nd rfl (Or.inl rfl) (pe_bm0 PySem.F.plainAttrs_list PySem.F.slot_list_pop PySem.F.type_list_pop mt_pop (pv 5)))
      (pss_cons (ps_set (i := 7) nd rfl (Or.inl rfl) (pe_fld (pe_dget hu (pe_fld (pv 0) (by rfl)) (pe_fld (pe_ix ix_list (pv 6) (pe_un un_neg pe_int) (fun _ _ => rfl)) (by rfl)) (fun _ _ => rfl)) (by rfl)))
      (pss_one (ps_for (passes_of rfl) rfl (pi_list (pe_callB (call_sortedD rfl) (by rfl) b_sorted (by decide +kernel) (pa_cons (pv 7) pa_nil))) (pg_name (i := 8) nd rfl (Or.inl rfl))
      (pss_cons (ps_set (i := 9) nd rfl (Or.inl rfl) (pe_dget hu (pe_fld (pv 0) (by rfl)) (pe_dget hu (pv 7) (pv 8) (fun _ _ => rfl)) (fun _ _ => rfl)))
      (pss_cons (ps_expr (pe_bm PySem.F.plainAttrs_list PySem.F.slot_list_append PySem.F.type_list_append mt_append (pv 4) (pa_cons (pe_tup (pa_cons (pe_fn F_path_of (hr.mono (by decide)) (by rfl) (passD rfl rfl rfl rfl) (pa_cons (pe_op op_cat (pe_lc (own := [("stand", 10)]) (g := (gName 10)) (by rfl) nd (pi_list (pe_slice sl_list (pv 6) (po_some pe_int) po_none)) (blkOk_by (own := [("stand", 10)]) (N := N_beneath) (sc := defScope s_beneath) (by decide +kernel)) (fun _ _ _ _ _ => (pg_name (i := 10) nd rfl (Or.inl rfl))) (fun _ _ _ _ _ => pts_nil) (fun _ _ _ _ _ => (pe_fldX (K := K) (pv 10) (by rfl) (by rfl)))) (pe_lst (pa_cons (pv 8) pa_nil))) pa_nil)) (pa_cons (pe_fld (pv 9) (by rfl)) pa_nil))) pa_nil)))
      (pss_mid (ps_if (pt_cmpR op_gt (pe_callB call_lenQ (by rfl) b_len (by decide +kernel) (pa_cons (pv 4) pa_nil)) (pe_gint c_MOST_ROWS (by rfl)) (nomark _)) (pss_one (ps_raise rfl (takes_of rfl rfl rfl rfl) (pmk_txt R_BadPath (by rfl))))
      pss_nil)
      (pss_one (ps_if (pt_cmpR op_eq (pe_fld (pv 9) (by rfl)) pe_str (nomark _)) (pss_cons (ps_set (i := 10) nd rfl (Or.inl rfl) (pe_mtS F_World_stand_at (pv 0) (hr.mono (by decide)) (passD rfl rfl rfl rfl) (pa_cons (pe_dget hu (pv 7) (pv 8) (fun _ _ => rfl)) (pa_cons (pv 8) pa_nil))))
      (pss_cons (ps_set (i := 11) nd rfl (Or.inl rfl) (pe_cmpR op_notIn_seq (pe_fld (pv 10) (by rfl)) (pe_lc (own := [("one", 12)]) (g := (gName 12)) (by rfl) nd (pi_list (pv 6)) (blkOk_by (own := [("one", 12)]) (N := N_beneath) (sc := defScope s_beneath) (by decide +kernel)) (fun _ _ _ _ _ => (pg_name (i := 12) nd rfl (Or.inl rfl))) (fun _ _ _ _ _ => pts_nil) (fun _ _ _ _ _ => (pe_fldX (K := K) (pv 12) (by rfl) (by rfl)))) (by rfl)))
      (pss_one (ps_if (PW.pt (pw_and (pt_val (pv 11)) (pw_and (pt_cmpR op_lt (pe_callB call_lenQ (by rfl) b_len (by decide +kernel) (pa_cons (pv 6) pa_nil)) (pe_gint c_MOST_STANDS (by rfl)) (nomark _)) (pw_and1 (pt_val (pe_mtS F_World_may (pv 0) (hr.mono (by decide)) (passD rfl rfl rfl rfl) (pa_cons (pv 1) (pa_cons (pe_fld (pv 10) (by rfl)) (pa_cons (pe_op op_add (pe_gint c_SEE (by rfl)) (pe_gint c_PASS (by rfl))) pa_nil))))))))) (pss_one (ps_expr (pe_bm PySem.F.plainAttrs_list PySem.F.slot_list_append PySem.F.type_list_append mt_append (pv 5) (pa_cons (pe_op op_cat (pv 6) (pe_lst (pa_cons (pv 10) pa_nil))) pa_nil))))
      pss_nil))))
      pss_nil))))))))))
      (pss_one (ps_ret (pe_callB (cr_srtD hr.units) (by rfl) b_sorted (by decide +kernel) (pa_cons (pv 4) pa_nil))))))))))), ?_⟩
  obtain ⟨h, L, W, vu, v, rfl, hh, ok, sm, hu', hv, kE, kO⟩ := h
  obtain ⟨t1, ck1⟩ := id c_SEE
  walk_at "x"
  refine hh.ob ?_
  walk_at "x"
  refine ⟨h, L, W, vu, rfl, hh, hu', fun hb H1 e1 => ?_, fun hb H1 e1 => kE (.no 3) (by unfold benR userB; rw [if_pos hb]) _ _ H1 e1 ⟨rfl, rfl⟩⟩
  obtain ⟨u, rfl, ui, u0, u1⟩ := userB_int ok hb
  have hb : userB W (.int u) = true := hb
  have hR : benR W (.int u) v = match roomV' W u v with
      | .err e => .err e
      | .ok ss => if mayOf W u (last ss).number 5 = false then .err (.right u (last ss).number) else if 12 < ss.length then .err (.no 0) else if 200 < (benOf W u ss).length then .err (.no 0) else .ok (benOf W u ss) := by
    unfold benR
    rw [if_neg (by rw [hb]; decide)]
    rfl
  rw [hR] at kE kO
  clear hR
  have hh1 := hh.up e1
  walk_at "x"
  refine hh1.ob ?_
  walk_at "x"
  refine room_ofP hh1 ok u0 u1 (hv.ex e1) (fun e he cls d H2 e2 ha => kE e (by rw [he]) cls d H2 (e1.tr e2) ha) fun ss0 hs q0 H2 hq0 e2 hst => ?_
  rw [hs] at kE kO
  dsimp only at kE kO
  obtain ⟨ps, hwp⟩ := roomV_way hs
  have wok := wayOf_ok ok hwp
  have wnm := (wayOf_names ok hwp).1
  have hl := last_lt wok.1 wok.2.1
  have hh2 := hh1.up e2
  have E2 := e1.tr e2
  obtain ⟨as, la, hsp2, asl, hat, hla⟩ := hst.last wok.1
  walk_at "x"
  refine hh2.ob ?_
  walk_at "x"
  refine x_ixL (SqL.of hsp2) hat ?_
  walk_at "x"
  refine hla.num CK ?_
  walk_at "x"
  refine ⟨h, L, W, u, (last ss0).number, 5, rfl, hh2, u0, u1, hl, fun hm => ?_, fun hm cls d H3 e3 ha => kE _ (by rw [if_pos hm]) cls d H3 (E2.tr e3) ha⟩
  rw [if_neg (by rw [hm]; decide)] at kE kO
  walk_at "x"
  refine x_cut (¬ 12 < ss0.length) ?_ fun h12 => ?_
  · walk_at "x"
    refine x_lenL (SqL.of hsp2) ?_
    rw [List.length_map, asl]
    walk_at "x"
    refine x_ifd (fun h12 => ?_) (fun h12 => ?_)
    · walk_at "x"
      exact kE (.no 0) (if_pos (by omega)) _ _ H2 E2 ⟨rfl, rfl⟩
    · walk_at "x"
      exact ⟨rfl, rfl, by omega⟩
  rw [if_neg h12] at kE kO
  have ssok : SsOk W ss0 := ⟨wok.1, by omega, wok.2.1, wnm⟩
  generalize htot : benOf W u ss0 = total at kE kO
  have goodT : ∀ r ∈ total, goodParts r.1 = true := fun r hr => by rw [← htot] at hr; exact (benOf_good ok ssok r hr).1
  walk_at "x"
  refine x_newL fun pf H3 hpf e3 h3 => ?_
  walk_at "x"
  refine x_newL fun pr H4 hpr e4 h4 => ?_
  have pfr : pf ≠ pr := fun z => by rw [← z, h3] at hpr; cases hpr
  have b0 : BSt K H2 pf pr W [] [(q0, ss0)] H4 := by
    have m0 : Ex H2 (mask [pf, pr] H4) := fun a o ha => by
      refine mask_at.mpr ⟨fun z => ?_, (e3.tr e4) _ _ ha⟩
      simp only [List.mem_cons, List.not_mem_nil, or_false] at z
      rcases z with rfl | rfl
      · rw [hpf] at ha; cases ha
      · rw [back_none e3 hpr] at ha; cases ha
    refine ⟨m0, hpf, back_none e3 hpr, pfr, e4 _ _ h3, h4, fun w hw => (nomatch hw), fun t ht => ?_⟩
    rw [List.mem_singleton.mp ht]
    exact ⟨hst.up m0, ssok⟩
  walk_at "x"
  refine x_while (fun m σ' H' => ∃ ws ts x6 x7 x8 x9 x10 x11, σ' = [some (.ref h), some (.int u), some v, some (.ref q0), some (.ref pf), some (.ref pr), x6, x7, x8, x9, x10, x11, none] ∧ BSt K H2 pf pr W ws ts H' ∧ (ws.map (·.2) ++ (ts.map (·.2)).flatMap (benOf W u)).Perm total ∧ ws.length ≤ 200 ∧ ts.length ≤ ws.length + 1 ∧ m = weigh W u (ts.map (·.2))) _
    ⟨[], [(q0, ss0)], none, none, none, none, none, none, rfl, b0, by rw [← htot]; simp, by simp, by simp, rfl⟩ ?_
  rintro m _ H5 ⟨ws, ts, x6, x7, x8, x9, x10, x11, rfl, b5, pm, wl, tl0, hm'⟩
  walk_at "x"
  refine x_newL fun l0 H6 hl0 e6 h6 => ?_
  have b6 := b5.up e6
  refine x_ne0 (SqL.of b6.hr) (SqL.of h6) ?_
  walk_at "x"
  rcases List.eq_nil_or_concat ts with rfl | ⟨ts0, t0, rfl⟩
  · -- the end
    refine x_wh (fun hb => by cases hb) (fun _ => ?_)
    have pm' : (ws.map (·.2)).Perm total := by simpa using pm
    have tl : ¬ 200 < total.length := by rw [← pm'.length_eq, List.length_map]; omega
    walk_at "x"
    let zs : List (V × PyData) := ws.map wz
    have zl : (zs.map (·.1)) = ws.map fun w => V.ref w.1 := by rw [List.map_map]; rfl
    have zr : (zs.map (·.2)) = (ws.map (·.2)).map rowD := by rw [List.map_map, List.map_map]; rfl
    refine ⟨pf, zs, rfl, by rw [zl]; exact SqL.of b6.hf, fun z hz => ?_, by rw [zr]; exact rows_alike _, by rw [zr]; exact rows_sortable _, fun z hz => ?_, fun p hp => ?_⟩
    · obtain ⟨w, hw, rfl⟩ := List.mem_map.mp hz
      exact row_dp (mask_ex _ _ (b6.rw w hw))
    · obtain ⟨w, hw, rfl⟩ := List.mem_map.mp hz
      exact row_depth _
    have e7 := Ex.new (o := HO.lst ((zs.mergeSort leZ).map (·.1))) hp
    have h7 := upd_same (H := H6) (a := p) (o := HO.lst ((zs.mergeSort leZ).map (·.1)))
    generalize upd H6 p (HO.lst ((zs.mergeSort leZ).map (·.1))) = H7 at e7 h7 ⊢
    have b7 := b6.up e7
    have es : (zs.mergeSort leZ) = (ws.mergeSort leW).map wz := sort_zs ws
    have hsr : ((ws.mergeSort leW).map (·.2)) = sortR total := by
      rw [← sortR_canon pm' goodT]
      exact sort_pairs ws
    have hpair := rows_paired (H := H7) (ws.mergeSort leW) fun w hw => mask_ex _ _ (b7.rw w ((List.mergeSort_perm _ _).mem_iff.mp hw))
    rw [hsr] at hpair
    refine kO total (if_neg tl) _ p H7 ?_ ?_ ?_ hpair
    · refine back_none E2 ?_
      cases y : H2 p with
      | none => rfl
      | some o => rw [mask_ex _ _ (b6.ex _ _ y)] at hp; cases hp
    · exact E2.tr fun a o ha => mask_ex _ _ (b7.ex _ _ ha)
    · rw [h7, es, List.map_map, List.map_map]
      rfl
  · -- one more room
    rw [List.concat_eq_append] at b6 pm hm' tl0 ⊢
    rw [List.length_append, List.length_singleton] at tl0
    obtain ⟨qh, ss⟩ := t0
    have hne : (ts0 ++ [(qh, ss)]).map (fun t => V.ref t.1) ≠ [] := by simp
    refine x_wh (fun _ => ?_) (fun hb => by
      cases ts0 with
      | nil => cases hb
      | cons a r => cases hb)
    obtain ⟨hsk, sok⟩ := b6.sk (qh, ss) (by simp)
    replace sok : SsOk W ss := sok
    replace hsk : StandsAt K (mask [pf, pr] H6) qh ss := hsk
    have hl6 := last_lt sok.ne sok.lt
    walk_at "x"
    refine x_tyL (SqL.of b6.hr) ?_
    walk_at "x"
    refine x_popLast (x := .ref qh) (xs := ts0.map fun t => V.ref t.1) (by rw [b6.hr, List.map_append]; rfl) fun H7 h7 o7 => ?_
    have b7 : BSt K H2 pf pr W ws ts0 H7 := b6.rest (fun t ht => b6.sk t (List.mem_append_left _ ht)) h7 o7
    have m67 : Ex (mask [pf, pr] H6) (mask [pf, pr] H7) := mask_same (by simp) o7
    have hsk7 := hsk.up m67
    have hh7 : HouseAt K (mask [pf, pr] H7) h L W := hh2.up b7.ex
    have hh7' := hh7.up mask_ex
    obtain ⟨as7, la7, hsp7, asl7, hat7, hla7⟩ := (hsk7.up mask_ex).last sok.ne
    walk_at "x"
    refine hh7'.fN CK ?_
    walk_at "x"
    refine x_ixL (SqL.of hsp7) hat7 ?_
    walk_at "x"
    refine hla7.num CK ?_
    walk_at "x"
    refine hh7'.node hl6 ?_
    walk_at "x"
    refine (hh7'.nod _ hl6).names CK ?_
    walk_at "x"
    refine ⟨_, _, (W.at (last ss).number).names.map (·.1), rfl, .inl (hh7'.nod _ hl6).nam, ?_, by rw [List.length_map]; exact Nat.lt_succ_of_le (sm.2 _), ?_⟩
    · unfold namesV
      rw [List.map_map, List.map_map]
      rfl
    intro ys py hys hso hpy
    have e8 := Ex.new (o := HO.lst (ys.map V.str)) hpy
    have h8 := upd_same (H := H7) (a := py) (o := HO.lst (ys.map V.str))
    generalize upd H7 py (HO.lst (ys.map V.str)) = H8 at e8 h8 ⊢
    have b8 := b7.up e8
    have py8 := b7.fresh e8 hpy h8
    have hsk8 := hsk7.up (mask_up e8)
    let lk : Str → Str × Nat := fun s => (s, (look s (W.at (last ss).number).names).getD 0)
    have npm : (ys.map lk).Perm (W.at (last ss).number).names := names_perm ok hl6 hys
    have bpm : ((ys.map lk).flatMap (item W u ss)).Perm (benOf W u ss) := by
      rw [benOf_eq sok.len]
      exact npm.flatMap_right _
    have lkm : ∀ s ∈ ys, look s (W.at (last ss).number).names = some (lk s).2 ∧ lk s ∈ (W.at (last ss).number).names := fun s hs => by
      have h1 : lk s ∈ (W.at (last ss).number).names := npm.mem_iff.mp (List.mem_map_of_mem (f := lk) hs)
      exact ⟨look_of_mem ok (show ((lk s).1, (lk s).2) ∈ _ from h1), h1⟩
    refine x_forLV (fun i σ' H' => ∃ ws ts x8 x9 x10 x11, σ' = [some (.ref h), some (.int u), some v, some (.ref q0), some (.ref pf), some (.ref pr), some (.ref qh), some (.ref (L.ns.getD (last ss).number 0)), x8, x9, x10, x11, none] ∧ BSt K H2 pf pr W ws ts H' ∧ mask [pf, pr] H' py = some (.lst (ys.map V.str)) ∧ StandsAt K (mask [pf, pr] H') qh ss ∧
      (ws.map (·.2) ++ (((ys.drop i).map lk).flatMap (item W u ss) ++ (ts.map (·.2)).flatMap (benOf W u))).Perm total ∧ ws.length ≤ 200 ∧ ts.length ≤ ws.length ∧ weigh W u (ts.map (·.2)) + (((ys.drop i).map lk).flatMap (item W u ss)).length ≤ weigh W u (ts0.map (·.2)) + (benOf W u ss).length) (SqL.of h8)
      ⟨ws, ts0, _, _, _, _, rfl, b8, py8, hsk8, ?_, wl, by omega, ?_⟩ ?_ ?_ ?_
    · rw [List.drop_zero]
      refine List.Perm.trans ?_ pm
      rw [List.map_append, List.flatMap_append]
      refine List.Perm.append_left _ ?_
      refine List.perm_append_comm.trans (List.Perm.append_left _ ?_)
      simpa using bpm
    · rw [List.drop_zero, bpm.length_eq]
      exact Nat.le_refl _
    · rintro i _ H' _ ⟨ws, ts, x8, x9, x10, x11, rfl, _, hpy', _⟩
      exact SqL.of (mask_ex _ _ hpy')
    · clear pm wl b8 py8 hsk8 b7 b6 hsk hsk7 hh7 hh7' h8 e8 hsp7 hat7 hla7 as7 asl7
      rintro i x _ H8 hx ⟨ws, ts, x8, x9, x10, x11, rfl, b8, py8, hsk8, pm, wl, tsl, wgh⟩
      rw [List.getElem?_map] at hx
      cases hyi : ys[i]? with
      | none => rw [hyi] at hx; cases hx
      | some s =>
        rw [hyi] at hx
        cases hx
        have hs : s ∈ ys := List.mem_of_getElem? hyi
        obtain ⟨lks, lkmem⟩ := lkm s hs
        have hnk := (ok.at hl6).nam _ lkmem
        have hkl : (lk s).2 < W.nodes.length := hnk.2
        have hnm : isName s = true := hnk.1
        have dr : ys.drop i = s :: ys.drop (i + 1) := by
          rw [List.drop_eq_getElem?_toList_append, hyi]
          rfl
        rw [dr, List.map_cons, List.flatMap_cons] at pm wgh
        have hh8 : HouseAt K (mask [pf, pr] H8) h L W := hh2.up b8.ex
        have hh8' := hh8.up mask_ex
        walk_at "x"
        refine hh8'.fN CK ?_
        walk_at "x"
        refine x_dgetS (hh8'.nod _ hl6).nam (by rw [valV_names, lks]; rfl) ?_
        refine hh8'.node hkl ?_
        walk_at "x"
        refine x_tyL (SqL.of b8.hf) ?_
        walk_at "x"
        obtain ⟨as8, hsp8, hpd8⟩ := hsk8
        refine x_slE (SqL.of (mask_ex _ _ hsp8)) fun q9 H9 hq9 e9 h9 => ?_
        rw [cut_from (by decide), ← List.map_drop, show (Int.toNat 1) = 1 from rfl, List.drop_one] at h9
        have hpr9 : Paired (StandAt K H9) as8.tail ss.tail := L2.Paired.mapP (paired_tail hpd8) fun a z hz => (hz.up mask_ex).up e9
        have tl9 : as8.tail.length ≤ 12 := by
          rw [hpr9.length, List.length_tail]
          have := sok.len
          omega
        refine x_lcLV (SqL.of h9) ⟨fun _ => rfl, by rw [List.length_map]; omega, fun _ => true, nmAt H9, fun x hx H' e R k => k H' Ex.rfl, fun x hx _ H' e R k => ?_, fun D H10 hD e10 h10 => ?_⟩
        · obtain ⟨a, ha, rfl⟩ := List.mem_map.mp hx
          obtain ⟨z, _, hz⟩ := paired_mem hpr9 a ha
          rw [nmAt_of hz] at k
          walk_at "x"
          refine (hz.up e).nam CK ?_
          exact k H' Ex.rfl
        rw [List.filter_eq_self.mpr (fun _ _ => rfl), nms_map hpr9] at h10
        walk_at "x"
        refine x_newL fun q11 H11 hq11 e11 h11 => ?_
        refine x_cat (e11 _ _ h10) h11 (by rw [List.length_map, List.length_map, List.length_tail]; have := sok.len; simp; omega) fun q12 H12 hq12 e12 h12 => ?_
        have h12' : H12 q12 = some (.lst ((tailNm ss ++ [s]).map V.str)) := by
          rw [h12, List.map_append]
          rfl
        walk_at "x"
        refine path_ofT h12' (sok.good hnm) fun H13 e13 => ?_
        have E13 : Ex H8 H13 := (((e9.tr e10).tr e11).tr e12).tr e13
        have b13 := b8.up E13
        have hh13 := hh8'.up E13
        walk_at "x"
        refine (hh13.nod _ hkl).kind CK ?_
        walk_at "x"
        refine x_newT fun tp H14 htp e14 h14 => ?_
        have b14 := b13.up e14
        have hh14 := hh13.up e14
        have row14 : RowAt (mask [pf, pr] H14) tp (tailNm ss ++ [s], (W.at (lk s).2).kind) := b13.fresh e14 htp h14
        walk_at "x"
        refine x_app b14.hf (by rw [List.length_map]; exact Nat.lt_of_lt_of_le (show ws.length < 1000 by omega) (by decide)) ?_
        generalize hH15 : upd H14 pf (HO.lst (ws.map (fun w => V.ref w.1) ++ [V.ref tp])) = H15
        have h15 : H15 pf = some (.lst ((ws ++ [(tp, (tailNm ss ++ [s], (W.at (lk s).2).kind))]).map fun w => V.ref w.1)) := by
          rw [← hH15, upd_same, List.map_append]
          rfl
        have o15 : ∀ b, b ≠ pf → H15 b = H14 b := fun b hb => by rw [← hH15]; exact upd_ne hb
        have b15 := b14.found (w := (tp, (tailNm ss ++ [s], (W.at (lk s).2).kind))) row14 h15 o15
        have m15 : Ex (mask [pf, pr] H8) (mask [pf, pr] H15) := (mask_up (E13.tr e14)).tr (mask_same (by simp) o15)
        have hh15 : HouseAt K H15 h L W := (hh8.up m15).up mask_ex
        have py15 := m15 _ _ py8
        have hsk15 : StandsAt K (mask [pf, pr] H15) qh ss := StandsAt.up ⟨as8, hsp8, hpd8⟩ m15
        have pm15 := perm_step (more := if goIn W u ss (lk s) = true then benOf W u (ss ++ [standOf W (lk s).2 (lk s).1]) else []) (show (ws.map (·.2) ++ (((tailNm ss ++ [s], (W.at (lk s).2).kind) :: if goIn W u ss (lk s) = true then benOf W u (ss ++ [standOf W (lk s).2 (lk s).1]) else []) ++ (((ys.drop (i + 1)).map lk).flatMap (item W u ss) ++ (ts.map (·.2)).flatMap (benOf W u)))).Perm total by
          rw [List.append_assoc, item_eq] at pm
          exact pm)
        have wl15 : (ws ++ [(tp, (tailNm ss ++ [s], (W.at (lk s).2).kind))]).length = ws.length + 1 := by simp
        have mp15 : (ws ++ [(tp, (tailNm ss ++ [s], (W.at (lk s).2).kind))]).map (·.2) = ws.map (·.2) ++ [(tailNm ss ++ [s], (W.at (lk s).2).kind)] := by simp
        have wgh15 : weigh W u (ts.map (·.2)) + (1 + (if goIn W u ss (lk s) = true then benOf W u (ss ++ [standOf W (lk s).2 (lk s).1]) else []).length + (((ys.drop (i + 1)).map lk).flatMap (item W u ss)).length) ≤ weigh W u (ts0.map (·.2)) + (benOf W u ss).length := by
          rw [List.length_append] at wgh
          have : (item W u ss (lk s)).length = 1 + (if goIn W u ss (lk s) = true then benOf W u (ss ++ [standOf W (lk s).2 (lk s).1]) else []).length := by
            unfold item
            rw [List.length_cons]
            omega
          omega
        rw [← mp15] at pm15
        generalize hws : ws ++ [(tp, (tailNm ss ++ [s], (W.at (lk s).2).kind))] = ws' at b15 pm15 wl15
        clear pm wgh b14 b13 b8 hh14 hh13 hh8' hh8 py8
        walk_at "x"
        refine x_cut (ws'.length ≤ 200) ?_ fun wl' => ?_
        · walk_at "x"
          refine x_lenL (SqL.of b15.hf) ?_
          rw [List.length_map]
          walk_at "x"
          refine x_ifd (fun hbig => ?_) (fun hbig => ?_)
          · walk_at "x"
            have hbig : 200 < ws'.length := by omega
            refine kE (.no 0) (if_pos ?_) _ _ H15 (E2.tr fun a o ha => mask_ex _ _ (b15.ex _ _ ha)) ⟨rfl, rfl⟩
            have := pm15.length_eq
            rw [List.length_append, List.length_map] at this
            omega
          · walk_at "x"
            exact ⟨rfl, rfl, by omega⟩
        walk_at "x"
        refine (hh15.nod _ hkl).kind CK ?_
        walk_at "x"
        rw [dec_str]
        have noGo : goIn W u ss (lk s) = false → ∀ (x8 x9 x10 x11 : Option V) H', Ex (mask [pf, pr] H15) (mask [pf, pr] H') → BSt K H2 pf pr W ws' ts H' → ∃ ws ts x8' x9' x10' x11', [some (V.ref h), some (.int u), some v, some (.ref q0), some (.ref pf), some (.ref pr), some (.ref qh), some (.ref (L.ns.getD (last ss).number 0)), x8, x9, x10, x11, none] = [some (V.ref h), some (.int u), some v, some (.ref q0), some (.ref pf), some (.ref pr), some (.ref qh), some (.ref (L.ns.getD (last ss).number 0)), x8', x9', x10', x11', none] ∧ BSt K H2 pf pr W ws ts H' ∧ mask [pf, pr] H' py = some (.lst (ys.map V.str)) ∧ StandsAt K (mask [pf, pr] H') qh ss ∧
            (ws.map (·.2) ++ (((ys.drop (i + 1)).map lk).flatMap (item W u ss) ++ (ts.map (·.2)).flatMap (benOf W u))).Perm total ∧ ws.length ≤ 200 ∧ ts.length ≤ ws.length ∧ weigh W u (ts.map (·.2)) + (((ys.drop (i + 1)).map lk).flatMap (item W u ss)).length ≤ weigh W u (ts0.map (·.2)) + (benOf W u ss).length := fun hg x8 x9 x10 x11 H' m b => by
          rw [if_neg (by rw [hg]; decide)] at pm15 wgh15
          exact ⟨ws', ts, x8, x9, x10, x11, rfl, b, m _ _ py15, hsk15.up m, by rw [List.nil_append] at pm15; exact pm15, wl', by omega, by rw [List.length_nil] at wgh15; omega⟩
        refine x_ifd (fun hkr => ?_) (fun hkr => ?_)
        · walk_at "x"
          refine hh15.ob ?_
          walk_at "x"
          refine x_dgetS (hh15.nod _ hl6).nam (by rw [valV_names, lks]; rfl) ?_
          walk_at "x"
          refine ⟨h, L, W, (lk s).2, s, rfl, hh15, ok, fun xs H16 hxs e16 hst16 => ?_⟩
          have b16 := b15.up e16
          have hh16 := hh15.up e16
          have hsk16 := hsk15.up (mask_up e16)
          have hst16m : StandAt K (mask [pf, pr] H16) xs (standOf W (lk s).2 s) := by
            obtain ⟨dx, hz⟩ := hst16
            exact ⟨dx, b15.fresh e16 hxs hz⟩
          obtain ⟨as16, hsp16, hpd16⟩ := hsk16
          have hpd16' : Paired (StandAt K H16) as16 ss := L2.Paired.mapP hpd16 fun a z hz => hz.up mask_ex
          walk_at "x"
          refine hst16.num CK ?_
          walk_at "x"
          refine x_lcLV (SqL.of (mask_ex _ _ hsp16)) ⟨fun _ => rfl, by rw [List.length_map, hpd16.length]; have := sok.len; omega, fun _ => true, numAt H16, fun x hx H' e R k => k H' Ex.rfl, fun x hx _ H' e R k => ?_, fun D H17 hD e17 h17 => ?_⟩
          · obtain ⟨a, ha, rfl⟩ := List.mem_map.mp hx
            obtain ⟨z, _, hz⟩ := paired_mem hpd16' a ha
            rw [numAt_of hz] at k
            walk_at "x"
            refine (hz.up e).num CK ?_
            exact k H' Ex.rfl
          rw [List.filter_eq_self.mpr (fun _ _ => rfl), nums_map hpd16'] at h17
          refine x_niL (SqL.of h17) rfl (flat_nats _) ?_
          rw [in_nats]
          have b17 := b16.up e17
          have hh17 := hh16.up e17
          have m17 : Ex (mask [pf, pr] H15) (mask [pf, pr] H17) := mask_up (e16.tr e17)
          have hst17 := hst16.up e17
          have hst17m := hst16m.up (mask_up e17)
          walk_at "x"
          have gdef : goIn W u ss (lk s) = (!decide ((standOf W (lk s).2 s).number ∈ ss.map (·.number)) && (decide (ss.length < 12) && mayOf W u (standOf W (lk s).2 s).number 5)) := by
            unfold goIn
            rw [decide_eq_true hkr, Bool.true_and, decide_not]
          refine x_ifn (fun hnin => ?_) (fun hnin => ?_)
          · rw [decide_eq_false hnin] at gdef
            walk_at "x"
            refine x_lenL (SqL.of (mask_ex _ _ (mask_up e17 _ _ hsp16))) ?_
            rw [List.length_map, hpd16.length]
            walk_at "x"
            refine x_ifd (fun hlt => ?_) (fun hlt => ?_)
            · have hlt : ss.length < 12 := by omega
              rw [decide_eq_true hlt] at gdef
              walk_at "x"
              refine hh17.ob ?_
              walk_at "x"
              refine hst17.num CK ?_
              walk_at "x"
              refine ⟨h, L, W, u, (standOf W (lk s).2 s).number, 5, rfl, hh17, u0, u1, stand_lt ok s hkl, ?_⟩
              walk_at "x"
              refine x_if (fun hmy => ?_) (fun hmy => ?_)
              · rw [hmy] at gdef
                have hg : goIn W u ss (lk s) = true := gdef
                rw [if_pos hg] at pm15 wgh15
                walk_at "x"
                refine x_tyL (SqL.of b17.hr) ?_
                walk_at "x"
                refine x_newL fun q18 H18 hq18 e18 h18 => ?_
                refine x_cat (e18 _ _ (mask_ex _ _ (mask_up e17 _ _ hsp16))) h18 (by rw [List.length_map, hpd16.length]; have := sok.len; simp; omega) fun q19 H19 hq19 e19 h19 => ?_
                have b19 := (b17.up e18).up e19
                have h19m : mask [pf, pr] H19 q19 = _ := (b17.up e18).fresh e19 hq19 h19
                have sts19 : StandsAt K (mask [pf, pr] H19) q19 (ss ++ [standOf W (lk s).2 s]) := by
                  have m19 := mask_up (S := [pf, pr]) ((e17.tr e18).tr e19)
                  refine ⟨as16 ++ [xs], by rw [h19m, List.map_append]; rfl, paired_app (L2.Paired.mapP hpd16 fun a z hz => hz.up m19) (.cons (hst16m.up m19) .nil)⟩
                walk_at "x"
                refine x_app b19.hr (by rw [List.length_map]; exact Nat.lt_of_lt_of_le (show ts.length < 1000 by omega) (by decide)) ?_
                generalize hH20 : upd H19 pr (HO.lst (ts.map (fun t => V.ref t.1) ++ [V.ref q19])) = H20
                have h20 : H20 pr = some (.lst ((ts ++ [(q19, ss ++ [standOf W (lk s).2 s])]).map fun t => V.ref t.1)) := by
                  rw [← hH20, upd_same, List.map_append]
                  rfl
                have o20 : ∀ b, b ≠ pr → H20 b = H19 b := fun b hb => by rw [← hH20]; exact upd_ne hb
                have b20 := b19.rest (ts' := ts ++ [(q19, ss ++ [standOf W (lk s).2 s])]) (fun t ht => by
                  rcases List.mem_append.mp ht with ht | ht
                  · exact b19.sk t ht
                  · rw [List.mem_singleton.mp ht]
                    exact ⟨sts19, sok.snoc ok hlt hkl hnm⟩) h20 o20
                have m20 : Ex (mask [pf, pr] H15) (mask [pf, pr] H20) := (m17.tr (mask_up (e18.tr e19))).tr (mask_same (by simp) o20)
                walk_at "x"
                refine ⟨ws', ts ++ [(q19, ss ++ [standOf W (lk s).2 s])], _, _, _, _, rfl, b20, m20 _ _ py15, hsk15.up m20, ?_, wl', by rw [List.length_append, List.length_singleton]; omega, ?_⟩
                · refine List.Perm.trans ?_ pm15
                  rw [List.map_append, List.flatMap_append]
                  refine List.Perm.append_left _ ?_
                  have e1 : ([(q19, ss ++ [standOf W (lk s).2 s])].map (·.2)).flatMap (benOf W u) = benOf W u (ss ++ [standOf W (lk s).2 s]) := by simp
                  rw [e1, ← List.append_assoc]
                  exact List.perm_append_comm
                · rw [List.map_append, weigh_app]
                  have e1 : weigh W u ([(q19, ss ++ [standOf W (lk s).2 s])].map (·.2)) = (benOf W u (ss ++ [standOf W (lk s).2 s])).length + 1 := by simp [weigh]
                  rw [e1]
                  have e2 : (benOf W u (ss ++ [standOf W (lk s).2 (lk s).1])).length = (benOf W u (ss ++ [standOf W (lk s).2 s])).length := rfl
                  omega
              · rw [hmy] at gdef
                walk_at "x"
                exact noGo gdef _ _ _ _ H17 m17 b17
            · have hlt : ¬ ss.length < 12 := by omega
              rw [decide_eq_false hlt] at gdef
              walk_at "x"
              refine iteF ?_
              walk_at "x"
              exact noGo gdef _ _ _ _ H17 m17 b17
          · rw [decide_eq_true hnin] at gdef
            walk_at "x"
            refine iteF ?_
            walk_at "x"
            exact noGo gdef _ _ _ _ H17 m17 b17
        · walk_at "x"
          refine noGo ?_ _ _ _ _ H15 Ex.rfl b15
          unfold goIn
          rw [decide_eq_false hkr]
          rfl
    · rintro _ H9 ⟨ws, ts, x8, x9, x10, x11, rfl, b9, _, _, pm9, wl9, tl9, wgh9⟩
      rw [List.drop_eq_nil_of_le (Nat.le_of_eq (by rw [List.length_map]))] at pm9 wgh9
      refine ⟨_, ?_, ws, ts, _, _, _, _, _, _, rfl, b9, by simpa using pm9, wl9, by omega, rfl⟩
      rw [hm', List.map_append, weigh_app]
      have : weigh W u ([(qh, ss)].map (·.2)) = (benOf W u ss).length + 1 := by simp [weigh]
      rw [this]
      have : weigh W u (ts.map (·.2)) ≤ weigh W u (ts0.map (·.2)) + (benOf W u ss).length := by simpa using wgh9
      omega
abbrev N_copied : List Str := ["house", "user", "number", "node", "made", "name"]
theorem sc_copied : FnScope N_copied ["house", "user", "number"] (defScope s_copied) := ⟨rfl, rfl, rfl, by decide +kernel, rfl, by decide +kernel, by decide +kernel⟩
theorem st_copied {P : Program} {w : World} {K : PySem.W.Frag} {mg : Str → Option Value} {base : Heap} {f : Addr} {fd : FuncData} (F : FunD K "copied" "copied" (defArgs s_copied) (defBody s_copied) (defScope s_copied) [] [] f fd) (n : Nat) (F_copied : Fn P w K mg base (3 + n) "copied" ["house", "user", "number"] (prevSp (spN_copied K) n))
    (CK : ClsK K) (F_World_new_node : Mt P w K mg base 3 (cHouse K) "new_node" ["self", "kind", "user", "rights"] [] (sp_new_node K)) (b_sorted : mg "sorted" = none) : FnOk P w K mg base (L2.CX P w) (3 + n + 1) f fd ["house", "user", "number"] (spN_copied K n) := by
  have nd := sc_copied.nd
  refine F.ok (k := 3 + n) sc_copied (fun vs H Q E h => ?_) (fun cdv A outer s H vs Q E hr h => ?_)
  · obtain ⟨_, _, _, _, _, rfl, _⟩ := h
    rfl
  have hu := hu_of hr
  refine ⟨_, (pss_cons (ps_set (i := 3) nd rfl (Or.inl rfl) (pe_dget hu (pe_fld (pv 0) (by rfl)) (pv 2) (fun _ _ => rfl)))
      (pss_cons (ps_set (i := 4) nd rfl (Or.inl rfl) (pe_mtS F_World_new_node (pv 0) (hr.mono (by omega)) (passD rfl rfl rfl rfl) (pa_cons (pe_fld (pv 3) (by rfl)) (pa_cons (pv 1) (pa_cons (pe_fld (pv 3) (by rfl)) pa_nil)))))
      (pss_cons (ps_fld (pe_dget hu (pe_fld (pv 0) (by rfl)) (pv 4) (fun _ _ => rfl)) (pe_fld (pv 3) (by rfl)) rfl)
      (pss_cons (ps_for (passes_of rfl) rfl (pi_list (pe_callB (call_sortedD rfl) (by rfl) b_sorted (by decide +kernel) (pa_cons (pe_fld (pv 3) (by rfl)) pa_nil))) (pg_name (i := 5) nd rfl (Or.inl rfl))
      (pss_one (ps_dput hu (pe_fld (pe_dget hu (pe_fld (pv 0) (by rfl)) (pv 4) (fun _ _ => rfl)) (by rfl)) (pv 5) (pe_fn F_copied (hr.mono (by omega)) (by rfl) (passD rfl rfl rfl rfl) (pa_cons (pv 0) (pa_cons (pv 1) (pa_cons (pe_dget hu (pe_fld (pv 3) (by rfl)) (pv 5) (fun _ _ => rfl)) pa_nil)))) rfl)))
      (pss_one (ps_ret (pv 4))))))), ?_⟩
  obtain ⟨h, L, W, u, x, rfl, hh, ok, sm, u0, u1, hx, hn, hz, kO⟩ := h
  walk_at "x"
  refine hh.fN CK ?_
  walk_at "x"
  refine hh.node hx ?_
  walk_at "x"
  refine hh.ob ?_
  walk_at "x"
  have N := hh.nod _ hx
  refine N.kind CK ?_
  walk_at "x"
  refine N.rights CK fun rt hrt => ?_
  walk_at "x"
  refine ⟨h, L, W, (W.at x).kind, u, rt, (W.at x).r0, (W.at x).r1, (W.at x).r2, rfl, hh, u0, u1, by have : 0 < sizeGo W n x := (by cases n <;> (unfold sizeGo; omega)); omega, hrt, fun xa nm H1 hxa hnm hh1 o1 => ?_⟩
  have gx : ∀ i, i < W.nodes.length → (L.add xa nm).as.getD i 0 = L.as.getD i 0 := fun i hi => by
    show (L.as ++ [xa]).getD i 0 = _
    rw [List.getD_eq_getElem?_getD, List.getElem?_append_left (by rw [hh.la]; exact hi), ← List.getD_eq_getElem?_getD]
  have g1 : Grew h L (L.add xa nm) H := Grew.add hxa hnm
  generalize hL1 : L.add xa nm = L1 at hh1 gx g1
  have hx1 : x < (W.add (newNd W (W.at x).kind u (W.at x).r0 (W.at x).r1 (W.at x).r2)).nodes.length := by rw [Wd.add_len]; omega
  have N1 := hh1.nod _ hx1
  rw [Wd.add_at hx, gx x hx] at N1
  walk_at "x"
  refine N1.text CK ?_
  walk_at "x"
  refine hh1.fN CK ?_
  walk_at "x"
  have hk1 : W.nodes.length < (W.add (newNd W (W.at x).kind u (W.at x).r0 (W.at x).r1 (W.at x).r2)).nodes.length := by rw [Wd.add_len]; omega
  refine hh1.node hk1 ?_
  refine hh1.setF CK hk1 (f := "text") { (W.add (newNd W (W.at x).kind u (W.at x).r0 (W.at x).r1 (W.at x).r2)).at W.nodes.length with text := (W.at x).text } (CK.nf _ (by decide)) (fun _ _ => rfl) rfl rfl (fun H2 hh2 o2 => ?_)
  rw [add_text] at hh2
  have hh2 : HouseAt K H2 h L1 (W.add (copyNd W u x)) := hh2
  have o12 := off_grew o1 g1 o2
  have M0 := mid_start (u := u) ok sm hx
  clear N N1 hh1 o1 o2
  have N2 := hh2.nod x (by rw [Wd.add_len]; omega)
  rw [Wd.add_at hx, gx x hx] at N2
  walk_at "x"
  refine N2.names CK ?_
  walk_at "x"
  refine ⟨_, _, (W.at x).names.map (·.1), rfl, .inl N2.nam, ?_, by rw [List.length_map]; exact Nat.lt_succ_of_le (sm _), ?_⟩
  · unfold namesV
    rw [List.map_map, List.map_map]
    rfl
  intro ys py hys hso hpy
  have eys := sortS_of hys hso
  have e3 := Ex.new (o := HO.lst (ys.map V.str)) hpy
  have h3 := upd_same (H := H2) (a := py) (o := HO.lst (ys.map V.str))
  generalize upd H2 py (HO.lst (ys.map V.str)) = H3 at e3 h3 ⊢
  have hh3 := hh2.up e3
  have o13 : Off (fp h L) H H3 := fun a o ha hn => e3 _ _ (o12 a o ha hn)
  have pyL : py ∉ fp h L1 := fun z => by
    obtain ⟨o, ho⟩ := hh2.there z
    rw [hpy] at ho
    cases ho
  have kl : (sortN (W.at x).names).map (·.1) = ys := by rw [sortN_keys, eys]
  have pm := sortN_perm ok hx
  clear N2 hh2 hk1 hx1
  refine x_forLV (fun i σ' H' => ∃ L' Wi x5, σ' = [some (.ref h), some (.int u), some (.int x), some (.ref (L.as.getD x 0)), some (.int W.nodes.length), x5] ∧ HouseAt K H' h L' Wi ∧ CpMid W (W.at x).kind (ys.take i) (((sortN (W.at x).names).take i).map fun p => sizeGo W (n - 1) p.2).sum Wi ∧ Wi = copyL (copyGo u (n - 1)) W.nodes.length ((sortN (W.at x).names).take i) (W.add (copyNd W u x)) ∧ Off (fp h L) H H' ∧ Grew h L L' H ∧ H' py = some (.lst (ys.map V.str)) ∧ py ∉ fp h L' ∧ ∀ i, i < W.nodes.length → L'.as.getD i 0 = L.as.getD i 0) (SqL.of h3) ⟨L1, _, _, rfl, hh3, M0, rfl, o13, g1, h3, pyL, gx⟩ ?_ ?_ ?_
  · rintro i _ H' _ ⟨L', Wi, x5, rfl, _, _, _, _, _, hpy', _⟩
    exact SqL.of hpy'
  · clear hh3 o13 h3 e3 pyL g1 gx o12
    rintro i v _ H4 hv ⟨L4, Wi, x5, rfl, hh4, M4, eWi, o4, g4, hpy4, pyL4, gx4⟩
    rw [List.getElem?_map] at hv
    obtain ⟨s, hys4, rfl⟩ := Option.map_eq_some_iff.mp hv
    obtain ⟨p, hp4, hps⟩ : ∃ p, (sortN (W.at x).names)[i]? = some p ∧ p.1 = s := by
      rw [← kl, List.getElem?_map] at hys4
      exact Option.map_eq_some_iff.mp hys4
    have hpm : p ∈ (W.at x).names := pm.mem_iff.mp (List.mem_of_getElem? hp4)
    have lks : look s (W.at x).names = some p.2 := by rw [← hps]; exact look_of_mem ok (show (p.1, p.2) ∈ _ from hpm)
    obtain ⟨hnm', hpl⟩ := (ok.at hx).nam p hpm
    have hroom := names_room ok hx hpm
    have hM := M4.len
    cases n with
    | zero =>
      have hn : (W.at x).names = [] := hn
      rw [hn] at hpm
      cases hpm
    | succ m =>
      have hnp : Nst W m p.2 := hn p hpm
      have hnp4 := nst_old ok M4.old m _ hpl hnp
      have sz4 := size_old ok M4.old m _ hpl
      have C := copy_ok (u := u) m Wi p.2 M4.ok M4.sml (by omega) hnp4
      rw [sz4] at C
      have tk1 : ((sortN (W.at x).names).take (i + 1)) = (sortN (W.at x).names).take i ++ [p] := take_snoc hp4
      have tk2 : ys.take (i + 1) = ys.take i ++ [s] := take_snoc hys4
      have tot : (((sortN (W.at x).names).take i).map fun p => sizeGo W m p.2).sum + sizeGo W m p.2 ≤ ((W.at x).names.map fun p => sizeGo W m p.2).sum := by
        rw [← sum_perm (pm.map fun p => sizeGo W m p.2)]
        have e : ((sortN (W.at x).names).map fun p => sizeGo W m p.2).sum = ((((sortN (W.at x).names).take (i + 1)) ++ ((sortN (W.at x).names).drop (i + 1))).map fun p => sizeGo W m p.2).sum := by rw [List.take_append_drop]
        rw [e, tk1, List.map_append, List.map_append, List.sum_append, List.sum_append, List.map_singleton, List.sum_singleton]
        omega
      have hz : W.nodes.length + (1 + ((W.at x).names.map fun p => sizeGo W m p.2).sum) ≤ 40000 := hz
      have hM : Wi.nodes.length = W.nodes.length + 1 + (((sortN (W.at x).names).take i).map fun p => sizeGo W m p.2).sum := hM
      have N4 := hh4.nod x (by omega)
      rw [M4.old x hx, gx4 x hx] at N4
      walk_at "x"
      refine N4.names CK ?_
      walk_at "x"
      refine x_dgetS N4.nam (by rw [valV_names, lks]; rfl) ?_
      walk_at "x"
      refine ⟨h, L4, Wi, u, p.2, rfl, hh4, M4.ok, M4.sml, u0, by rw [M4.grp]; exact u1, by omega, hnp4, by rw [sz4]; omega, fun L5 H5 hh5 o5 g5 gx5 => ?_⟩
      have oo := off_grew o4 g4 o5
      have gg := grew_trans o4 g4 g5
      have hk5 : W.nodes.length < (copyGo u m Wi p.2).nodes.length := by rw [C.len]; omega
      have kat : (copyGo u m Wi p.2).at W.nodes.length = Wi.at W.nodes.length := C.old _ (by omega)
      have N5 := hh5.nod _ hk5
      walk_at "x"
      refine hh5.fN CK ?_
      walk_at "x"
      refine hh5.node hk5 ?_
      walk_at "x"
      refine N5.names CK ?_
      walk_at "x"
      have snl : s ∉ ys.take i := fun z => by
        have nd := (hys.nodup_iff.mpr (ok.at hx).dup)
        rw [← List.take_append_drop (i + 1) ys, tk2] at nd
        have := (List.nodup_append.mp (List.nodup_append.mp nd).1).2.2 s z s (List.mem_singleton.mpr rfl)
        exact this rfl
      have lk5 : look s ((copyGo u m Wi p.2).at W.nodes.length).names = none := look_keys (by rw [kat, M4.nms]; exact snl)
      refine x_dputSE N5.nam ?_ fun H6 h6 o6 => ?_
      · unfold namesV
        rw [List.length_map]
        have := C.sml W.nodes.length
        omega
      rw [putK_new (by rw [valV_names, lk5]; rfl), ← namesV_snoc] at h6
      walk_at "x"
      have hh6 : HouseAt K H6 h L5 (nameW (copyGo u m Wi p.2) W.nodes.length s Wi.nodes.length) := hh5.names hk5 h6 o6
      have o56 := hh5.offN hk5 o6
      have py5 := out_grew g5 hpy4 pyL4
      have hpy5 := o5 _ _ hpy4 pyL4
      have li : (ys.take i).length < 63 := by
        have h1 : ys.length ≤ 63 := by rw [hys.length_eq, List.length_map]; exact sm x
        have h2 : i < ys.length := (List.getElem?_eq_some_iff.mp hys4).1
        rw [List.length_take]
        omega
      refine ⟨L5, _, _, rfl, hh6, ?_, ?_, off_grew oo gg o56, gg, o56 _ _ hpy5 py5, py5, fun j hj => ?_⟩
      · have M5 := mid_step M4 C (by rw [← hps]; exact hnm') snl hroom li
        rw [tk2, tk1, List.map_append, List.sum_append, List.map_singleton, List.sum_singleton]
        exact M5
      · rw [tk1, copyL_snoc, ← eWi, hps]
        rfl
      · rw [gx5 j (by omega)]
        exact gx4 j hj
  · rintro _ H4 ⟨L4, Wi, x5, rfl, hh4, M4, eWi, o4, g4, hpy4, pyL4, gx4⟩
    walk_at "x"
    have e : copyGo u n W x = Wi := by
      rw [List.length_map, show ys.length = (sortN (W.at x).names).length by rw [← kl, List.length_map], List.take_length] at eWi
      cases n with
      | zero =>
        have hn : (W.at x).names = [] := hn
        rw [show sortN (W.at x).names = [] by rw [hn]; rfl] at eWi
        exact eWi.symm
      | succ m => exact eWi.symm
    exact kO L4 H4 (by rw [e]; exact hh4) o4 g4 gx4
theorem ok_copied {P : Program} {w : World} {K : PySem.W.Frag} {mg : Str → Option Value} {base : Heap} {f : Addr} {fd : FuncData} (F : FunD K "copied" "copied" (defArgs s_copied) (defBody s_copied) (defScope s_copied) [] [] f fd) (g_self : mg "copied" = some (.ref f)) (bn_self : Binds K fd ["house", "user", "number"] []) (kp_self : PySem.W.keepIn K (.ref f) = true)
    (CK : ClsK K) (F_World_new_node : Mt P w K mg base 3 (cHouse K) "new_node" ["self", "kind", "user", "rights"] [] (sp_new_node K)) (b_sorted : mg "sorted" = none) : FnOk P w K mg base (L2.CX P w) 17 f fd ["house", "user", "number"] (sp_copied K) := by
  have h : ∀ n, FnOk P w K mg base (L2.CX P w) (3 + n + 1) f fd ["house", "user", "number"] (spN_copied K n) := by
    intro n
    induction n with
    | zero => exact st_copied F 0 ⟨⟨f, fd, g_self, ⟨fun _ _ _ _ h => h.elim, fun _ _ _ _ _ _ _ _ _ _ _ _ _ h => h.elim⟩, bn_self, kp_self⟩⟩ (CK := CK) (F_World_new_node := F_World_new_node) (b_sorted := b_sorted)
    | succ n ih => exact st_copied F (n + 1) ⟨⟨f, fd, g_self, ih, bn_self, kp_self⟩⟩ (CK := CK) (F_World_new_node := F_World_new_node) (b_sorted := b_sorted)
  exact h 13
abbrev N_House_is_bound : List Str := ["self", "number"]
theorem sc_House_is_bound : FnScope N_House_is_bound ["self", "number"] (defScope s_House_is_bound) := ⟨rfl, rfl, rfl, by decide +kernel, rfl, by decide +kernel, by decide +kernel⟩
theorem ok_House_is_bound {P : Program} {w : World} {K : PySem.W.Frag} {mg : Str → Option Value} {base : Heap} {f : Addr} {fd : FuncData} (F : FunD K "is_bound" "House.is_bound" (defArgs s_House_is_bound) (defBody s_House_is_bound) (defScope s_House_is_bound) [] [] f fd)
    (CK : ClsK K) (b_list : mg "list" = none)  : FnOk P w K mg base (L2.CX P w) 1 f fd ["self", "number"] (sp_is_bound K) := by
  have nd := sc_House_is_bound.nd
  refine F.ok (k := 0) sc_House_is_bound (fun vs H Q E h => ?_) (fun cdv A outer s H vs Q E hr h => ?_)
  · obtain ⟨_, _, _, _, rfl, _⟩ := h
    rfl
  have hu := hu_of hr
  refine ⟨_, (pss_one (ps_ret (pe_or (pe_cmp (pc_din hu (pv 1) (pe_fld (pv 0) (by rfl))) rfl) (pe_one (pe_cmpR op_in_seq (pv 1) (pe_listVals rfl (pe_fld (pv 0) (by rfl)) (by rfl) b_list (by decide +kernel)) (by rfl)))))), ?_⟩
  obtain ⟨h, L, W, n, rfl, hh, kO⟩ := h
  unfold boundB at kO
  walk_at "x"
  refine hh.fO CK ?_
  refine x_dinI hh.ovr ?_
  rw [valV_over]
  walk_at "x"
  cases hl : look n W.over with
  | some j =>
    rw [hl] at kO
    refine iteT ?_
    exact kO H Ex.rfl
  | none =>
    rw [hl] at kO
    refine iteF ?_
    walk_at "x"
    refine x_fld ?_
    refine x_var rfl ?_
    refine hh.fO CK ?_
    refine ⟨L.ov, _, rfl, hh.ovr, fun p hp => ?_⟩
    rw [over_vals]
    refine x_inL (SqL.of upd_same) rfl (flat_nats _) ?_
    rw [in_over]
    exact kO _ (Ex.new hp)
abbrev N_World_rooms_beneath : List Str := ["self", "number", "found", "rest", "here", "names", "name"]
theorem sc_World_rooms_beneath : FnScope N_World_rooms_beneath ["self", "number"] (defScope s_World_rooms_beneath) := ⟨rfl, rfl, rfl, by decide +kernel, rfl, by decide +kernel, by decide +kernel⟩
theorem ok_World_rooms_beneath {P : Program} {w : World} {K : PySem.W.Frag} {mg : Str → Option Value} {base : Heap} {f : Addr} {fd : FuncData} (F : FunD K "rooms_beneath" "World.rooms_beneath" (defArgs s_World_rooms_beneath) (defBody s_World_rooms_beneath) (defScope s_World_rooms_beneath) [] [] f fd)
    (CK : ClsK K) (b_sorted : mg "sorted" = none)  : FnOk P w K mg base (L2.CX P w) 1 f fd ["self", "number"] (sp_rooms_beneath K) := by
  have nd := sc_World_rooms_beneath.nd
  refine F.ok (k := 0) sc_World_rooms_beneath (fun vs H Q E h => ?_) (fun cdv A outer s H vs Q E hr h => ?_)
  · obtain ⟨_, _, _, _, rfl, _⟩ := h
    rfl
  have hu := hu_of hr
  refine ⟨_, (pss_cons (ps_set (i := 2) nd rfl (Or.inl rfl) (pe_lst pa_nil))
      (pss_cons (ps_set (i := 3) nd rfl (Or.inl rfl) (pe_lst (pa_cons (pv 1) pa_nil)))
      (pss_cons (ps_while (passes_of rfl) (pt_cmpR (op_neD hr.units) (pv 3) (pe_lst pa_nil) (nomark _))
      (pss_cons (ps_set (i := 4) nd rfl (Or.inl rfl) (pe_bm PySem.F.plainAttrs_list PySem.F.slot_list_pop PySem.F.type_list_pop mt_popAt (pv 3) (pa_cons pe_int pa_nil)))
      (pss_cons (ps_expr (pe_bm PySem.F.plainAttrs_list PySem.F.slot_list_append PySem.F.type_list_append mt_append (pv 2) (pa_cons (pv 4) pa_nil)))
      (pss_cons (ps_set (i := 5) nd rfl (Or.inr rfl) (pe_fld (pe_dget hu (pe_fld (pv 0) (by rfl)) (pv 4) (fun _ _ => rfl)) (by rfl)))
      (pss_one (ps_set (i := 3) nd rfl (Or.inl rfl) (pe_op op_cat (pv 3) (pe_lc (own := [("name", 6)]) (g := (gName 6)) (by rfl) nd (pi_list (pe_callB (call_sortedD rfl) (by rfl) b_sorted (by decide +kernel) (pa_cons (pv 5) pa_nil))) (blkOk_by (own := [("name", 6)]) (N := N_World_rooms_beneath) (sc := defScope s_World_rooms_beneath) (by decide +kernel)) (fun _ _ _ _ _ => (pg_name (i := 6) nd rfl (Or.inl rfl))) (fun _ _ _ _ _ => (pts_one (pt_cmpR op_eq (pe_fldX (K := K) (pe_dget hu (pe_fldX (K := K) (pv 0) (by rfl) (by rfl)) (pe_dget hu (pv 5) (pv 6) (fun _ _ => rfl)) (fun _ _ => rfl)) (by rfl) (by rfl)) pe_str (nomark _)))) (fun _ _ _ _ _ => (pe_dget hu (pv 5) (pv 6) (fun _ _ => rfl)))))))))))
      (pss_one (ps_ret (pv 2)))))), ?_⟩
  obtain ⟨h, L, W, n, rfl, hh, ok, sm, tr, hn, kO⟩ := h
  walk_at "x"
  refine x_newL fun pf H1 hpf e1 h1 => ?_
  walk_at "x"
  refine x_newL fun pr0 H2 hpr0 e2 h2 => ?_
  walk_at "x"
  refine x_while (fun m σ' H' => ∃ (pr : Addr) (fnd rst : List Nat) (x4 x5 x6 : Option V), σ' = [some (.ref h), some (.int n), some (.ref pf), some (.ref pr), x4, x5, x6] ∧ Ex H H' ∧ H pr = none ∧ pf ≠ pr ∧ H' pf = some (.lst (fnd.map fun n : Nat => V.int (n : Int))) ∧ H' pr = some (.lst (rst.map fun n : Nat => V.int (n : Int))) ∧ Bfs W n fnd rst ∧ m + fnd.length = W.nodes.length + 1) (W.nodes.length + 1)
    ⟨pr0, [], [n], none, none, none, rfl, e1.tr e2, back_none e1 hpr0, (fun z => by rw [z, hpr0] at h1; cases h1), e2 _ _ h1, h2, Bfs.start W n, rfl⟩ ?_
  rintro m _ H3 ⟨pr, fnd, rst, x4, x5, x6, rfl, e3, hpr, hne, h3f, h3r, bf, hm⟩
  have blen := bf.len ok hn
  walk_at "x"
  refine x_newL fun l0 H4 hl0 e4 h4 => ?_
  have di : ∀ l : List Nat, l.map (fun n : Nat => V.int (n : Int)) = (l.map fun n : Nat => (n : Int)).map V.int := fun l => by rw [List.map_map]; rfl
  have h4r := e4 _ _ h3r
  have h4f := e4 _ _ h3f
  have h4r' := h4r
  rw [di] at h4r'
  refine ⟨_, _, .lst (SqL.of h4r') (dp_ints _), .lst (SqL.of h4) (dp_ints []), shaped_ints _, rfl, ?_⟩
  walk_at "x"
  cases rst with
  | nil =>
    refine x_wh (fun hb => by cases hb) (fun _ => ?_)
    walk_at "x"
    exact kO fnd pf H4 (bf.done ok tr) hpf (e3.tr e4) h4f
  | cons y rst =>
    have hy : y < W.nodes.length := (bf.bel y (by simp)).lt ok hn
    refine x_wh (fun _ => ?_) (fun hb => by cases hb)
    walk_at "x"
    refine x_tyL (SqL.of h4r) ?_
    walk_at "x"
    refine x_popFirst h4r fun H5 h5 o5 => ?_
    have e5 : Ex H H5 := fun b o hb => by
      rw [o5 b fun z => by rw [z, hpr] at hb; cases hb]
      exact (e3.tr e4) _ _ hb
    have h5f : H5 pf = _ := (o5 _ hne).trans h4f
    walk_at "x"
    refine x_tyL (SqL.of h5f) ?_
    walk_at "x"
    refine x_app h5f (by rw [List.length_map]; exact Nat.lt_of_lt_of_le (show fnd.length < 1000 by have := sm.1; omega) (by decide)) ?_
    generalize hH6 : upd H5 pf (.lst (fnd.map (fun n : Nat => V.int (n : Int)) ++ [V.int (y : Int)])) = H6
    have h6f : H6 pf = some (.lst ((fnd ++ [y]).map fun n : Nat => V.int (n : Int))) := by
      rw [← hH6, upd_same, List.map_append]
      rfl
    have o6 : ∀ b, b ≠ pf → H6 b = H5 b := fun b hb => by rw [← hH6]; exact upd_ne hb
    have e6 : Ex H H6 := fun b o hb => by
      rw [o6 b fun z => by rw [z, hpf] at hb; cases hb]
      exact e5 _ _ hb
    have h6r : H6 pr = _ := (o6 _ hne.symm).trans h5
    have hh6 := hh.up e6
    have N := hh6.nod _ hy
    walk_at "x"
    refine hh6.fN CK ?_
    walk_at "x"
    refine hh6.node hy ?_
    walk_at "x"
    refine N.names CK ?_
    walk_at "x"
    refine ⟨_, _, (W.at y).names.map (·.1), rfl, .inl N.nam, ?_, by rw [List.length_map]; exact Nat.lt_succ_of_le (sm.2 y), ?_⟩
    · unfold namesV
      rw [List.map_map, List.map_map]
      rfl
    intro ys py hys hso hpy
    have e7 := Ex.new (o := HO.lst (ys.map V.str)) hpy
    have h7 := upd_same (H := H6) (a := py) (o := HO.lst (ys.map V.str))
    generalize upd H6 py (HO.lst (ys.map V.str)) = H7 at e7 h7 ⊢
    obtain ⟨k1, k2, k3⟩ := kids_of ok tr hy hys
    have yl : ys.length ≤ 63 := by
      rw [hys.length_eq, List.length_map]
      exact sm.2 y
    have hh7 := hh6.up e7
    refine x_lcLV (SqL.of h7) ⟨fun _ => rfl, by rw [List.length_map]; omega, fun v => decide ((W.at (lookV (W.at y).names v)).kind = "room"), fun v => .int (lookV (W.at y).names v), fun x hx H' e R k => ?_, fun x hx _ H' e R k => ?_, fun D H8 hD e8 h8 => ?_⟩
    · obtain ⟨s, hs, rfl⟩ := List.mem_map.mp hx
      obtain ⟨c, hc, hcm⟩ := k1 s hs
      have hh' := hh7.up e
      have N' := hh'.nod _ hy
      walk_at "x"
      refine hh'.fN CK ?_
      walk_at "x"
      refine x_dgetS N'.nam (by rw [valV_names, hc]; rfl) ?_
      refine hh'.node (name_lt2 ok hcm) ?_
      refine (hh'.nod _ (name_lt2 ok hcm)).kind CK ?_
      walk_at "x"
      rw [dec_str]
      have := k H' Ex.rfl
      dsimp only at this
      rw [lookV_str hc] at this
      exact this
    · obtain ⟨s, hs, rfl⟩ := List.mem_map.mp hx
      obtain ⟨c, hc, hcm⟩ := k1 s hs
      have hh' := hh7.up e
      have N' := hh'.nod _ hy
      walk_at "x"
      refine x_dgetS N'.nam (by rw [valV_names, hc]; rfl) ?_
      have := k H' Ex.rfl
      dsimp only at this
      rw [lookV_str hc] at this
      exact this
    · have h8' : H8 D = some (.lst (((ys.filter fun s => decide ((W.at ((look s (W.at y).names).getD 0)).kind = "room")).map fun s => (look s (W.at y).names).getD 0).map fun n : Nat => V.int (n : Int))) := by
        rw [h8, List.filter_map, List.map_map, List.map_map]
        rfl
      generalize hks : ((ys.filter fun s => decide ((W.at ((look s (W.at y).names).getD 0)).kind = "room")).map fun s => (look s (W.at y).names).getD 0) = ks at h8' k2 k3
      have kl : ks.length ≤ 63 := by
        rw [← hks, List.length_map]
        exact Nat.le_trans (List.length_filter_le _ _) yl
      have bf' := bf.step tr k2 k3
      refine x_cat ((e7.tr e8) _ _ h6r) h8' (by rw [List.length_map, List.length_map]; rw [List.length_cons] at blen; have := sm.1; omega) fun q H9 hq e9 h9 => ?_
      walk_at "x"
      have E9 : Ex H6 H9 := (e7.tr e8).tr e9
      refine ⟨m - 1, by rw [List.length_cons] at blen; omega, q, fnd ++ [y], rst ++ ks, _, _, _, rfl, e6.tr E9, back_none (e6.tr (e7.tr e8)) hq, fun z => ?_, E9 _ _ h6f, by rw [h9, List.map_append], bf', by rw [List.length_append, List.length_singleton]; rw [List.length_cons] at blen; omega⟩
      rw [← z, (e7.tr e8) _ _ h6f] at hq
      cases hq
def boundV (W : Wd) (v : V) : V := match v with
  | .int i => .bl (boundB W i.toNat)
  | _ => .non
theorem boundV_map (W : Wd) (ys : List Nat) : (ys.map fun n : Nat => V.int (n : Int)).map (boundV W) = (ys.map (boundB W)).map V.bl := by
  rw [List.map_map, List.map_map]
  exact List.map_congr_left fun a _ => rfl
theorem nats_of {ns : List Int} {ys : List Nat} (h : ns.Perm (ys.map fun n : Nat => (n : Int))) : ∃ zs : List Nat, ns = zs.map (fun n : Nat => (n : Int)) ∧ zs.Perm ys := by
  refine ⟨ns.map Int.toNat, ?_, ?_⟩
  · rw [List.map_map]
    refine (List.map_id ns).symm.trans (List.map_congr_left fun i hi => ?_)
    obtain ⟨n, _, rfl⟩ := List.mem_map.mp (h.mem_iff.mp hi)
    rfl
  · have := h.map Int.toNat
    rw [List.map_map] at this
    refine this.trans ?_
    have e : ys.map (Int.toNat ∘ fun n : Nat => (n : Int)) = ys := (List.map_congr_left fun a _ => rfl).trans (List.map_id ys)
    rw [e]
abbrev N_look_free : List Str := ["house", "user", "number", "right", "found", "one"]
theorem sc_look_free : FnScope N_look_free ["house", "user", "number", "right"] (defScope s_look_free) := ⟨rfl, rfl, rfl, by decide +kernel, rfl, by decide +kernel, by decide +kernel⟩
theorem ok_look_free {P : Program} {w : World} {K : PySem.W.Frag} {mg : Str → Option Value} {base : Heap} {f : Addr} {fd : FuncData} (F : FunD K "look_free" "look_free" (defArgs s_look_free) (defBody s_look_free) (defScope s_look_free) [] [] f fd)
    (F_World_rooms_beneath : Mt P w K mg base 1 (cHouse K) "rooms_beneath" ["self", "number"] [] (sp_rooms_beneath K)) (b_any : mg "any" = none) (F_House_is_bound : Mt P w K mg base 1 (cHouse K) "is_bound" ["self", "number"] [] (sp_is_bound K)) (R_Busy : Rz K mg "Busy" (He.ga K "Busy")) (b_sorted : mg "sorted" = none) (F_World_look_right : Mt P w K mg base 3 (cHouse K) "look_right" ["self", "user", "number", "right"] [] (sp_look_right K))  : FnOk P w K mg base (L2.CX P w) 4 f fd ["house", "user", "number", "right"] (sp_look_free K) := by
  have nd := sc_look_free.nd
  refine F.ok (k := 3) sc_look_free (fun vs H Q E h => ?_) (fun cdv A outer s H vs Q E hr h => ?_)
  · obtain ⟨_, _, _, _, _, _, rfl, _⟩ := h
    rfl
  have hu := hu_of hr
  refine ⟨_, (pss_cons (ps_set (i := 4) nd rfl (Or.inl rfl) (pe_mtS F_World_rooms_beneath (pv 0) (hr.mono (by decide)) (passD rfl rfl rfl rfl) (pa_cons (pv 2) pa_nil)))
      (pss_mid (ps_if (pt_val (pe_callB (cr_any rfl) (by rfl) b_any (by decide +kernel) (pa_cons (pe_lc (own := [("one", 5)]) (g := (gName 5)) (by rfl) nd (pi_list (pv 4)) (blkOk_by (own := [("one", 5)]) (N := N_look_free) (sc := defScope s_look_free) (by decide +kernel)) (fun _ _ _ _ _ => (pg_name (i := 5) nd rfl (Or.inl rfl))) (fun _ _ _ _ _ => pts_nil) (fun _ _ _ _ _ => (pe_mtS F_House_is_bound (pv 0) (hr.mono (by decide)) (passC rfl) (pa_cons (pv 5) pa_nil)))) pa_nil))) (pss_one (ps_raise rfl (takes_of rfl rfl rfl rfl) (pmk_txt R_Busy (by rfl))))
      pss_nil)
      (pss_cons (ps_for (passes_of rfl) rfl (pi_list (pe_callB cr_sortedI (by rfl) b_sorted (by decide +kernel) (pa_cons (pv 4) pa_nil))) (pg_name (i := 5) nd rfl (Or.inl rfl))
      (pss_one (ps_expr (pe_mtS F_World_look_right (pv 0) (hr.mono (by decide)) (passD rfl rfl rfl rfl) (pa_cons (pv 1) (pa_cons (pv 5) (pa_cons (pv 3) pa_nil)))))))
      (pss_one (ps_ret (pv 4)))))), ?_⟩
  obtain ⟨h, L, W, u, n, right, rfl, hh, ok, sm, tr, hn, u0, u1, kE, kO⟩ := h
  walk_at "x"
  refine hh.ob ?_
  walk_at "x"
  refine ⟨h, L, W, n, rfl, hh, ok, sm, tr, hn, fun ys p H1 hys hp e1 h1 => ?_⟩
  have hh1 := hh.up e1
  have lt : ∀ y ∈ ys, y < W.nodes.length := fun y hy => ((mem_rooms ok tr).mp (hys.mem_iff.mp hy)).lt ok hn
  have yl : ys.length ≤ 63 := by
    rw [hys.length_eq]
    exact Nat.le_trans (sub_len ok tr hn) sm.1
  have anyE : (ys.map (boundB W)).any id = (roomsOf W n).any (boundB W) := by
    rw [List.any_map]
    exact hys.any_eq
  walk_at "x"
  dsimp only
  refine x_cutE (fun _ => (roomsOf W n).any (boundB W) = false) ?_ fun H2 e2 hb => ?_
  · walk_at "x"
    refine x_lcLV (SqL.of h1) ⟨fun x => rfl, by rw [List.length_map]; omega, fun _ => true, boundV W, fun x hx H' e' R q => q H' Ex.rfl, fun x hx _ H' e' R q => ?_, fun D H' hD e' hl => ?_⟩
    · obtain ⟨y, hy, rfl⟩ := List.mem_map.mp hx
      walk_at "x"
      refine (hh1.up e').ob ?_
      walk_at "x"
      exact ⟨h, L, W, y, rfl, hh1.up e', fun H2 e2 => q H2 e2⟩
    · rw [List.filter_eq_self.mpr (fun _ _ => rfl), boundV_map] at hl
      walk_at "x"
      refine x_any (SqL.of hl) ?_
      rw [anyE]
      walk_at "x"
      cases hc : (roomsOf W n).any (boundB W) with
      | true =>
        refine iteT ?_
        walk_at "x"
        exact kE (.no 11) (by unfold freeR; rw [if_pos hc]) _ _ H' (e1.tr e') ⟨rfl, rfl⟩
      | false =>
        refine iteF ?_
        walk_at "x"
        exact ⟨rfl, e', rfl⟩
  have fr : freeR W u n right = ((List.range W.nodes.length).find? fun i => decide (i ∈ roomsOf W n) && !mayOf W u i right).map fun i : Nat => Err.right u (i : Int) := by
    unfold freeR
    rw [if_neg (by rw [hb]; decide)]
  have E2 := e1.tr e2
  have hh2 := hh.up E2
  have h2 := e2 _ _ h1
  clear hh1 h1 anyE
  walk_at "x"
  refine ⟨p, ys.map (fun n : Nat => (n : Int)), rfl, SqL.of (by rw [List.map_map]; exact h2), fun ns q pn pw hq => ?_⟩
  obtain ⟨zs, rfl, pz⟩ := nats_of pn
  have e3 := Ex.new (o := HO.lst ((zs.map (fun n : Nat => (n : Int))).map V.int)) hq
  have h3 := upd_same (H := H2) (a := q) (o := HO.lst ((zs.map (fun n : Nat => (n : Int))).map V.int))
  generalize upd H2 q (HO.lst ((zs.map (fun n : Nat => (n : Int))).map V.int)) = H3 at e3 h3 ⊢
  rw [List.map_map] at h3
  have h3 : H3 q = some (.lst (zs.map fun n : Nat => V.int (n : Int))) := h3
  have pw : zs.Pairwise (· ≤ ·) := (List.pairwise_map.mp pw).imp fun h => by omega
  have mem : ∀ z, z ∈ zs ↔ z ∈ roomsOf W n := fun z => pz.mem_iff.trans hys.mem_iff
  have hh3 := hh2.up e3
  refine x_forLV (fun i σ' H' => ∃ x5, σ' = [some (.ref h), some (.int u), some (.int n), some (.int right), some (.ref p), x5] ∧ H' = H3 ∧ ∀ z ∈ zs.take i, mayOf W u z right = true) (SqL.of h3) ⟨_, rfl, rfl, fun z hz => (nomatch hz)⟩ (fun i σ' H' _ ⟨x5, _, e, _⟩ => by rw [e]; exact SqL.of h3) ?_ ?_
  · rintro i v _ _ hv ⟨x5, rfl, rfl, hd⟩
    rw [List.getElem?_map] at hv
    obtain ⟨z, hz, rfl⟩ := Option.map_eq_some_iff.mp hv
    have zm : z ∈ zs := List.mem_of_getElem? hz
    have zl : z < W.nodes.length := lt z (pz.mem_iff.mp zm)
    walk_at "x"
    refine hh3.ob ?_
    walk_at "x"
    refine ⟨h, L, W, u, z, right, rfl, hh3, u0, u1, zl, fun hm => ?_, fun hm cls d H' e' ea => ?_⟩
    · walk_at "x"
      refine ⟨_, rfl, rfl, fun y hy => ?_⟩
      rw [take_snoc hz] at hy
      rcases List.mem_append.mp hy with hy | hy
      · exact hd y hy
      · rw [List.mem_singleton.mp hy]
        exact hm
    · refine kE (.right u z) ?_ cls d H' ((E2.tr e3).tr e') ea
      rw [fr, find_least (i := z) zl (by rw [hm, decide_eq_true ((mem z).mp zm)]; rfl) fun j hj => ?_]
      · rfl
      · by_cases jm : j ∈ roomsOf W n
        · have jz := (mem j).mpr jm
          rw [← List.take_append_drop i zs] at jz
          rcases List.mem_append.mp jz with jz | jz
          · rw [hd j jz]
            simp
          · exfalso
            have dz : zs.drop i = z :: zs.drop (i + 1) := by
              have hlt := (List.getElem?_eq_some_iff.mp hz).1
              rw [List.drop_eq_getElem_cons hlt, (List.getElem?_eq_some_iff.mp hz).2]
            rw [dz] at jz
            rw [← List.take_append_drop i zs, dz] at pw
            have pw2 := (List.pairwise_append.mp pw).2.1
            rcases List.mem_cons.mp jz with rfl | jz
            · omega
            · have := (List.pairwise_cons.mp pw2).1 j jz
              omega
        · rw [decide_eq_false jm]
          rfl
  · rintro _ H4 ⟨x5, rfl, rfl, hd⟩
    rw [List.length_map, List.take_length] at hd
    walk_at "x"
    refine kO ?_ ys p H4 hys hp (E2.tr e3) (e3 _ _ h2)
    rw [fr, find_no fun j hj => ?_]
    · rfl
    · by_cases jm : j ∈ roomsOf W n
      · rw [hd j ((mem j).mpr jm)]
        simp
      · rw [decide_eq_false jm]
        rfl
abbrev N_copy_room : List Str := ["house", "user", "old", "new", "stands", "number", "goal", "name", "before", "stand"]
theorem sc_copy_room : FnScope N_copy_room ["house", "user", "old", "new"] (defScope s_copy_room) := ⟨rfl, rfl, rfl, by decide +kernel, rfl, by decide +kernel, by decide +kernel⟩
theorem ok_copy_room {P : Program} {w : World} {K : PySem.W.Frag} {mg : Str → Option Value} {base : Heap} {f : Addr} {fd : FuncData} (F : FunD K "copy_room" "copy_room" (defArgs s_copy_room) (defBody s_copy_room) (defScope s_copy_room) [] [] f fd)
    (F_World_look_user : Mt P w K mg base 2 (cHouse K) "look_user" ["self", "user"] [] (sp_look_user K)) (F_World_room_of : Mt P w K mg base 5 (cHouse K) "room_of" ["self", "user", "path"] [] (sp_room_of K)) (CK : ClsK K) (F_House_free_place : Mt P w K mg base 7 (cHouse K) "free_place" ["self", "user", "path"] [] (sp_free_place K)) (F_look_free : Fn P w K mg base 4 "look_free" ["house", "user", "number", "right"] (sp_look_free K)) (c_SEE : ∃ t, mg "SEE" = some (.int 4 t)) (c_PASS : ∃ t, mg "PASS" = some (.int 1 t)) (R_BadMove : Rz K mg "BadMove" (He.ga K "BadMove")) (F_copied : Fn P w K mg base 17 "copied" ["house", "user", "number"] (sp_copied K))  : FnOk P w K mg base (L2.CX P w) 18 f fd ["house", "user", "old", "new"] (sp_copy_room K) := by
  have nd := sc_copy_room.nd
  refine F.ok (k := 17) sc_copy_room (fun vs H Q E h => ?_) (fun cdv A outer s H vs Q E hr h => ?_)
  · obtain ⟨_, _, _, _, _, _, rfl, _⟩ := h
    rfl
  have hu := hu_of hr
  refine ⟨_, (pss_cons (ps_expr (pe_mtS F_World_look_user (pv 0) (hr.mono (by decide)) (passD rfl rfl rfl rfl) (pa_cons (pv 1) pa_nil)))
      (pss_cons (ps_set (i := 4) nd rfl (Or.inl rfl) (pe_mtS F_World_room_of (pv 0) (hr.mono (by decide)) (passD rfl rfl rfl rfl) (pa_cons (pv 1) (pa_cons (pv 2) pa_nil))))
      (pss_cons (ps_set (i := 5) nd rfl (Or.inl rfl) (pe_fld (pe_ix ix_list (pv 4) (pe_un un_neg pe_int) (fun _ _ => rfl)) (by rfl)))
      (pss_cons (ps_asg (pe_mtS F_House_free_place (pv 0) (hr.mono (by decide)) (passD rfl rfl rfl rfl) (pa_cons (pv 1) (pa_cons (pv 3) pa_nil))) (pg_tup rfl (pgs_cons (pg_name (i := 6) nd rfl (Or.inl rfl)) (pgs_cons (pg_name (i := 7) nd rfl (Or.inl rfl)) pgs_nil))))
      (pss_cons (ps_expr (pe_fn F_look_free (hr.mono (by decide)) (by rfl) (passD rfl rfl rfl rfl) (pa_cons (pv 0) (pa_cons (pv 1) (pa_cons (pv 5) (pa_cons (pe_op op_add (pe_gint c_SEE (by rfl)) (pe_gint c_PASS (by rfl))) pa_nil))))))
      (pss_mid (ps_if (pt_cmpR op_in_seq (pv 5) (pe_lc (own := [("stand", 9)]) (g := (gName 9)) (by rfl) nd (pi_list (pv 6)) (blkOk_by (own := [("stand", 9)]) (N := N_copy_room) (sc := defScope s_copy_room) (by decide +kernel)) (fun _ _ _ _ _ => (pg_name (i := 9) nd rfl (Or.inl rfl))) (fun _ _ _ _ _ => pts_nil) (fun _ _ _ _ _ => (pe_fldX (K := K) (pv 9) (by rfl) (by rfl)))) (by rfl)) (pss_one (ps_raise rfl (takes_of rfl rfl rfl rfl) (pmk_txt R_BadMove (by rfl))))
      pss_nil)
      (pss_cons (ps_set (i := 8) nd rfl (Or.inl rfl) (pe_fld (pv 0) (by rfl)))
      (pss_cons (ps_dput hu (pe_fld (pe_dget hu (pe_fld (pv 0) (by rfl)) (pe_fld (pe_ix ix_list (pv 6) (pe_un un_neg pe_int) (fun _ _ => rfl)) (by rfl)) (fun _ _ => rfl)) (by rfl)) (pv 7) (pe_fn F_copied (hr.mono (by decide)) (by rfl) (passD rfl rfl rfl rfl) (pa_cons (pv 0) (pa_cons (pv 1) (pa_cons (pv 5) pa_nil)))) rfl)
      (pss_one (ps_ret (pe_op op_sub (pe_fld (pv 0) (by rfl)) (pv 8)))))))))))), ?_⟩
  obtain ⟨h, L, W, vu, vo, vn, rfl, hh, ok, sm, tr, dp, hu', ho, hn', kE, kO⟩ := h
  obtain ⟨t4, c4⟩ := id c_SEE
  obtain ⟨t1, c1⟩ := id c_PASS
  walk_at "x"
  refine hh.ob ?_
  walk_at "x"
  refine ⟨h, L, W, vu, rfl, hh, hu', fun hb H1 e1 => ?_, fun hb H1 e1 => kE (.no 3) (by unfold copyR userB; rw [if_pos hb]) _ _ H1 e1 ⟨rfl, rfl⟩⟩
  obtain ⟨u, rfl, ui, u0, u1⟩ := userB_int ok hb
  have hb : userB W (.int u) = true := hb
  have hh1 := hh.up e1
  have sr : copyR W (.int u) vo vn = match roomV' W u vo with
      | .err e => .err e
      | .ok ss => match freeV W u vn with
        | .err e => .err e
        | .ok st m => match freeR W u (last ss).number 5 with
          | some e => .err e
          | none => if (last ss).number ∈ st.map (·.number) then .err (.no 12) else .ok ((last ss).number, st, m) := by
    unfold copyR
    rw [if_neg (by rw [hb]; decide)]
    rfl
  rw [sr] at kE kO
  walk_at "x"
  refine hh1.ob ?_
  walk_at "x"
  refine room_ofP hh1 ok u0 u1 (ho.ex e1) (fun e he cls d H2 e2 ha => kE e (by rw [he]) cls d H2 (e1.tr e2) ha) (fun ss hss q H2 hq e2 hst => ?_)
  rw [hss] at kE kO
  dsimp only at kE kO
  obtain ⟨ps, hw⟩ := roomV_way hss
  obtain ⟨pk1, pk2, _⟩ := wayOf_ok ok hw
  have hl := last_lt pk1 pk2
  have hh2 := hh1.up e2
  have E2 := e1.tr e2
  obtain ⟨as, la, hsp, asl, hat, hla⟩ := hst.last pk1
  walk_at "x"
  refine x_ixL (SqL.of hsp) hat ?_
  walk_at "x"
  refine hla.num CK ?_
  walk_at "x"
  refine hh2.ob ?_
  walk_at "x"
  refine ⟨h, L, W, u, vn, rfl, hh2, ok, u0, u1, hn'.ex E2, fun e he cls d H3 e3 ha => kE e (by rw [he]) cls d H3 (E2.tr e3) ha, fun st m hf p2 q2 H3 hpn2 hq2 e3 h3 hst2 => ?_⟩
  rw [hf] at kE kO
  dsimp only at kE kO
  obtain ⟨hpl2, hlk2⟩ := free_place hf
  obtain ⟨pj1, pj2, pj3⟩ := place_ok ok hpl2
  have hl2 := last_lt pj1 pj2
  have hh3 := hh2.up e3
  have E3 := E2.tr e3
  refine x_gtup h3 ?_
  walk_at "x"
  refine ⟨h, L, W, u, (last ss).number, 5, rfl, hh3, ok, sm, tr, hl, u0, u1, fun e he cls d H4 e4 ha => kE e (by rw [he]) cls d H4 (E3.tr e4) ha, fun hfr ys py H4 hys hpy e4 h4 => ?_⟩
  rw [hfr] at kE kO
  dsimp only at kE kO
  have hh4 := hh3.up e4
  have E4 := E3.tr e4
  have hst4 := hst2.up e4
  clear hys h4 hst hst2 hsp hla hh1 hh2 hh3
  walk_at "x"
  refine x_cutE (fun _ => (last ss).number ∉ st.map (·.number)) ?_ fun H5 e5 hni => ?_
  · obtain ⟨as2, hs2, hpd⟩ := hst4
    have sl2 : as2.length ≤ 300 := by
      rw [hpd.length]
      have := place_len hpl2
      omega
    walk_at "x"
    refine x_lcLV (SqL.of hs2) ⟨fun _ => rfl, by rw [List.length_map]; omega, fun _ => true, numAt H4, fun x hx H' e R k => k H' Ex.rfl, fun x hx _ H' e R k => ?_, fun D H5 hD e5 h5 => ?_⟩
    · obtain ⟨a, ha, rfl⟩ := List.mem_map.mp hx
      obtain ⟨z, _, hz⟩ := paired_mem hpd a ha
      walk_at "x"
      refine (hz.up e).num CK ?_
      rw [← numAt_of hz]
      exact k H' Ex.rfl
    · rw [List.filter_eq_self.mpr (fun _ _ => rfl), nums_map hpd] at h5
      walk_at "x"
      refine x_inL (SqL.of h5) rfl (flat_nats _) ?_
      rw [in_nats]
      walk_at "x"
      refine x_ifd (fun hm => ?_) (fun hm => ?_)
      · walk_at "x"
        exact kE (.no 12) (by rw [if_pos hm]) _ _ H5 (E4.tr e5) ⟨rfl, rfl⟩
      · walk_at "x"
        exact ⟨rfl, e5, hm⟩
  rw [if_neg hni] at kO
  have hh5 := hh4.up e5
  have E5 := E4.tr e5
  have hst5 := hst4.up e5
  obtain ⟨dn, dz⟩ := dp _ hl
  have C := copy_ok (u := u) 13 W (last ss).number ok sm.2 hl dn
  walk_at "x"
  refine hh5.fM CK ?_
  walk_at "x"
  refine ⟨h, L, W, u, (last ss).number, rfl, hh5, ok, sm.2, u0, u1, hl, dn, dz, fun L6 H6 hh6 o6 g6 _ => ?_⟩
  have qn : q2 ∉ fp h L := fun z => by
    obtain ⟨o, ho⟩ := hh.there z
    rw [back_none E2 hq2] at ho
    cases ho
  have st6 := hst5.off hh5 qn o6
  obtain ⟨as2, la2, hsp2, asl2, hat2, hla2⟩ := st6.last pj1
  have hl6 : (last st).number < (copyGo u 13 W (last ss).number).nodes.length := by rw [C.len]; omega
  have kat := C.old _ hl2
  have N := hh6.nod _ hl6
  rw [kat] at N
  walk_at "x"
  refine hh6.fN CK ?_
  walk_at "x"
  refine x_ixL (SqL.of hsp2) hat2 ?_
  walk_at "x"
  refine hla2.num CK ?_
  walk_at "x"
  refine hh6.node hl6 ?_
  walk_at "x"
  refine N.names CK ?_
  walk_at "x"
  refine x_dputSE N.nam ?_ fun H7 h7 o7 => ?_
  · unfold namesV
    rw [List.length_map]
    have := sm.2 (last st).number
    omega
  rw [putK_new (by rw [valV_names, hlk2]; rfl), ← namesV_snoc] at h7
  walk_at "x"
  have hh7 := hh6.names hl6 h7 o7
  have hh7 : HouseAt K H7 h L6 (copyW W u (last ss).number (last st).number m) := by
    unfold copyW nameW
    rw [kat] at hh7 ⊢
    exact hh7
  have ok7 : (copyW W u (last ss).number (last st).number m).Ok := nameW_ok C.ok hl6 (by rw [kat]; exact place_room ok hpl2) pj3 (by rw [kat]; exact hlk2) (by rw [C.len]; have := C.pos; omega)
  refine hh7.fM CK ?_
  walk_at "x"
  have e7 : ((copyW W u (last ss).number (last st).number m).nodes.length : Int) - (W.nodes.length : Int) = (sizeGo W 13 (last ss).number : Nat) := by
    unfold copyW
    rw [len_name, C.len]
    omega
  rw [e7]
  have o07 : Off (fp h L) H H7 := fun a o ha hn => by
    have h6 := o6 a o (E5 _ _ ha) hn
    refine hh6.offN hl6 o7 a o h6 fun z => ?_
    rcases g6.2 a z with z | z
    · exact hn z
    · rw [E5 _ _ ha] at z
      cases z
  exact kO _ st m rfl L6 H7 hh7 ok7 o07 (g6.back E5)
abbrev N_count_of : List Str := ["house", "user", "path", "kinds", "one", "kind"]
theorem sc_count_of : FnScope N_count_of ["house", "user", "path"] (defScope s_count_of) := ⟨rfl, rfl, rfl, by decide +kernel, rfl, by decide +kernel, by decide +kernel⟩
theorem ok_count_of {P : Program} {w : World} {K : PySem.W.Frag} {mg : Str → Option Value} {base : Heap} {f : Addr} {fd : FuncData} (F : FunD K "count_of" "count_of" (defArgs s_count_of) (defBody s_count_of) (defScope s_count_of) [] [] f fd)
    (F_beneath : Fn P w K mg base 6 "beneath" ["house", "user", "path"] (sp_beneath K))  : FnOk P w K mg base (L2.CX P w) 7 f fd ["house", "user", "path"] (sp_count_of K) := by
  have nd := sc_count_of.nd
  refine F.ok (k := 6) sc_count_of (fun vs H Q E h => ?_) (fun cdv A outer s H vs Q E hr h => ?_)
  · obtain ⟨_, _, _, _, _, rfl, _⟩ := h
    rfl
  have hu := hu_of hr
  refine ⟨_, (pss_cons (ps_setLc (i := 3) (own := [("one", 4), ("kind", 5)]) (g := (gTup K 2 (gCons (gName 4) (gCons (gName 5) gNil)))) (by rfl) nd rfl rfl (sw_true rfl rfl rfl (by decide +kernel)) (pi_list (pe_fn F_beneath (hr.mono (by decide)) (by rfl) (passD rfl rfl rfl rfl) (pa_cons (pv 0) (pa_cons (pv 1) (pa_cons (pv 2) pa_nil))))) (blkOk_by (own := [("one", 4), ("kind", 5)]) (N := N_count_of) (sc := defScope s_count_of) (by decide +kernel)) (fun _ _ _ _ _ => (pg_tup rfl (pgs_cons (pg_name (i := 4) nd rfl (Or.inl rfl)) (pgs_cons (pg_name (i := 5) nd rfl (Or.inl rfl)) pgs_nil)))) (fun _ _ _ _ _ => pts_nil) (fun _ _ _ _ _ => (pv 5)))
      (pss_one (ps_ret (pe_tup (pa_cons (pe_bm PySem.F.plainAttrs_list PySem.F.slot_list_count PySem.F.type_list_count mt_countF (pv 3) (pa_cons pe_str pa_nil)) (pa_cons (pe_bm PySem.F.plainAttrs_list PySem.F.slot_list_count PySem.F.type_list_count mt_countF (pv 3) (pa_cons pe_str pa_nil)) (pa_cons (pe_bm PySem.F.plainAttrs_list PySem.F.slot_list_count PySem.F.type_list_count mt_countF (pv 3) (pa_cons pe_str pa_nil)) pa_nil))))))), ?_⟩
  obtain ⟨h, L, W, vu, v, rfl, hh, ok, sm, hu', hv, kE, kO⟩ := h
  walk_at "x"
  refine ⟨h, L, W, vu, v, rfl, hh, ok, sm, hu', hv, kE, fun rs hr as p H1 hp e1 h1 hpd => ?_⟩
  have rl : rs.length ≤ 200 := benR_len hr
  have al : as.length ≤ 200 := by rw [hpd.length, (sortR_perm _).length_eq]; exact rl
  refine x_lcLG (s2 := fun x => [some (.ref h), some vu, some v, none, some (tupAt H1 x 0), some (tupAt H1 x 1)]) (SqL.of h1) (fun _ => rfl) (by rw [List.length_map]; omega) (fun _ => true) (fun x => tupAt H1 x 1) (fun x hx H' e R r => ?_) (fun x hx H' e R r => r H' Ex.rfl) (fun x hx _ H' e R r => ?_) fun D H2 hD e2 h2 => ?_
  · obtain ⟨d, hd, rfl⟩ := List.mem_map.mp hx
    obtain ⟨row, _, hz⟩ := paired_mem hpd d hd
    have hz : H1 d = some (.tup [.str (pathOf row.1), .str row.2]) := hz
    rw [tupAt_of hz, tupAt_of hz] at r
    refine x_gtup (e _ _ hz) ?_
    walk_at "x"
    exact r
  · walk_at "x"
    exact r H' Ex.rfl
  rw [List.filter_eq_self.mpr (fun _ _ => rfl), rows_snd hpd] at h2
  walk_at "x"
  refine x_tyL (SqL.of h2) ?_
  walk_at "x"
  refine x_cntF (SqL.of h2) rfl (flat_strs _) ?_
  walk_at "x"
  refine x_tyL (SqL.of h2) ?_
  walk_at "x"
  refine x_cntF (SqL.of h2) rfl (flat_strs _) ?_
  walk_at "x"
  refine x_tyL (SqL.of h2) ?_
  walk_at "x"
  refine x_cntF (SqL.of h2) rfl (flat_strs _) ?_
  rw [cnt_kinds (sortR_perm rs), cnt_kinds (sortR_perm rs), cnt_kinds (sortR_perm rs)]
  walk_at "x"
  refine x_newT fun q H3 hq e3 h3 => ?_
  exact kO rs hr q H3 (back_none (e1.tr e2) hq) ((e1.tr e2).tr e3) h3
abbrev N_found_names : List Str := ["house", "user", "path", "name", "one", "kind"]
theorem sc_found_names : FnScope N_found_names ["house", "user", "path", "name"] (defScope s_found_names) := ⟨rfl, rfl, rfl, by decide +kernel, rfl, by decide +kernel, by decide +kernel⟩
theorem ok_found_names {P : Program} {w : World} {K : PySem.W.Frag} {mg : Str → Option Value} {base : Heap} {f : Addr} {fd : FuncData} (F : FunD K "found_names" "found_names" (defArgs s_found_names) (defBody s_found_names) (defScope s_found_names) [] [] f fd)
    (F_beneath : Fn P w K mg base 6 "beneath" ["house", "user", "path"] (sp_beneath K))  : FnOk P w K mg base (L2.CX P w) 7 f fd ["house", "user", "path", "name"] (sp_found_names K) := by
  have nd := sc_found_names.nd
  refine F.ok (k := 6) sc_found_names (fun vs H Q E h => ?_) (fun cdv A outer s H vs Q E hr h => ?_)
  · obtain ⟨_, _, _, _, _, _, rfl, _⟩ := h
    rfl
  have hu := hu_of hr
  refine ⟨_, (pss_one (ps_ret (pe_lc (own := [("one", 4), ("kind", 5)]) (g := (gTup K 2 (gCons (gName 4) (gCons (gName 5) gNil)))) (by rfl) nd (pi_list (pe_fn F_beneath (hr.mono (by decide)) (by rfl) (passD rfl rfl rfl rfl) (pa_cons (pv 0) (pa_cons (pv 1) (pa_cons (pv 2) pa_nil))))) (blkOk_by (own := [("one", 4), ("kind", 5)]) (N := N_found_names) (sc := defScope s_found_names) (by decide +kernel)) (fun _ _ _ _ _ => (pg_tup rfl (pgs_cons (pg_name (i := 4) nd rfl (Or.inl rfl)) (pgs_cons (pg_name (i := 5) nd rfl (Or.inl rfl)) pgs_nil)))) (fun _ _ _ _ _ => (pts_one (pt_cmpR op_eq (pe_ix (ix_listX (K := K) rfl) (pe_split (pv 4) pe_str) (pe_un un_neg pe_int) (fun _ _ => rfl)) (pv 3) (nomark _)))) (fun _ _ _ _ _ => (pv 4))))), ?_⟩
  obtain ⟨h, L, W, vu, v, n, rfl, hh, ok, sm, hu', hv, kE, kO⟩ := h
  walk_at "x"
  refine ⟨h, L, W, vu, v, rfl, hh, ok, sm, hu', hv, kE, fun rs hr as p H1 hp e1 h1 hpd => ?_⟩
  have rl : rs.length ≤ 200 := benR_len hr
  have al : as.length ≤ 200 := by rw [hpd.length, (sortR_perm _).length_eq]; exact rl
  have rg : ∀ r ∈ sortR rs, goodParts r.1 = true ∧ r.1 ≠ [] := fun r hr' => by
    obtain ⟨g1, _, m, g2, _⟩ := benR_good ok hr r ((sortR_perm _).mem_iff.mp hr')
    exact ⟨g1, fun z => by rw [z] at g2; cases g2⟩
  refine x_lcLG (s2 := fun x => [some (.ref h), some vu, some v, some (.str n), some (tupAt H1 x 0), some (tupAt H1 x 1)]) (SqL.of h1) (fun _ => rfl) (by rw [List.length_map]; omega) (fun x => decide (lastV H1 x = n)) (fun x => tupAt H1 x 0) (fun x hx H' e R r => ?_) (fun x hx H' e R r => ?_) (fun x hx _ H' e R r => ?_) fun D H2 hD e2 h2 => ?_
  · obtain ⟨d, hd, rfl⟩ := List.mem_map.mp hx
    obtain ⟨row, _, hz⟩ := paired_mem hpd d hd
    have hz : H1 d = some (.tup [.str (pathOf row.1), .str row.2]) := hz
    rw [tupAt_of hz, tupAt_of hz] at r
    refine x_gtup (e _ _ hz) ?_
    walk_at "x"
    exact r
  · obtain ⟨d, hd, rfl⟩ := List.mem_map.mp hx
    obtain ⟨row, hrow, hz⟩ := paired_mem hpd d hd
    have hz' : H1 d = some (.tup [.str (pathOf row.1), .str row.2]) := hz
    obtain ⟨g1, g2⟩ := rg row hrow
    rw [lastV_of hz g1 g2] at r
    rw [show tupAt H1 (V.ref d) 0 = .str (pathOf row.1) from (tupAt_of hz').trans rfl, show tupAt H1 (V.ref d) 1 = .str row.2 from (tupAt_of hz').trans rfl]
    have pl := path_len g1
    walk_at "x"
    refine ⟨_, _, rfl, rfl, by decide +kernel, Nat.le_trans (show (pathOf row.1).length + 2 ≤ 100000 by omega) (by decide), fun q hq => ?_⟩
    have sp := split_path g2 (good_all g1).2
    walk_at "x"
    refine x_ixL (v := .str (row.1.getLastD "")) (SqL.of upd_same) ?_ ?_
    · rw [sp]
      rw [atI_neg1 (d := V.str "") (by simp)]
      congr 1
      cases hr1 : row.1 with
      | nil => exact (g2 hr1).elim
      | cons y ys =>
        show ((nn :: y :: ys).map V.str).getLastD (V.str "") = V.str ((y :: ys).getLastD "")
        rw [List.getLastD_eq_getLast?, List.getLastD_eq_getLast?, List.getLast?_map, List.getLast?_cons_cons]
        cases (y :: ys).getLast? <;> rfl
    walk_at "x"
    rw [dec_str]
    exact r _ (Ex.new hq)
  · obtain ⟨d, hd, rfl⟩ := List.mem_map.mp hx
    walk_at "x"
    exact r H' Ex.rfl
  rw [found_map hpd rg] at h2
  exact kO rs hr D H2 (back_none e1 hD) (e1.tr e2) h2
abbrev N_is_same : List Str := ["house", "user", "one", "other"]
theorem sc_is_same : FnScope N_is_same ["house", "user", "one", "other"] (defScope s_is_same) := ⟨rfl, rfl, rfl, by decide +kernel, rfl, by decide +kernel, by decide +kernel⟩
theorem ok_is_same {P : Program} {w : World} {K : PySem.W.Frag} {mg : Str → Option Value} {base : Heap} {f : Addr} {fd : FuncData} (F : FunD K "is_same" "is_same" (defArgs s_is_same) (defBody s_is_same) (defScope s_is_same) [] [] f fd)
    (F_World_look_user : Mt P w K mg base 2 (cHouse K) "look_user" ["self", "user"] [] (sp_look_user K)) (F_World_end_ofD : Mt P w K mg base 5 (cHouse K) "end_of" ["self", "user", "path", "follow"] [.bl true] (sp_end_of K))  : FnOk P w K mg base (L2.CX P w) 6 f fd ["house", "user", "one", "other"] (sp_is_same K) := by
  have nd := sc_is_same.nd
  refine F.ok (k := 5) sc_is_same (fun vs H Q E h => ?_) (fun cdv A outer s H vs Q E hr h => ?_)
  · obtain ⟨_, _, _, _, _, _, rfl, _⟩ := h
    rfl
  have hu := hu_of hr
  refine ⟨_, (pss_cons (ps_expr (pe_mtS F_World_look_user (pv 0) (hr.mono (by decide)) (passD rfl rfl rfl rfl) (pa_cons (pv 1) pa_nil)))
      (pss_one (ps_ret (pe_cmpR op_eq (pe_mtS F_World_end_ofD (pv 0) (hr.mono (by decide)) (passD rfl rfl rfl rfl) (pa_cons (pv 1) (pa_cons (pv 2) pa_nil))) (pe_mtS F_World_end_ofD (pv 0) (hr.mono (by decide)) (passD rfl rfl rfl rfl) (pa_cons (pv 1) (pa_cons (pv 3) pa_nil))) (nomark _))))), ?_⟩
  obtain ⟨h, L, W, vu, v, w', rfl, hh, ok, hu', hv, hw', kE, kO⟩ := h
  walk_at "x"
  refine hh.ob ?_
  walk_at "x"
  refine ⟨h, L, W, vu, rfl, hh, hu', fun hb H1 e1 => ?_, fun hb H1 e1 => kE (.no 3) (by unfold sameR atR userB; rw [if_pos hb]) _ _ H1 e1 ⟨rfl, rfl⟩⟩
  obtain ⟨u, rfl, ui, u0, u1⟩ := userB_int ok hb
  have hb : userB W (.int u) = true := hb
  have ar : ∀ f v, atR W (.int u) v f = wayV W u f v := fun f v => by
    unfold atR
    rw [if_neg (by rw [hb]; decide)]
    rfl
  have hh1 := hh.up e1
  walk_at "x"
  refine hh1.ob ?_
  walk_at "x"
  refine end_ofV hh1 ok u0 u1 (hv.ex e1) (fun e he cls d H2 e2 ha => kE e (by unfold sameR; rw [ar, he]) cls d H2 (e1.tr e2) ha) fun ss num hw H2 e2 => ?_
  have hh2 := hh1.up e2
  walk_at "x"
  refine hh2.ob ?_
  walk_at "x"
  refine end_ofV hh2 ok u0 u1 (hw'.ex (e1.tr e2)) (fun e he cls d H3 e3 ha => kE e (by unfold sameR; rw [ar, hw, ar, he]) cls d H3 ((e1.tr e2).tr e3) ha) fun ss' num' hw2 H3 e3 => ?_
  walk_at "x"
  rw [dec_int]
  refine kO _ ?_ H3 ((e1.tr e2).tr e3)
  unfold sameR
  rw [ar, hw, ar, hw2]
  exact congrArg Res.ok (decide_eq_decide.mpr ⟨fun z => by rw [z], fun z => by omega⟩)
abbrev N_names_in : List Str := ["house", "user", "path", "number"]
theorem sc_names_in : FnScope N_names_in ["house", "user", "path"] (defScope s_names_in) := ⟨rfl, rfl, rfl, by decide +kernel, rfl, by decide +kernel, by decide +kernel⟩
theorem ok_names_in {P : Program} {w : World} {K : PySem.W.Frag} {mg : Str → Option Value} {base : Heap} {f : Addr} {fd : FuncData} (F : FunD K "names_in" "names_in" (defArgs s_names_in) (defBody s_names_in) (defScope s_names_in) [] [] f fd)
    (F_World_look_user : Mt P w K mg base 2 (cHouse K) "look_user" ["self", "user"] [] (sp_look_user K)) (F_World_room_of : Mt P w K mg base 5 (cHouse K) "room_of" ["self", "user", "path"] [] (sp_room_of K)) (CK : ClsK K) (c_SEE : ∃ t, mg "SEE" = some (.int 4 t)) (F_World_look_right : Mt P w K mg base 3 (cHouse K) "look_right" ["self", "user", "number", "right"] [] (sp_look_right K)) (b_sorted : mg "sorted" = none)  : FnOk P w K mg base (L2.CX P w) 6 f fd ["house", "user", "path"] (sp_names_in K) := by
  have nd := sc_names_in.nd
  refine F.ok (k := 5) sc_names_in (fun vs H Q E h => ?_) (fun cdv A outer s H vs Q E hr h => ?_)
  · obtain ⟨_, _, _, _, _, rfl, _⟩ := h
    rfl
  have hu := hu_of hr
  refine ⟨_, (pss_cons (ps_expr (pe_mtS F_World_look_user (pv 0) (hr.mono (by decide)) (passD rfl rfl rfl rfl) (pa_cons (pv 1) pa_nil)))
      (pss_cons (ps_set (i := 3) nd rfl (Or.inl rfl) (pe_fld (pe_ix ix_list (pe_mtS F_World_room_of (pv 0) (hr.mono (by decide)) (passD rfl rfl rfl rfl) (pa_cons (pv 1) (pa_cons (pv 2) pa_nil))) (pe_un un_neg pe_int) (fun _ _ => rfl)) (by rfl)))
      (pss_cons (ps_expr (pe_mtS F_World_look_right (pv 0) (hr.mono (by decide)) (passD rfl rfl rfl rfl) (pa_cons (pv 1) (pa_cons (pv 3) (pa_cons (pe_gint c_SEE (by rfl)) pa_nil)))))
      (pss_one (ps_ret (pe_callB (call_sortedD rfl) (by rfl) b_sorted (by decide +kernel) (pa_cons (pe_fld (pe_dget hu (pe_fld (pv 0) (by rfl)) (pv 3) (fun _ _ => rfl)) (by rfl)) pa_nil))))))), ?_⟩
  obtain ⟨h, L, W, vu, v, rfl, hh, ok, hu', hv, kE, kO⟩ := h
  walk_at "x"
  refine hh.ob ?_
  walk_at "x"
  refine ⟨h, L, W, vu, rfl, hh, hu', fun hb H1 e1 => ?_, fun hb H1 e1 => kE (.no 3) (by unfold namesR atR userB; rw [if_pos hb]) _ _ H1 e1 ⟨rfl, rfl⟩⟩
  obtain ⟨u, rfl, ui, u0, u1⟩ := userB_int ok hb
  have hb : userB W (.int u) = true := hb
  have ar : ∀ f, atR W (.int u) v f = wayV W u f v := fun f => by
    unfold atR
    rw [if_neg (by rw [hb]; decide)]
    rfl
  have hh1 := hh.up e1
  walk_at "x"
  refine hh1.ob ?_
  walk_at "x"
  refine ⟨h, L, W, u, v, rfl, hh1, ok, u0, u1, hv.ex e1, fun hn H2 e2 => kE (.no 0) (by unfold namesR; rw [ar, wayV_no hn]) _ _ H2 (e1.tr e2) ⟨rfl, rfl⟩, fun s ps hs hps => ?_⟩
  subst hs
  obtain ⟨w1, w2⟩ := wayV_str (W := W) (u := u) (follow := true) hps
  refine ⟨fun e he cls d H2 e2 ha => kE e (by unfold namesR; rw [ar, w1 e he]) cls d H2 (e1.tr e2) ha, fun ss k hk H2 e2 => kE (.no 6) (by unfold namesR; rw [ar, w2 ss _ hk]) _ _ H2 (e1.tr e2) ⟨rfl, rfl⟩, fun ss hss q H2 hq e2 hst => ?_⟩
  have nr : namesR W (.int u) (.str s) = if mayOf W u (last ss).number 4 = true then .ok (last ss).number else .err (.right u (last ss).number) := by
    unfold namesR
    rw [ar, w2 ss _ hss]
    rfl
  have wok := wayOf_ok ok hss
  have hl := last_lt wok.1 wok.2.1
  have hh2 := hh1.up e2
  have N := hh2.nod _ hl
  obtain ⟨as, la, hsp2, asl, hat, hla⟩ := hst.last wok.1
  walk_at "x"
  refine x_ixL (SqL.of hsp2) hat ?_
  walk_at "x"
  refine hla.num CK ?_
  walk_at "x"
  refine hh2.ob ?_
  walk_at "x"
  refine ⟨h, L, W, u, (last ss).number, 4, rfl, hh2, u0, u1, hl, fun hm => ?_, fun hm cls d H3 e3 ha => ?_⟩
  · rw [if_pos hm] at nr
    obtain ⟨k1, k2⟩ := kO _ nr
    walk_at "x"
    refine hh2.fN CK ?_
    walk_at "x"
    refine hh2.node hl ?_
    walk_at "x"
    refine N.names CK ?_
    walk_at "x"
    refine ⟨_, _, (W.at (last ss).number).names.map (·.1), rfl, .inl N.nam, ?_, by rw [List.length_map]; exact k1, ?_⟩
    · unfold namesV
      rw [List.map_map, List.map_map]
      rfl
    · intro ys p hys hso hp
      exact k2 ys p _ hys hso (back_none (e1.tr e2) hp) ((e1.tr e2).tr (Ex.new hp)) upd_same
  · rw [if_neg (by rw [hm]; decide)] at nr
    exact kE _ nr cls d H3 ((e1.tr e2).tr e3) ha
abbrev N_House_named : List Str := ["self", "user", "path", "stands", "name", "names"]
theorem sc_House_named : FnScope N_House_named ["self", "user", "path"] (defScope s_House_named) := ⟨rfl, rfl, rfl, by decide +kernel, rfl, by decide +kernel, by decide +kernel⟩
theorem ok_House_named {P : Program} {w : World} {K : PySem.W.Frag} {mg : Str → Option Value} {base : Heap} {f : Addr} {fd : FuncData} (F : FunD K "named" "House.named" (defArgs s_House_named) (defBody s_House_named) (defScope s_House_named) [] [] f fd)
    (F_House_place_for : Mt P w K mg base 6 (cHouse K) "place_for" ["self", "user", "path"] [] (sp_place_for K)) (CK : ClsK K) (R_NoName : Ri P w K mg base "NoName" (He.ga K "NoName") ["name"])  : FnOk P w K mg base (L2.CX P w) 7 f fd ["self", "user", "path"] (sp_named K) := by
  have nd := sc_House_named.nd
  refine F.ok (k := 6) sc_House_named (fun vs H Q E h => ?_) (fun cdv A outer s H vs Q E hr h => ?_)
  · obtain ⟨_, _, _, _, _, rfl, _⟩ := h
    rfl
  have hu := hu_of hr
  refine ⟨_, (pss_cons (ps_asg (pe_mtS F_House_place_for (pv 0) (hr.mono (by decide)) (passD rfl rfl rfl rfl) (pa_cons (pv 1) (pa_cons (pv 2) pa_nil))) (pg_tup rfl (pgs_cons (pg_name (i := 3) nd rfl (Or.inl rfl)) (pgs_cons (pg_name (i := 4) nd rfl (Or.inl rfl)) pgs_nil))))
      (pss_cons (ps_set (i := 5) nd rfl (Or.inl rfl) (pe_fld (pe_dget hu (pe_fld (pv 0) (by rfl)) (pe_fld (pe_ix ix_list (pv 3) (pe_un un_neg pe_int) (fun _ _ => rfl)) (by rfl)) (fun _ _ => rfl)) (by rfl)))
      (pss_mid (ps_if (pt_cmp (pc_dnotin hu (pv 4) (pv 5))) (pss_one (ps_raise rfl (takes_of rfl rfl rfl rfl) (pmk_ini R_NoName (hr.mono (by decide)) (by rfl) (pa_cons (pv 4) pa_nil))))
      pss_nil)
      (pss_one (ps_ret (pe_tup (pa_cons (pv 3) (pa_cons (pv 4) (pa_cons (pe_dget hu (pv 5) (pv 4) (fun _ _ => rfl)) pa_nil))))))))), ?_⟩
  obtain ⟨h, L, W, u, v, rfl, hh, ok, u0, u1, hv, kE, kO⟩ := h
  walk_at "x"
  refine hh.ob ?_
  walk_at "x"
  refine ⟨h, L, W, u, v, rfl, hh, ok, u0, u1, hv, fun e he => kE e (by unfold namedR; rw [he]), fun ss n hp p q H1 hpn hq e1 h1 hst => ?_⟩
  have fr : namedR W u v = match look n (W.at (last ss).number).names with
    | none => .err (.name n)
    | some k => .ok (ss, n, k) := by
    unfold namedR
    rw [hp]
    all_goals rfl
  obtain ⟨pk1, pk2, pk3⟩ := place_ok ok hp
  have hl := last_lt pk1 pk2
  obtain ⟨as, la, hsp, asl, hat, hla⟩ := hst.last pk1
  have hh1 := hh.up e1
  have N := hh1.nod _ hl
  refine x_gtup h1 ?_
  walk_at "x"
  refine hh1.fN CK ?_
  walk_at "x"
  refine x_ixL (SqL.of hsp) hat ?_
  walk_at "x"
  refine hla.num CK ?_
  walk_at "x"
  refine hh1.node hl ?_
  walk_at "x"
  refine N.names CK ?_
  walk_at "x"
  refine x_thru ?_
  walk_at "x"
  refine x_dinS N.nam ?_
  rw [valV_names]
  walk_at "x"
  cases hk : look n (W.at (last ss).number).names with
  | none =>
    rw [hk] at fr
    refine iteT ?_
    walk_at "x"
    refine x_mkO rfl (by simp) fun d H5 hd e5 hx => ?_
    exact kE (.name n) fr _ _ H5 (e1.tr e5) ⟨rfl, d, rfl, hx⟩
  | some k =>
    rw [hk] at fr
    refine iteF ?_
    walk_at "x"
    refine x_dgetS N.nam (by rw [valV_names, hk]; rfl) ?_
    walk_at "x"
    refine x_newT fun tp H2 htp e2 h2 => ?_
    exact kO ss n k fr tp q H2 (back_none e1 htp) hq (e1.tr e2) h2 (hst.up e2)
abbrev N_remove_all : List Str := ["house", "user", "path", "stands", "name", "number", "rooms", "many", "room", "names", "one"]
theorem sc_remove_all : FnScope N_remove_all ["house", "user", "path"] (defScope s_remove_all) := ⟨rfl, rfl, rfl, by decide +kernel, rfl, by decide +kernel, by decide +kernel⟩
theorem ok_remove_all {P : Program} {w : World} {K : PySem.W.Frag} {mg : Str → Option Value} {base : Heap} {f : Addr} {fd : FuncData} (F : FunD K "remove_all" "remove_all" (defArgs s_remove_all) (defBody s_remove_all) (defScope s_remove_all) [] [] f fd)
    (F_World_look_user : Mt P w K mg base 2 (cHouse K) "look_user" ["self", "user"] [] (sp_look_user K)) (F_House_named : Mt P w K mg base 7 (cHouse K) "named" ["self", "user", "path"] [] (sp_named K)) (F_look_free : Fn P w K mg base 4 "look_free" ["house", "user", "number", "right"] (sp_look_free K)) (c_CHANGE : ∃ t, mg "CHANGE" = some (.int 2 t)) (c_PASS : ∃ t, mg "PASS" = some (.int 1 t)) (CK : ClsK K) (b_len : mg "len" = none) (b_list : mg "list" = none)  : FnOk P w K mg base (L2.CX P w) 8 f fd ["house", "user", "path"] (sp_remove_all K) := by
  have nd := sc_remove_all.nd
  refine F.ok (k := 7) sc_remove_all (fun vs H Q E h => ?_) (fun cdv A outer s H vs Q E hr h => ?_)
  · obtain ⟨_, _, _, _, _, rfl, _⟩ := h
    rfl
  have hu := hu_of hr
  refine ⟨_, (pss_cons (ps_expr (pe_mtS F_World_look_user (pv 0) (hr.mono (by decide)) (passD rfl rfl rfl rfl) (pa_cons (pv 1) pa_nil)))
      (pss_cons (ps_asg (pe_mtS F_House_named (pv 0) (hr.mono (by decide)) (passD rfl rfl rfl rfl) (pa_cons (pv 1) (pa_cons (pv 2) pa_nil))) (pg_tup rfl (pgs_cons (pg_name (i := 3) nd rfl (Or.inl rfl)) (pgs_cons (pg_name (i := 4) nd rfl (Or.inl rfl)) (pgs_cons (pg_name (i := 5) nd rfl (Or.inl rfl)) pgs_nil)))))
      (pss_mid (ps_set (i := 6) nd rfl (Or.inl rfl) (pe_ifExp (pt_cmpR op_eq (pe_fld (pe_dget hu (pe_fld (pv 0) (by rfl)) (pv 5) (fun _ _ => rfl)) (by rfl)) pe_str (nomark _)) (pe_fn F_look_free (hr.mono (by decide)) (by rfl) (passD rfl rfl rfl rfl) (pa_cons (pv 0) (pa_cons (pv 1) (pa_cons (pv 5) (pa_cons (pe_op op_add (pe_gint c_CHANGE (by rfl)) (pe_gint c_PASS (by rfl))) pa_nil))))) (pe_lst pa_nil)))
      (pss_cons (ps_set (i := 7) nd rfl (Or.inl rfl) pe_int)
      (pss_cons (ps_for (passes_of rfl) rfl (pi_list (pv 6)) (pg_name (i := 8) nd rfl (Or.inl rfl))
      (pss_cons (ps_set (i := 9) nd rfl (Or.inl rfl) (pe_fld (pe_dget hu (pe_fld (pv 0) (by rfl)) (pv 8) (fun _ _ => rfl)) (by rfl)))
      (pss_cons (ps_set (i := 7) nd rfl (Or.inl rfl) (pe_op op_add (pv 7) (pe_callB call_lenD (by rfl) b_len (by decide +kernel) (pa_cons (pv 9) pa_nil))))
      (pss_cons (ps_for (passes_of rfl) rfl (pi_list (pe_callTy (call_listD rfl) (by rfl) b_list (by decide +kernel) (pa_cons (pv 9) pa_nil))) (pg_name (i := 10) nd rfl (Or.inl rfl))
      (pss_one (ps_fld (pe_dget hu (pe_fld (pv 0) (by rfl)) (pe_dget hu (pv 9) (pv 10) (fun _ _ => rfl)) (fun _ _ => rfl)) (pe_op op_sub (pe_fld (pe_dget hu (pe_fld (pv 0) (by rfl)) (pe_dget hu (pv 9) (pv 10) (fun _ _ => rfl)) (fun _ _ => rfl)) (by rfl)) pe_int) rfl)))
      (pss_one (ps_expr (pe_bm0 PySem.F.plainAttrs_dict PySem.F.slot_dict_clear PySem.F.type_dict_clear mtd_clear (pv 9))))))))
      (pss_cons (ps_fld (pe_dget hu (pe_fld (pv 0) (by rfl)) (pv 5) (fun _ _ => rfl)) (pe_op op_sub (pe_fld (pe_dget hu (pe_fld (pv 0) (by rfl)) (pv 5) (fun _ _ => rfl)) (by rfl)) pe_int) rfl)
      (pss_cons (ps_expr (pe_dpop1 (pe_fld (pe_dget hu (pe_fld (pv 0) (by rfl)) (pe_fld (pe_ix ix_list (pv 3) (pe_un un_neg pe_int) (fun _ _ => rfl)) (by rfl)) (fun _ _ => rfl)) (by rfl)) (pv 4) ⟨rfl, rfl, rfl, rfl⟩))
      (pss_one (ps_ret (pv 7)))))))))), ?_⟩
  obtain ⟨h, L, W, vu, vp, rfl, hh, ok, sm, tr, hu', ho, kE, kO⟩ := h
  obtain ⟨t4, c4⟩ := id c_CHANGE
  obtain ⟨t1, c1⟩ := id c_PASS
  walk_at "x"
  refine hh.ob ?_
  walk_at "x"
  refine ⟨h, L, W, vu, rfl, hh, hu', fun hb H1 e1 => ?_, fun hb H1 e1 => kE (.no 3) (by unfold clearR userB; rw [if_pos hb]) _ _ H1 e1 ⟨rfl, rfl⟩⟩
  obtain ⟨u, rfl, ui, u0, u1⟩ := userB_int ok hb
  have hb : userB W (.int u) = true := hb
  have hh1 := hh.up e1
  have sr : clearR W (.int u) vp = match namedR W u vp with
      | .err e => .err e
      | .ok (ss, n, k) => if (W.at k).kind = "room" then match freeR W u k 3 with
        | some e => .err e
        | none => .ok (ss, n, k) else .ok (ss, n, k) := by
    unfold clearR
    rw [if_neg (by rw [hb]; decide)]
    rfl
  rw [sr] at kE kO
  walk_at "x"
  refine hh1.ob ?_
  walk_at "x"
  refine ⟨h, L, W, u, vp, rfl, hh1, ok, u0, u1, ho.ex e1, fun e he cls d H2 e2 ha => kE e (by rw [he]) cls d H2 (e1.tr e2) ha, fun ss n k hn p q H2 hpn hq e2 h2 hst => ?_⟩
  rw [hn] at kE kO
  dsimp only at kE kO
  obtain ⟨hpl, hlk⟩ := named_ok hn
  obtain ⟨pk1, pk2, pk3⟩ := place_ok ok hpl
  have hl := last_lt pk1 pk2
  have hk : k < W.nodes.length := look_lt ok hl hlk
  have hh2 := hh1.up e2
  have E2 := e1.tr e2
  have N := hh2.nod _ hk
  refine x_gtup h2 ?_
  walk_at "x"
  dsimp only
  refine x_cutM (fun σ' H3 => ∃ (ys : List Nat) (pr : Addr), σ' = [some (.ref h), some (.int u), some vp, some (.ref q), some (.str n), some (.int k), some (.ref pr), none, none, none, none] ∧ ys.Perm (clearS W k) ∧ H2 pr = none ∧ Ex H2 H3 ∧ H3 pr = some (.lst (ys.map fun n : Nat => V.int (n : Int))) ∧ ∀ H', HouseAt K H' h L (clearW W (last ss).number n k) → (clearW W (last ss).number n k).Ok → Off (fp h L) H H' → Q (.int (clearN W k)) H') ?_ ?_
  · walk_at "x"
    refine hh2.fN CK ?_
    walk_at "x"
    refine hh2.node hk ?_
    walk_at "x"
    refine N.kind CK ?_
    walk_at "x"
    rw [dec_str]
    refine x_ifd (fun hkr => ?_) (fun hkr => ?_)
    · rw [if_pos hkr] at kE kO
      walk_at "x"
      refine ⟨h, L, W, u, k, 3, rfl, hh2, ok, sm, tr, hk, u0, u1, fun e he cls d H4 e4 ha => kE e (by rw [he]) cls d H4 (E2.tr e4) ha, fun hfr ys py H4 hys hpy e4 h4 => ?_⟩
      rw [hfr] at kO
      walk_at "x"
      refine ⟨ys, py, rfl, ?_, hpy, e4, h4, kO ss n k rfl⟩
      unfold clearS
      rw [if_pos hkr]
      exact hys
    · rw [if_neg hkr] at kE kO
      walk_at "x"
      refine x_newL fun py H4 hpy e4 h4 => ?_
      walk_at "x"
      refine ⟨[], py, rfl, ?_, hpy, e4, h4, kO ss n k rfl⟩
      unfold clearS
      rw [if_neg hkr]
  rintro σ' H3 ⟨ys, pr, rfl, hys, hpr, e3, h3, kO⟩
  have nd : ys.Nodup := hys.nodup_iff.mpr (clear_nodup ok tr)
  have lt : ∀ y ∈ ys, y < W.nodes.length := fun y hy => by
    have := hys.mem_iff.mp hy
    unfold clearS at this
    split at this
    · exact ((mem_rooms ok tr).mp this).lt ok hk
    · cases this
  have hh3 := hh2.up e3
  have prL : pr ∉ fp h L := fun z => by
    obtain ⟨o, ho⟩ := hh2.there z
    rw [hpr] at ho
    cases ho
  have qL : q ∉ fp h L := fun z => by
    obtain ⟨o, ho⟩ := hh1.there z
    rw [hq] at ho
    cases ho
  have o3 : Off (fp h L) H H3 := ((E2.tr e3).off)
  have st3 := hst.up e3
  clear N hh2 h2 hst hh1
  walk_at "x"
  refine x_forLV (fun i σ' H' => ∃ x8 x9 x10, σ' = [some (.ref h), some (.int u), some vp, some (.ref q), some (.str n), some (.int k), some (.ref pr), some (.int (1 + ((ys.take i).map fun r => (W.at r).names.length).sum : Nat)), x8, x9, x10] ∧ HouseAt K H' h L (clearA W (ys.take i)) ∧ Off (fp h L) H H' ∧ H' pr = some (.lst (ys.map fun n : Nat => V.int (n : Int))) ∧ StandsAt K H' q ss) (SqL.of h3) ⟨_, _, _, rfl, by rw [List.take_zero, clearA, mid_nil]; exact hh3, o3, h3, st3⟩ ?_ ?_ ?_
  · rintro i _ H' _ ⟨x8, x9, x10, rfl, _, _, hp', _⟩
    exact SqL.of hp'
  · clear hh3 o3 h3 st3 e3
    rintro i v _ H4 hv ⟨x8, x9, x10, rfl, hh4, o4, h4, st4⟩
    rw [List.getElem?_map] at hv
    obtain ⟨r, hr, rfl⟩ := Option.map_eq_some_iff.mp hv
    have rl := lt r (List.mem_of_getElem? hr)
    have rn : r ∉ ys.take i := fun z => by
      have nd := nd
      rw [← List.take_append_drop (i + 1) ys, take_snoc hr] at nd
      exact (List.nodup_append.mp (List.nodup_append.mp nd).1).2.2 r z r (List.mem_singleton.mpr rfl) rfl
    have atr : ∀ l, ((midA W (ys.take i) l).at r).names = (W.at r).names := fun l => by
      rw [mid_at rl]
      exact if_neg rn
    have N4 := hh4.nod r (by unfold clearA; rw [mid_len]; exact rl)
    have nam4 := N4.nam
    rw [show ((clearA W (ys.take i)).at r).names = (W.at r).names from atr []] at nam4
    walk_at "x"
    refine hh4.fN CK ?_
    walk_at "x"
    refine hh4.node (by unfold clearA; rw [mid_len]; exact rl) ?_
    walk_at "x"
    refine N4.names CK ?_
    walk_at "x"
    refine ⟨_, _, rfl, nam4, ?_⟩
    walk_at "x"
    refine ⟨_, _, rfl, .inl nam4, fun pk hpk => ?_⟩
    have e5 := Ex.new (o := HO.lst ((namesV (W.at r).names).map fun kv => kV kv.1)) hpk
    have h5 := upd_same (H := H4) (a := pk) (o := HO.lst ((namesV (W.at r).names).map fun kv => kV kv.1))
    generalize upd H4 pk (HO.lst ((namesV (W.at r).names).map fun kv => kV kv.1)) = H5 at e5 h5 ⊢
    have ek : (namesV (W.at r).names).map (fun kv => kV kv.1) = (W.at r).names.map fun p => V.str p.1 := by
      unfold namesV
      rw [List.map_map]
      rfl
    rw [ek] at h5
    have pkL : pk ∉ fp h L := fun z => by
      obtain ⟨o, ho⟩ := hh4.there z
      rw [hpk] at ho
      cases ho
    have hh5 : HouseAt K H5 h L (midA W (ys.take i) []) := hh4.up e5
    have o5 : Off (fp h L) H H5 := fun a o ha hn => e5 _ _ (o4 a o ha hn)
    have st5 := st4.up e5
    have hp5 := e5 _ _ h4
    clear N4 nam4 hh4 o4 st4 h4 e5
    have nl : (namesV (W.at r).names).length = (W.at r).names.length := by unfold namesV; rw [List.length_map]
    rw [nl]
    refine x_forLV (fun j σ' H' => ∃ x10, σ' = [some (.ref h), some (.int u), some vp, some (.ref q), some (.str n), some (.int k), some (.ref pr), some (.int ((1 + ((ys.take i).map fun r => (W.at r).names.length).sum : Nat) + ((W.at r).names.length : Nat))), some (.int r), some (.ref (L.ns.getD r 0)), x10] ∧ HouseAt K H' h L (midA W (ys.take i) ((W.at r).names.take j)) ∧ Off (fp h L) H H' ∧ H' pr = some (.lst (ys.map fun n : Nat => V.int (n : Int))) ∧ StandsAt K H' q ss ∧ H' pk = some (.lst ((W.at r).names.map fun p => V.str p.1))) (SqL.of h5) ⟨_, rfl, by rw [List.take_zero]; exact hh5, o5, hp5, st5, h5⟩ ?_ ?_ ?_
    · rintro j _ H' _ ⟨x10, rfl, _, _, _, _, hk'⟩
      exact SqL.of hk'
    · clear hh5 o5 st5 hp5 h5
      rintro j v _ H6 hv ⟨x10, rfl, hh6, o6, hp6, st6, h6⟩
      rw [List.getElem?_map] at hv
      obtain ⟨p, hp, rfl⟩ := Option.map_eq_some_iff.mp hv
      have pm := List.mem_of_getElem? hp
      have lk : look p.1 (W.at r).names = some p.2 := look_of_mem ok (show (p.1, p.2) ∈ _ from pm)
      have cl : p.2 < W.nodes.length := ((ok.at rl).nam p pm).2
      have N6 := hh6.nod r (by rw [mid_len]; exact rl)
      have nam6 := N6.nam
      rw [atr] at nam6
      have hc6 : p.2 < (midA W (ys.take i) ((W.at r).names.take j)).nodes.length := by rw [mid_len]; exact cl
      walk_at "x"
      refine hh6.fN CK ?_
      walk_at "x"
      refine x_dgetS nam6 (by rw [valV_names, lk]; rfl) ?_
      refine hh6.node hc6 ?_
      walk_at "x"
      refine (hh6.nod _ hc6).count CK ?_
      walk_at "x"
      refine hh6.fN CK ?_
      walk_at "x"
      refine x_dgetS nam6 (by rw [valV_names, lk]; rfl) ?_
      refine hh6.node hc6 ?_
      refine hh6.setF CK hc6 { (midA W (ys.take i) ((W.at r).names.take j)).at p.2 with count := ((midA W (ys.take i) ((W.at r).names.take j)).at p.2).count + -1 } (CK.nf _ (by decide)) (fun _ _ => by rfl) rfl rfl fun H7 hh7 o7 => ?_
      rw [mid_cnt (s := p.1) cl, ← take_snoc hp] at hh7
      walk_at "x"
      exact ⟨_, rfl, hh7, o6.tr o7, o7 _ _ hp6 prL, st6.off hh6 qL o7, o7 _ _ h6 pkL⟩
    · rintro _ H6 ⟨x10, rfl, hh6, o6, hp6, st6, h6⟩
      rw [List.length_map, List.take_length] at hh6
      have N6 := hh6.nod r (by rw [mid_len]; exact rl)
      have hr6 : r < (midA W (ys.take i) (W.at r).names).nodes.length := by rw [mid_len]; exact rl
      walk_at "x"
      refine ⟨.inr (.inr (.inl ⟨rfl, .inl ⟨_, N6.nam⟩⟩)), ?_⟩
      refine ⟨_, _, rfl, rfl, N6.nam, ?_⟩
      generalize hH7 : upd H6 (L.ns.getD r 0) (HO.dK []) = H7
      have z1 : H7 (L.ns.getD r 0) = some (.dK (namesV [])) := by rw [← hH7]; exact upd_same
      have z2 : ∀ b, b ≠ L.ns.getD r 0 → H7 b = H6 b := fun b hb => by rw [← hH7]; exact upd_ne hb
      have hh7 := hh6.names (l := []) hr6 z1 z2
      have o7 := hh6.offN hr6 z2
      rw [mid_clear rl, ← take_snoc hr] at hh7
      walk_at "x"
      refine ⟨some (.int r), some (.ref (L.ns.getD r 0)), x10, ?_, hh7, o6.tr o7, o7 _ _ hp6 prL, st6.off hh6 qL o7⟩
      rw [take_snoc hr, List.map_append, List.sum_append, List.map_singleton, List.sum_singleton, ← Nat.add_assoc]
      rfl
  · rintro _ H4 ⟨x8, x9, x10, rfl, hh4, o4, h4, st4⟩
    rw [List.length_map, List.take_length] at hh4
    rw [List.length_map, List.take_length]
    have ec := clear_perm (W := W) hys
    rw [ec] at hh4
    have hk4 : k < (clearA W (clearS W k)).nodes.length := by unfold clearA; rw [mid_len]; exact hk
    walk_at "x"
    refine hh4.fN CK ?_
    walk_at "x"
    refine hh4.node hk4 ?_
    walk_at "x"
    refine (hh4.nod _ hk4).count CK ?_
    walk_at "x"
    refine hh4.fN CK ?_
    walk_at "x"
    refine hh4.node hk4 ?_
    refine hh4.setF CK hk4 { (clearA W (clearS W k)).at k with count := ((clearA W (clearS W k)).at k).count + -1 } (CK.nf _ (by decide)) (fun _ _ => by rfl) rfl rfl fun H5 hh5 o5 => ?_
    have hh5 : HouseAt K H5 h L (cntW (clearA W (clearS W k)) k (-1)) := hh5
    have st5 := st4.off hh4 qL o5
    obtain ⟨as, la, hsp, asl, hat, hla⟩ := st5.last pk1
    have ok4 : (clearA W (clearS W k)).Ok := mid_ok ok
    have hl5 : (last ss).number < (cntW (clearA W (clearS W k)) k (-1)).nodes.length := by
      show (last ss).number < ((clearA W (clearS W k)).put k _).nodes.length
      rw [Wd.len_put]
      unfold clearA
      rw [mid_len]
      exact hl
    have nm5 : ((cntW (clearA W (clearS W k)) k (-1)).at (last ss).number).names = (W.at (last ss).number).names := by
      rw [cnt_at.1]
      unfold clearA
      rw [mid_at hl]
      exact if_neg (clear_up ok tr (look_mem hlk))
    have Nr := hh5.nod _ hl5
    have namr := Nr.nam
    unfold tDPop1
    walk_at "x"
    refine hh5.fN CK ?_
    walk_at "x"
    refine x_ixL (SqL.of hsp) hat ?_
    walk_at "x"
    refine hla.num CK ?_
    walk_at "x"
    refine hh5.node hl5 ?_
    walk_at "x"
    refine Nr.names CK ?_
    refine ⟨_, rfl, .inl ⟨_, .inl namr⟩, ?_⟩
    walk_at "x"
    refine ⟨_, .inr n, .int k, namr, rfl, by rw [nm5, valV_names, hlk]; rfl, ?_⟩
    rw [dropK_names]
    generalize hH6 : upd H5 (L.ns.getD (last ss).number 0) (HO.dK (namesV (dropN n ((cntW (clearA W (clearS W k)) k (-1)).at (last ss).number).names))) = H6
    have z1 : H6 (L.ns.getD (last ss).number 0) = some (.dK (namesV (dropN n ((cntW (clearA W (clearS W k)) k (-1)).at (last ss).number).names))) := by rw [← hH6]; exact upd_same
    have z2 : ∀ b, b ≠ L.ns.getD (last ss).number 0 → H6 b = H5 b := fun b hb => by rw [← hH6]; exact upd_ne hb
    have hh6 : HouseAt K H6 h L (clearW W (last ss).number n k) := hh5.names hl5 z1 z2
    have o6 := hh5.offN hl5 z2
    walk_at "x"
    have ok6 : (clearW W (last ss).number n k).Ok := drop_ok (cnt_ok ok4 hk4) hl5
    have en : (1 + (ys.map fun r => (W.at r).names.length).sum) = clearN W k := by
      unfold clearN
      rw [sum_perm (hys.map fun r => (W.at r).names.length)]
    rw [en]
    exact kO H6 hh6 ok6 ((o4.tr o5).tr o6)
theorem LawSt.noTup {K : PySem.W.Frag} {H : Hp} {t c h : Addr} {L : Lay} {W : Wd} (s : LawSt K H t c h L W) : NoTup H (lawS t c h L) := fun a ha => by
  obtain ⟨o, ho⟩ := s.there a ha
  refine ⟨o, ho, fun xs z => ?_⟩
  subst z
  unfold lawS at ha
  rcases List.mem_cons.mp ha with rfl | ha
  · obtain ⟨ys, hy⟩ := town_lst s.tw (a := a) (by simp)
    rw [hy] at ho
    cases ho
  · rcases List.mem_cons.mp ha with rfl | ha
    · obtain ⟨ys, hy⟩ := town_lst s.tw (a := a) (by simp)
      rw [hy] at ho
      cases ho
    · exact house_tup s.hh a ha xs ho
theorem okW_ok {W : Wd} (h : okW W = true) : W.Small 63 ∧ Tree W := by
  unfold okW at h
  rw [Bool.and_eq_true] at h
  exact ⟨Small.le (smallB_ok h.1) (by decide), treeR_ok h.2⟩
theorem rm_of {v : V} (h : v ∈ [V.str (Str.ofString "/r"), V.str (Str.ofString "/r/s"), V.str (Str.ofString "/r/s/t")]) : ∃ a, a < 3 ∧ v = .str (rm24 a) := by
  simp only [List.mem_cons, List.not_mem_nil, or_false] at h
  rcases h with rfl | rfl | rfl
  · exact ⟨0, by decide, rfl⟩
  · exact ⟨1, by decide, rfl⟩
  · exact ⟨2, by decide, rfl⟩
theorem gl_of {v : V} (h : v ∈ [V.str (Str.ofString ".."), V.str (Str.ofString "/r/s"), V.str (Str.ofString "s")]) : ∃ a, a < 3 ∧ v = .str (gl24 a) := by
  simp only [List.mem_cons, List.not_mem_nil, or_false] at h
  rcases h with rfl | rfl | rfl
  · exact ⟨0, by decide, rfl⟩
  · exact ⟨1, by decide, rfl⟩
  · exact ⟨2, by decide, rfl⟩
theorem rm_len : ∀ a < 3, (rm24 a).length ≤ 10 := by decide +kernel
def Vs (j : Nat) : Wd := [V0, V1, V2, V3].getD j V3
theorem vs_ok : ∀ j < 3, isOkR (makeP (Vs j) 0 (rm24 j) (roomN (Vs j) 0 7 7 7)) = true ∧ decide (getW (makeP (Vs j) 0 (rm24 j) (roomN (Vs j) 0 7 7 7)) = Vs (j + 1)) = true ∧ (Vs j).smallB 40 = true := by decide +kernel
theorem read_ok {W : Wd} {p x : Str} (h : tB W p x = true) : ∃ k, readR W (.int 0) (.str p) = .ok k ∧ (W.at k).text = x := by
  obtain ⟨k, h1, h2⟩ := okN_ok h
  exact ⟨k, h1, of_decide_eq_true h2⟩
theorem readT {K : PySem.W.Frag} {H : Hp} {h : Addr} {L : Lay} {W : Wd} {Q : VK} {E : XK} {p x : Str} (hh : HouseAt K H h L W) (ok : W.Ok) (hp : p.length ≤ 1000) (ht : tB W p x = true) (q : ∀ H', Ex H H' → Q (.str x) H') : sp_read K [.ref h, .int 0, .str p] H Q E := by
  obtain ⟨k, h1, h2⟩ := read_ok ht
  refine ⟨h, L, W, .int 0, .str p, rfl, hh, ok, intOk 0, textOk_of hp, fun e he => (by rw [h1] at he; cases he), fun n hn H' e => ?_⟩
  rw [h1] at hn
  cases hn
  rw [h2]
  exact q H' e
theorem abB_ok {W : Wd} {p : Str} {f : Nd → Bool} (h : abB W p f = true) : ∃ d, aboutR W (.int 0) (.str p) = .ok (aboutD d) ∧ f d = true := by
  unfold abB at h
  split at h
  · rename_i ss num e
    refine ⟨W.at (endNum ss num), ?_, h⟩
    unfold aboutR
    rw [e]
    rfl
  · cases h
theorem deepB_ok {W : Wd} (h : deepB W = true) : Deep W := fun x hx => by
  have := List.all_eq_true.mp h x (List.mem_range.mpr hx)
  rw [Bool.and_eq_true, decide_eq_true_eq] at this
  exact ⟨nstB_ok _ _ this.1, this.2⟩
abbrev N_law : List Str := ["script", "town", "house", "path", "rooms", "first", "other", "new", "rows", "turned", "one", "two"]
theorem sc_law : FnScope N_law ["script"] (defScope s_law) := ⟨rfl, rfl, rfl, by decide +kernel, rfl, by decide +kernel, by decide +kernel⟩
theorem ok_law {P : Program} {w : World} {K : PySem.W.Frag} {mg : Str → Option Value} {base : Heap} {f : Addr} {fd : FuncData} (F : FunD K "law" "law" (defArgs s_law) (defBody s_law) (defScope s_law) [] [] f fd)
    (F_law_town : Fn P w K mg base 1 "_law_town" ["script"] (sp_town K)) (M_House : Mks P w K mg base 3 "House" (He.ga K "House") ["self", "groups"] (sp_World K)) (F_House_make_room : Mt P w K mg base 9 (cHouse K) "make_room" ["self", "user", "path", "rights"] [] (sp_make_room K)) (F_law_pick : Fn P w K mg base 2 "_law_pick" ["town", "some"] sp_pick) (F_House_make_leaf : Mt P w K mg base 9 (cHouse K) "make_leaf" ["self", "user", "path", "text", "rights"] [] (sp_make_leaf K)) (F_found_names : Fn P w K mg base 7 "found_names" ["house", "user", "path", "name"] (sp_found_names K)) (F_House_link : Mt P w K mg base 8 (cHouse K) "link" ["self", "user", "old", "new"] [] (sp_link K)) (F_House_make_hint : Mt P w K mg base 9 (cHouse K) "make_hint" ["self", "user", "path", "goal"] [] (sp_make_hint K)) (F_copy_room : Fn P w K mg base 18 "copy_room" ["house", "user", "old", "new"] (sp_copy_room K)) (F_count_of : Fn P w K mg base 7 "count_of" ["house", "user", "path"] (sp_count_of K)) (F_House_read : Mt P w K mg base 6 (cHouse K) "read" ["self", "user", "path"] [] (sp_read K)) (F_is_same : Fn P w K mg base 6 "is_same" ["house", "user", "one", "other"] (sp_is_same K)) (F_beneath : Fn P w K mg base 6 "beneath" ["house", "user", "path"] (sp_beneath K)) (F_law_draw : Fn P w K mg base 1 "_law_draw" ["town", "many"] sp_draw) (F_House_write : Mt P w K mg base 6 (cHouse K) "write" ["self", "user", "path", "text"] [] (sp_write K)) (F_about : Fn P w K mg base 6 "about" ["house", "user", "path"] (sp_about K)) (F_remove_all : Fn P w K mg base 8 "remove_all" ["house", "user", "path"] (sp_remove_all K)) (F_names_in : Fn P w K mg base 6 "names_in" ["house", "user", "path"] (sp_names_in K))  : FnOk P w K mg base (L2.CX P w) 19 f fd ["script"] (sp_law K) := by
  have nd := sc_law.nd
  refine F.ok (k := 18) sc_law (fun vs H Q E h => ?_) (fun cdv A outer s H vs Q E hr h => ?_)
  · obtain ⟨_, _, rfl, _⟩ := h
    rfl
  have hu := hu_of hr
  refine ⟨_, (pss_cons (ps_set (i := 1) nd rfl (Or.inl rfl) (pe_fn F_law_town (hr.mono (by decide)) (by rfl) (passD rfl rfl rfl rfl) (pa_cons (pv 0) pa_nil)))
      (pss_cons (ps_set (i := 2) nd rfl (Or.inl rfl) (pe_mkS M_House (hr.mono (by decide)) (by rfl) (passD rfl rfl rfl rfl) (pa_cons (pe_lst (pa_cons pe_int (pa_cons pe_int pa_nil))) pa_nil)))
      (pss_cons (ps_for (passes_of rfl) rfl (pi_list (pe_lst (pa_cons pe_str (pa_cons pe_str (pa_cons pe_str pa_nil))))) (pg_name (i := 3) nd rfl (Or.inl rfl))
      (pss_one (ps_expr (pe_mtS F_House_make_room (pv 2) (hr.mono (by decide)) (passD rfl rfl rfl rfl) (pa_cons pe_int (pa_cons (pv 3) (pa_cons (pe_tup (pa_cons pe_int (pa_cons pe_int (pa_cons pe_int pa_nil)))) pa_nil)))))))
      (pss_cons (ps_set (i := 4) nd rfl (Or.inl rfl) (pe_lst (pa_cons pe_str (pa_cons pe_str (pa_cons pe_str pa_nil)))))
      (pss_cons (ps_expr (pe_mtS F_House_make_leaf (pv 2) (hr.mono (by decide)) (passD rfl rfl rfl rfl) (pa_cons pe_int (pa_cons (pe_op op_catS (pe_fn F_law_pick (hr.mono (by decide)) (by rfl) (passD rfl rfl rfl rfl) (pa_cons (pv 1) (pa_cons (pv 4) pa_nil))) pe_str) (pa_cons pe_str (pa_cons (pe_tup (pa_cons pe_int (pa_cons pe_int (pa_cons pe_int pa_nil)))) pa_nil))))))
      (pss_cons (ps_set (i := 5) nd rfl (Or.inl rfl) (pe_ix ix_list (pe_fn F_found_names (hr.mono (by decide)) (by rfl) (passD rfl rfl rfl rfl) (pa_cons (pv 2) (pa_cons pe_int (pa_cons pe_str (pa_cons pe_str pa_nil))))) pe_int (fun _ _ => rfl)))
      (pss_cons (ps_set (i := 6) nd rfl (Or.inl rfl) (pe_op op_catS (pe_fn F_law_pick (hr.mono (by decide)) (by rfl) (passD rfl rfl rfl rfl) (pa_cons (pv 1) (pa_cons (pv 4) pa_nil))) pe_str))
      (pss_cons (ps_expr (pe_mtS F_House_link (pv 2) (hr.mono (by decide)) (passD rfl rfl rfl rfl) (pa_cons pe_int (pa_cons (pv 5) (pa_cons (pv 6) pa_nil)))))
      (pss_cons (ps_expr (pe_mtS F_House_make_hint (pv 2) (hr.mono (by decide)) (passD rfl rfl rfl rfl) (pa_cons pe_int (pa_cons (pe_op op_catS (pe_fn F_law_pick (hr.mono (by decide)) (by rfl) (passD rfl rfl rfl rfl) (pa_cons (pv 1) (pa_cons (pv 4) pa_nil))) pe_str) (pa_cons (pe_fn F_law_pick (hr.mono (by decide)) (by rfl) (passD rfl rfl rfl rfl) (pa_cons (pv 1) (pa_cons (pe_lst (pa_cons pe_str (pa_cons pe_str (pa_cons pe_str pa_nil)))) pa_nil))) pa_nil)))))
      (pss_mid (ps_if (PW.pt (pw_or (pt_cmpR op_ne (pe_fn F_copy_room (hr.mono (by decide)) (by rfl) (passD rfl rfl rfl rfl) (pa_cons (pv 2) (pa_cons pe_int (pa_cons pe_str (pa_cons pe_str pa_nil))))) pe_int (nomark _)) (pw_or1 (pt_cmpR (op_neD hr.units) (pe_fn F_count_of (hr.mono (by decide)) (by rfl) (passD rfl rfl rfl rfl) (pa_cons (pv 2) (pa_cons pe_int (pa_cons pe_str pa_nil)))) (pe_tup (pa_cons pe_int (pa_cons pe_int (pa_cons pe_int pa_nil)))) (nomark _))))) (pss_one (ps_ret pe_bl))
      pss_nil)
      (pss_cons (ps_set (i := 7) nd rfl (Or.inl rfl) (pe_op op_catS pe_str (pe_slice C8.sl_txt (pv 5) (po_some pe_int) po_none)))
      (pss_mid (ps_if (PW.pt (pw_or (pt_cmpR op_ne (pe_mtS F_House_read (pv 2) (hr.mono (by decide)) (passD rfl rfl rfl rfl) (pa_cons pe_int (pa_cons (pv 7) pa_nil))) pe_str (nomark _)) (pw_or1 (pt_cmpR op_isnot_bl (pe_fn F_is_same (hr.mono (by decide)) (by rfl) (passD rfl rfl rfl rfl) (pa_cons (pv 2) (pa_cons pe_int (pa_cons (pv 7) (pa_cons (pe_op op_catS pe_str (pe_slice C8.sl_txt (pv 6) (po_some pe_int) po_none)) pa_nil))))) pe_bl (nomark _))))) (pss_one (ps_ret pe_bl))
      pss_nil)
      (pss_cons (ps_set (i := 8) nd rfl (Or.inl rfl) (pe_fn F_beneath (hr.mono (by decide)) (by rfl) (passD rfl rfl rfl rfl) (pa_cons (pv 2) (pa_cons pe_int (pa_cons pe_str pa_nil)))))
      (pss_cons (ps_set (i := 9) nd rfl (Or.inl rfl) (pe_cmpR op_eq (pe_fn F_law_draw (hr.mono (by decide)) (by rfl) (passD rfl rfl rfl rfl) (pa_cons (pv 1) (pa_cons pe_int pa_nil))) pe_int (nomark _)))
      (pss_mid (ps_asg (pe_ifExp (pt_val (pv 9)) (pe_tup (pa_cons (pv 5) (pa_cons (pv 7) pa_nil))) (pe_tup (pa_cons (pv 7) (pa_cons (pv 5) pa_nil)))) (pg_tup rfl (pgs_cons (pg_name (i := 10) nd rfl (Or.inl rfl)) (pgs_cons (pg_name (i := 11) nd rfl (Or.inl rfl)) pgs_nil))))
      (pss_cons (ps_expr (pe_mtS F_House_write (pv 2) (hr.mono (by decide)) (passD rfl rfl rfl rfl) (pa_cons pe_int (pa_cons (pv 10) (pa_cons pe_str pa_nil)))))
      (pss_mid (ps_if (PW.pt (pw_or (pt_cmpR op_ne (pe_mtS F_House_read (pv 2) (hr.mono (by decide)) (passD rfl rfl rfl rfl) (pa_cons pe_int (pa_cons (pv 11) pa_nil))) pe_str (nomark _)) (pw_or1 (pt_cmpR op_ne (pe_mtS F_House_read (pv 2) (hr.mono (by decide)) (passD rfl rfl rfl rfl) (pa_cons pe_int (pa_cons (pe_op op_catS pe_str (pe_slice C8.sl_txt (pv 6) (po_some pe_int) po_none)) pa_nil))) pe_str (nomark _))))) (pss_one (ps_ret pe_bl))
      pss_nil)
      (pss_mid (ps_if (PW.pt (pw_or (pt_cmpR op_ne (pe_mtS F_House_read (pv 2) (hr.mono (by decide)) (passD rfl rfl rfl rfl) (pa_cons pe_int (pa_cons (pv 6) pa_nil))) (pe_ifExp (pt_val (pv 9)) pe_str pe_str) (nomark _)) (pw_or1 (pt_cmpR op_ne (pe_ix ix_tup (pe_fn F_about (hr.mono (by decide)) (by rfl) (passD rfl rfl rfl rfl) (pa_cons (pv 2) (pa_cons pe_int (pa_cons (pv 5) pa_nil)))) pe_int (fun _ _ => rfl)) pe_int (nomark _))))) (pss_one (ps_ret pe_bl))
      pss_nil)
      (pss_mid (ps_if (pt_cmpR (op_neD hr.units) (pe_fn F_about (hr.mono (by decide)) (by rfl) (passD rfl rfl rfl rfl) (pa_cons (pv 2) (pa_cons pe_int (pa_cons (pv 7) pa_nil)))) (pe_tup (pa_cons pe_int (pa_cons pe_int (pa_cons (pe_tup (pa_cons pe_int (pa_cons pe_int (pa_cons pe_int pa_nil)))) (pa_cons pe_int pa_nil))))) (nomark _)) (pss_one (ps_ret pe_bl))
      pss_nil)
      (pss_mid (ps_if (PW.pt (pw_or (pt_cmpR op_ne (pe_fn F_remove_all (hr.mono (by decide)) (by rfl) (passD rfl rfl rfl rfl) (pa_cons (pv 2) (pa_cons pe_int (pa_cons pe_str pa_nil)))) pe_int (nomark _)) (pw_or1 (pt_cmpR (op_neD hr.units) (pe_fn F_beneath (hr.mono (by decide)) (by rfl) (passD rfl rfl rfl rfl) (pa_cons (pv 2) (pa_cons pe_int (pa_cons pe_str pa_nil)))) (pv 8) (nomark _))))) (pss_one (ps_ret pe_bl))
      pss_nil)
      (pss_one (ps_ret (pe_cmpR (op_eqD hr.units) (pe_fn F_names_in (hr.mono (by decide)) (by rfl) (passD rfl rfl rfl rfl) (pa_cons (pv 2) (pa_cons pe_int (pa_cons pe_str pa_nil)))) (pe_lst (pa_cons pe_str pa_nil)) (nomark _)))))))))))))))))))))))), ?_⟩
  obtain ⟨a, ns, rfl, hs, hlen, kk⟩ := h
  walk_at "x"
  refine ⟨a, ns, rfl, hs, hlen, fun t c H1 ht0 hc0 e1 T1 => ?_⟩
  walk_at "x"
  refine x_newL fun l H2 hl e2 h2 => ?_
  walk_at "x"
  refine mk_houseP (gs := [1, 2]) h2 (by decide +kernel) fun h L H3 hh3 ok3 e3 f3 => ?_
  have S3 := LawSt.start (T1.ex e2) e3 hh3 ok3 f3
  replace S3 : LawSt K H3 t c h L V0 := S3
  clear hh3 ok3 f3 e3 h2 e2 e1 T1 ht0 hc0 hs
  walk_at "x"
  refine x_newL fun lp H4 hlp e4 h4 => ?_
  obtain ⟨S4, _⟩ := S3.up e4
  have p4 := mask_new S3.there hlp h4
  refine x_forLV (fun j σ' H' => ∃ L x3, LawSt K H' t c h L (Vs j) ∧ mask (lawS t c h L) H' lp = some (.lst [V.str (Str.ofString "/r"), V.str (Str.ofString "/r/s"), V.str (Str.ofString "/r/s/t")]) ∧ σ' = [some (.ref a), some (.ref t), some (.ref h), x3, none, none, none, none, none, none, none, none]) (SqL.of h4) ⟨L, _, S4, p4, rfl⟩ (fun j σ' H' _ ⟨L, x3, _, hm, _⟩ => SqL.of (mask_ex _ _ hm)) ?_ ?_
  · clear S3 S4 p4 e4 h4
    rintro j v _ H5 hv ⟨L, x3, S5, p5, rfl⟩
    have hj : j < 3 := (List.getElem?_eq_some_iff.mp hv).1
    have hv' : v = .str (rm24 j) := by
      match j, hj, hv with
      | 0, _, hv => exact (Option.some.inj hv).symm
      | 1, _, hv => exact (Option.some.inj hv).symm
      | 2, _, hv => exact (Option.some.inj hv).symm
    subst hv'
    obtain ⟨m1, m2, m3⟩ := vs_ok j hj
    have mk := okR m1
    rw [of_decide_eq_true m2] at mk
    walk_at "x"
    refine S5.hh.ob ?_
    walk_at "x"
    refine x_newT fun rt H6 hrt e6 h6 => ?_
    obtain ⟨S6, m6⟩ := S5.up e6
    have g2 : (0 : Int) < (Vs j).groups.length := by
      match j, hj with
      | 0, _ => decide
      | 1, _ => decide
      | 2, _ => decide
    walk_at "x"
    refine make_roomL S6 (Small.le (smallB_ok m3) (by decide)) (by decide) g2 (by have := rm_len j hj; omega) h6 (by decide) (by decide) (by decide) mk fun L7 H7 S7 m7 => ?_
    walk_at "x"
    exact ⟨L7, _, S7, m7 _ _ (m6 _ _ p5), rfl⟩
  clear S3 S4 p4 e4 h4
  rintro _ H5 ⟨L, x3, S5, _, rfl⟩
  replace S5 : LawSt K H5 t c h L V3 := S5
  walk_at "x"
  refine x_newL fun pl H6 hpl e6 h6 => ?_
  obtain ⟨S6, _⟩ := S5.up e6
  have p6 := mask_new S5.there hpl h6
  clear S5 e6 h6
  have out : ∀ {H : Hp} {L : Lay} {o : HO}, mask (lawS t c h L) H pl = some o → H pl = some o ∧ pl ≠ t ∧ pl ≠ c := fun {H L o} hm => by
    obtain ⟨hn, hx⟩ := mask_at.mp hm
    exact ⟨hx, fun e => hn (by rw [e]; exact List.mem_cons_self ..), fun e => hn (by rw [e]; exact List.mem_cons_of_mem _ (List.mem_cons_self ..))⟩
  walk_at "x"
  refine S6.hh.ob ?_
  walk_at "x"
  refine ⟨t, c, pl, _, rfl, S6.tw, (out p6).1, (out p6).2.1, (out p6).2.2, by simp, by simp, fun v H7 hv T7 o7 => ?_⟩
  obtain ⟨S7, m7⟩ := S6.draw T7 o7
  have p7 := m7 _ _ p6
  obtain ⟨ia, ha, rfl⟩ := rm_of hv
  have cA := okA ia ha
  unfold chkA at cA
  simp only [Bool.and_eq_true, decide_eq_true_eq] at cA
  obtain ⟨a1, a2, a3, a4, a5, a6⟩ := cA
  have la := rm_len ia ha
  clear S6 p6 T7 o7 m7 hv
  walk_at "x"
  refine x_catS (by have : (1000 : Nat) ≤ sizeLine := (by decide); have : (Str.ofString "/x").length = 2 := (by decide +kernel); omega) ?_
  walk_at "x"
  refine x_newT fun rt H8 hrt e8 h8 => ?_
  obtain ⟨S8, m8⟩ := S7.up e8
  have p8 := m8 _ _ p7
  walk_at "x"
  refine make_leafL (p := fst24 ia) (tx := "text") (W' := W4 ia) S8 (Small.le (smallB_ok (m := 40) (by decide +kernel)) (by decide)) (by decide) (by decide) (by omega) (by decide +kernel) (by decide +kernel) h8 (by decide) (by decide) (by decide) (okR a1) fun L9 H9 S9 m9 => ?_
  have p9 := m9 _ _ p8
  have g4 : (0 : Int) < (W4 ia).groups.length := by have := S9.ok.grp.1; omega
  obtain ⟨sm4, tr4⟩ := okW_ok a2
  clear S7 S8 p7 p8 m8 m9 e8 h8
  have b4 := okB_rows a3
  walk_at "x"
  refine ⟨h, L9, W4 ia, .int 0, .str "/r", "x", rfl, S9.hh, S9.ok, sm4, intOk 0, textOk_of (by decide +kernel), fun e he => (by rw [b4] at he; cases he), fun rs hr pf H10 hpf e10 h10 => ?_⟩
  have hr := Res.ok.inj (b4.symm.trans hr)
  subst hr
  have fl : (sortR (rows24 (W4 ia) (Str.ofString "/r"))).filter (fun r => decide (r.1.getLastD "" = Str.ofString "x")) = [(rp24 ia ++ [Str.ofString "x"], Str.ofString "leaf")] := List.perm_singleton.mp (by
    have := (sortR_perm (rows24 (W4 ia) (Str.ofString "/r"))).filter xB
    rw [a4] at this
    exact this)
  rw [fl] at h10
  have h10 : H10 pf = some (.lst [V.str (pathOf (rp24 ia ++ [Str.ofString "x"]))]) := h10
  rw [a5] at h10
  obtain ⟨S10, m10⟩ := S9.up e10
  have p10 := m10 _ _ p9
  walk_at "x"
  refine x_ixL (SqL.of h10) (by rfl) ?_
  walk_at "x"
  clear S9 p9 m10 e10 h10 fl
  refine ⟨t, c, pl, _, rfl, S10.tw, (out p10).1, (out p10).2.1, (out p10).2.2, by simp, by simp, fun v H11 hv T11 o11 => ?_⟩
  obtain ⟨S11, m11⟩ := S10.draw T11 o11
  have p11 := m11 _ _ p10
  obtain ⟨ib, hb, rfl⟩ := rm_of hv
  have cB := okBB ia ha ib hb
  unfold chkB at cB
  simp only [Bool.and_eq_true, decide_eq_true_eq] at cB
  obtain ⟨b1, b2, b3⟩ := cB
  have lb := rm_len ib hb
  clear S10 p10 T11 o11 m11 hv
  walk_at "x"
  refine x_catS (by have : (1000 : Nat) ≤ sizeLine := (by decide); have : (Str.ofString "/y").length = 2 := (by decide +kernel); omega) ?_
  walk_at "x"
  refine S11.hh.ob ?_
  walk_at "x"
  have lk := okR b1
  have hlF : linkF (W4 ia) (.int 0) (.str (fst24 ia)) (.str (oth24 ib)) = .ok (W5 ia ib) := lk
  refine ⟨h, L9, W4 ia, .int 0, .str (fst24 ia), .str (oth24 ib), rfl, S11.hh, S11.ok, Small.le sm4 (by decide), intOk 0, textOk_of (by omega), textOk_of (by omega), fun e he => ?_, fun k st n hn H12 hh12 ok12 o12 => ?_⟩
  · unfold linkF at hlF
    rw [he] at hlF
    cases hlF
  have e5 : linkW (W4 ia) (last st).number n k = W5 ia ib := by
    unfold linkF at hlF
    rw [hn] at hlF
    exact Res.ok.inj hlF
  rw [e5] at hh12 ok12
  obtain ⟨S12, m12⟩ := S11.deed hh12 ok12 o12 Grew.rfl
  have p12 := m12 _ _ p11
  clear S11 p11 m12 hh12 o12 hlF lk e5 hn
  walk_at "x"
  refine S12.hh.ob ?_
  walk_at "x"
  refine ⟨t, c, pl, _, rfl, S12.tw, (out p12).1, (out p12).2.1, (out p12).2.2, by simp, by simp, fun v H13 hv T13 o13 => ?_⟩
  obtain ⟨S13, m13⟩ := S12.draw T13 o13
  have p13 := m13 _ _ p12
  obtain ⟨ic, hc, rfl⟩ := rm_of hv
  have lc := rm_len ic hc
  clear S12 p12 T13 o13 m13 hv
  walk_at "x"
  refine x_catS (by have : (1000 : Nat) ≤ sizeLine := (by decide); have : (Str.ofString "/h").length = 2 := (by decide +kernel); omega) ?_
  walk_at "x"
  refine pick_new (E := E) S13.tw (by simp) (by simp) fun v H14 hv T14 o14 => ?_
  obtain ⟨S14, m14⟩ := S13.draw T14 o14
  obtain ⟨ig, hg, rfl⟩ := gl_of hv
  have cC := okC ia ha ib hb ic hc ig hg
  unfold chkC at cC
  simp only [Bool.and_eq_true, decide_eq_true_eq] at cC
  obtain ⟨c1, c2, c3, c4, c5, c6, c7⟩ := cC
  obtain ⟨sm5, tr5⟩ := okW_ok b2
  clear S13 T14 o14 m14 hv p13 out
  walk_at "x"
  refine make_hintL (p := hnt24 ic) (g := gl24 ig) (W' := W6 ia ib ic ig) S14 (Small.le sm5 (by decide)) (by decide) (by have := S14.ok.grp.1; omega) (by have := c6.1; omega) c7 (by have := c6.2; omega) (okR c1) fun L15 H15 S15 m15 => ?_
  obtain ⟨sm6, tr6⟩ := okW_ok c2
  have cr := resB_ok c4
  clear S14 m15
  have cD := okD ia ha ib hb ic hc ig hg
  unfold chkD at cD
  simp only [Bool.and_eq_true, decide_eq_true_eq] at cD
  obtain ⟨d1, d2, d3, d4, d5, d6⟩ := cD
  obtain ⟨sm7, tr7⟩ := okW_ok d1
  have b7 := okB_rows d2
  walk_at "x"
  dsimp only
  refine x_cutM (fun σ' H' => ∃ L, LawSt K H' t c h L (W7 ia ib ic ig) ∧ σ' = [some (.ref a), some (.ref t), some (.ref h), x3, some (.ref pl), some (.str (fst24 ia)), some (.str (oth24 ib)), none, none, none, none, none]) ?_ ?_
  · walk_at "x"
    refine ⟨h, L15, W6 ia ib ic ig, .int 0, .str "/r", .str "/copy", rfl, S15.hh, S15.ok, sm6, tr6, deepB_ok c3, intOk 0, textOk_of (by decide +kernel), textOk_of (by decide +kernel), fun e he => (by rw [cr] at he; cases he), fun x st m hx L16 H16 hh16 ok16 o16 g16 => ?_⟩
    have hx := Res.ok.inj (cr.symm.trans hx)
    have x1 : x = 1 := (congrArg Prod.fst hx).symm
    have x2 : st = [std0] := (congrArg (fun z => z.2.1) hx).symm
    have x3 : m = Str.ofString "copy" := (congrArg (fun z => z.2.2) hx).symm
    clear hx
    subst x1 x2 x3
    have hh16 : HouseAt K H16 h L16 (W7 ia ib ic ig) := hh16
    have ok16 : (W7 ia ib ic ig).Ok := ok16
    obtain ⟨S16, _⟩ := S15.deed hh16 ok16 o16 g16
    walk_at "x"
    rw [c5]
    refine iteF ?_
    walk_at "x"
    refine ⟨h, L16, W7 ia ib ic ig, .int 0, .str "/copy", rfl, S16.hh, S16.ok, sm7, intOk 0, textOk_of (by decide +kernel), fun e he => (by rw [b7] at he; cases he), fun rs hr pc H17 hpc e17 h17 => ?_⟩
    have hr := Res.ok.inj (b7.symm.trans hr)
    subst hr
    obtain ⟨S17, _⟩ := S16.up e17
    walk_at "x"
    refine x_newT fun pd H18 hpd e18 h18 => ?_
    obtain ⟨S18, _⟩ := S17.up e18
    unfold chkD.cntK' at d3
    injection d3 with d31 d32
    injection d32 with d32 d33
    have k1 : cntK (rows24 (W7 ia ib ic ig) (Str.ofString "/copy")) "room" = 2 := by unfold cntK; rw [show (((rows24 (W7 ia ib ic ig) (Str.ofString "/copy")).map (·.2)).countP fun z => decide (z = Str.ofString "room")) = 2 from d31]; rfl
    have k2 : cntK (rows24 (W7 ia ib ic ig) (Str.ofString "/copy")) "leaf" = 2 := by unfold cntK; rw [show (((rows24 (W7 ia ib ic ig) (Str.ofString "/copy")).map (·.2)).countP fun z => decide (z = Str.ofString "leaf")) = 2 from d32]; rfl
    have k3 : cntK (rows24 (W7 ia ib ic ig) (Str.ofString "/copy")) "hint" = 1 := by unfold cntK; rw [show (((rows24 (W7 ia ib ic ig) (Str.ofString "/copy")).map (·.2)).countP fun z => decide (z = Str.ofString "hint")) = 1 from d33]; rfl
    rw [k1, k2, k3] at h17
    refine x_neDY (d := .tuple [.int 2, .int 2, .int 1]) (e := .tuple [.int 2, .int 2, .int 1]) (dp_tup (e18 _ _ h17) (.cons (.int _) (.cons (.int _) (.cons (.int _) .nil)))) (dp_tup h18 (.cons (.int _) (.cons (.int _) (.cons (.int _) .nil)))) (by decide +kernel) (by decide +kernel) (by decide +kernel) ?_
    walk_at "x"
    refine iteF ?_
    walk_at "x"
    exact ⟨L16, S18, rfl⟩
  rintro σ' H16 ⟨L, S16, rfl⟩
  clear S15
  walk_at "x"
  refine x_slS (by have : (1000 : Nat) ≤ sizeLine := (by decide); omega) ?_
  refine x_catS (by have : (1000 : Nat) ≤ sizeLine := (by decide); have : (Str.ofString "/copy").length = 5 := (by decide +kernel); have := slice_len (fst24 ia) (some 2) none; omega) ?_
  walk_at "x"
  refine x_cutM (fun σ' H' => Ex H16 H' ∧ σ' = [some (.ref a), some (.ref t), some (.ref h), x3, some (.ref pl), some (.str (fst24 ia)), some (.str (oth24 ib)), some (.str (cp24 (fst24 ia))), none, none, none, none]) ?_ ?_
  · walk_at "x"
    refine S16.hh.ob ?_
    walk_at "x"
    refine readT (p := cp24 (fst24 ia)) S16.hh S16.ok (by have := d6.1; omega) d4 fun H17 e17 => ?_
    walk_at "x"
    refine iteF ?_
    obtain ⟨S17, _⟩ := S16.up e17
    walk_at "x"
    refine x_slS (by have : (1000 : Nat) ≤ sizeLine := (by decide); omega) ?_
    refine x_catS (by have : (1000 : Nat) ≤ sizeLine := (by decide); have : (Str.ofString "/copy").length = 5 := (by decide +kernel); have := slice_len (oth24 ib) (some 2) none; omega) ?_
    walk_at "x"
    refine is_sameP (v := .str (cp24 (fst24 ia))) (w := .str (cp24 (oth24 ib))) S17.hh S17.ok (intOk 0) (textOk_of (by have := d6.1; omega)) (textOk_of (by have := d6.2; omega)) (resB_ok d5) fun H18 e18 => ?_
    walk_at "x"
    refine ⟨_, _, rfl, rfl, ?_⟩
    walk_at "x"
    refine iteF ?_
    walk_at "x"
    exact ⟨e17.tr e18, rfl⟩
  rintro σ' H17 ⟨e17, rfl⟩
  obtain ⟨S17, _⟩ := S16.up e17
  clear S16 e17
  walk_at "x"
  refine beneathP S17.hh S17.ok sm7 (intOk 0) (textOk_of (by decide +kernel)) b7 fun as pr H18 hpr e18 h18 hr18 => ?_
  obtain ⟨S18, _⟩ := S17.up e18
  have hd18 : Dp K (mask (lawS t c h L) H18) (.ref pr) (.list ((sortR (rows24 (W7 ia ib ic ig) (Str.ofString "/copy"))).map rowD)) := rows_dp (S17.noTup.new hpr h18) (paired_up (fun b r hb => S18.noTup.tup hb) hr18)
  have shp : SeqAt.shaped (.list ((sortR (rows24 (W7 ia ib ic ig) (Str.ofString "/copy"))).map rowD)) = true := shaped_rows fun r hr => by
    have z := benR_good S18.ok b7 r ((sortR_perm _).mem_iff.mp hr)
    exact ⟨z.1, knd_ok z.2.1⟩
  clear S17 h18 hr18 e18
  walk_at "x"
  refine ⟨t, c, 2, rfl, by omega, by omega, S18.tw, fun r H19 r0 r1 T19 o19 => ?_⟩
  obtain ⟨S19, m19⟩ := S18.draw T19 o19
  obtain ⟨tu, rfl⟩ : ∃ tu : Nat, r = (tu : Int) := ⟨r.toNat, by omega⟩
  have htu : tu < 2 := by omega
  have hd19 := dp_up m19 hd18
  clear S18 hd18 T19 o19 m19
  walk_at "x"
  rw [dec_int]
  have cE := okE ia ha ib hb ic hc ig hg tu htu
  unfold chkE at cE
  simp only [Bool.and_eq_true, decide_eq_true_eq] at cE
  obtain ⟨f1, f2, f3, f4, f5, f6, f7, f8, f9⟩ := cE
  have cF := okF ia ha ib hb ic hc ig hg tu htu
  unfold chkF at cF
  simp only [Bool.and_eq_true, decide_eq_true_eq] at cF
  obtain ⟨g1, g2, g3, g4, g5⟩ := cF
  have e0 : decide ((tu : Int) = 0) = decide (tu = 0) := decide_eq_decide.mpr (by omega)
  rw [e0]
  dsimp only
  refine x_cutM (fun σ' H' => Ex H19 H' ∧ σ' = [some (.ref a), some (.ref t), some (.ref h), x3, some (.ref pl), some (.str (fst24 ia)), some (.str (oth24 ib)), some (.str (cp24 (fst24 ia))), some (.ref pr), some (.bl (decide (tu = 0))), some (.str (one24 ia tu)), some (.str (two24 ia tu))]) ?_ ?_
  · walk_at "x"
    refine x_ifd (fun z => ?_) (fun z => ?_)
    · walk_at "x"
      refine x_newT fun pt H20 hpt e20 h20 => ?_
      refine x_gtup h20 ?_
      walk_at "x"
      refine ⟨e20, ?_⟩
      unfold one24 two24
      rw [if_pos z, if_pos z]
      rfl
    · walk_at "x"
      refine x_newT fun pt H20 hpt e20 h20 => ?_
      refine x_gtup h20 ?_
      walk_at "x"
      refine ⟨e20, ?_⟩
      unfold one24 two24
      rw [if_neg z, if_neg z]
      rfl
  rintro σ' H20 ⟨e20, rfl⟩
  obtain ⟨S20, m20⟩ := S19.up e20
  have hd20 := dp_up m20 hd19
  clear S19 hd19 m20 e20
  obtain ⟨lf, lo⟩ : (one24 ia tu).length ≤ 100 ∧ (two24 ia tu).length ≤ 100 := by
    unfold one24 two24
    have := d6.1
    split
    · exact ⟨a6, this⟩
    · exact ⟨this, a6⟩
  walk_at "x"
  refine S20.hh.ob ?_
  walk_at "x"
  have wr : writeR (W7 ia ib ic ig) (.int 0) (.str (one24 ia tu)) (.str "turned") = .ok (wn24 (W7 ia ib ic ig) (one24 ia tu)) := by
    unfold okB at f1
    unfold wn24
    split at f1
    · rename_i e
      rw [e]
    · cases f1
  refine ⟨h, L, W7 ia ib ic ig, .int 0, .str (one24 ia tu), .str "turned", rfl, S20.hh, S20.ok, intOk 0, textOk_of (by omega), textOk_of (by decide +kernel), fun e he => (by rw [wr] at he; cases he), fun n hn H21 hh21 ok21 o21 => ?_⟩
  have hn := Res.ok.inj (wr.symm.trans hn)
  subst hn
  have hh21 : HouseAt K H21 h L (W8 ia ib ic ig tu) := hh21
  have ok21 : (W8 ia ib ic ig tu).Ok := ok21
  obtain ⟨S21, m21⟩ := S20.deed hh21 ok21 o21 Grew.rfl
  have hd21 := dp_up m21 hd20
  clear S20 hd20 m21 hh21 o21
  obtain ⟨sm8, tr8⟩ := okW_ok f2
  walk_at "x"
  refine x_cutM (fun σ' H' => Ex H21 H' ∧ σ' = [some (.ref a), some (.ref t), some (.ref h), x3, some (.ref pl), some (.str (fst24 ia)), some (.str (oth24 ib)), some (.str (cp24 (fst24 ia))), some (.ref pr), some (.bl (decide (tu = 0))), some (.str (one24 ia tu)), some (.str (two24 ia tu))]) ?_ ?_
  · walk_at "x"
    refine S21.hh.ob ?_
    walk_at "x"
    refine readT (p := two24 ia tu) S21.hh S21.ok (by omega) f3 fun H22 e22 => ?_
    obtain ⟨S22, _⟩ := S21.up e22
    walk_at "x"
    refine iteF ?_
    walk_at "x"
    refine S22.hh.ob ?_
    walk_at "x"
    refine x_slS (by have : (1000 : Nat) ≤ sizeLine := (by decide); omega) ?_
    refine x_catS (by have : (1000 : Nat) ≤ sizeLine := (by decide); have : (Str.ofString "/copy").length = 5 := (by decide +kernel); have := slice_len (oth24 ib) (some 2) none; omega) ?_
    walk_at "x"
    refine readT (p := cp24 (oth24 ib)) S22.hh S22.ok (by have := d6.2; omega) f4 fun H23 e23 => ?_
    walk_at "x"
    refine iteF ?_
    walk_at "x"
    exact ⟨e22.tr e23, rfl⟩
  rintro σ' H22 ⟨e22, rfl⟩
  obtain ⟨S22, m22⟩ := S21.up e22
  have hd22 := dp_up m22 hd21
  clear S21 hd21 m22 e22
  obtain ⟨dA, hA, fA⟩ := abB_ok f6
  obtain ⟨dB, hB, fB⟩ := abB_ok f7
  walk_at "x"
  refine x_cutM (fun σ' H' => Ex H22 H' ∧ σ' = [some (.ref a), some (.ref t), some (.ref h), x3, some (.ref pl), some (.str (fst24 ia)), some (.str (oth24 ib)), some (.str (cp24 (fst24 ia))), some (.ref pr), some (.bl (decide (tu = 0))), some (.str (one24 ia tu)), some (.str (two24 ia tu))]) ?_ ?_
  · rcases (show tu = 0 ∨ tu = 1 by omega) with rfl | rfl
    · have f5 : tB (W8 ia ib ic ig 0) (oth24 ib) "turned" = true := f5
      walk_at "x"
      refine S22.hh.ob ?_
      walk_at "x"
      refine readT (p := oth24 ib) S22.hh S22.ok (by omega) f5 fun H23 e23 => ?_
      obtain ⟨S23, _⟩ := S22.up e23
      walk_at "x"
      refine x_ifY (by decide) ?_
      walk_at "x"
      refine iteF ?_
      walk_at "x"
      refine aboutP (v := .str (fst24 ia)) S23.hh S23.ok (intOk 0) (textOk_of (by omega)) hA fun x H24 e24 hx => ?_
      obtain ⟨p24, y24, rfl, hp24, _⟩ := dp_about hx
      walk_at "x"
      refine x_ixT hp24 (by rfl) ?_
      walk_at "x"
      rw [of_decide_eq_true fA]
      refine iteF ?_
      walk_at "x"
      exact ⟨e23.tr e24, rfl⟩
    · have f5 : tB (W8 ia ib ic ig 1) (oth24 ib) "text" = true := f5
      walk_at "x"
      refine S22.hh.ob ?_
      walk_at "x"
      refine readT (p := oth24 ib) S22.hh S22.ok (by omega) f5 fun H23 e23 => ?_
      obtain ⟨S23, _⟩ := S22.up e23
      walk_at "x"
      refine x_ifN (by decide) ?_
      walk_at "x"
      refine iteF ?_
      walk_at "x"
      refine aboutP (v := .str (fst24 ia)) S23.hh S23.ok (intOk 0) (textOk_of (by omega)) hA fun x H24 e24 hx => ?_
      obtain ⟨p24, y24, rfl, hp24, _⟩ := dp_about hx
      walk_at "x"
      refine x_ixT hp24 (by rfl) ?_
      walk_at "x"
      rw [of_decide_eq_true fA]
      refine iteF ?_
      walk_at "x"
      exact ⟨e23.tr e24, rfl⟩
  rintro σ' H23 ⟨e23, rfl⟩
  obtain ⟨S23, m23⟩ := S22.up e23
  have hd23 := dp_up m23 hd22
  clear S22 hd22 m23 e23
  walk_at "x"
  refine x_cutM (fun σ' H' => Ex H23 H' ∧ σ' = [some (.ref a), some (.ref t), some (.ref h), x3, some (.ref pl), some (.str (fst24 ia)), some (.str (oth24 ib)), some (.str (cp24 (fst24 ia))), some (.ref pr), some (.bl (decide (tu = 0))), some (.str (one24 ia tu)), some (.str (two24 ia tu))]) ?_ ?_
  · walk_at "x"
    refine aboutP (v := .str (cp24 (fst24 ia))) S23.hh S23.ok (intOk 0) (textOk_of (by have := d6.1; omega)) hB fun x H24 e24 hx => ?_
    walk_at "x"
    refine x_newT fun q1 H25 hq1 e25 h25 => ?_
    walk_at "x"
    refine x_newT fun q2 H26 hq2 e26 h26 => ?_
    obtain ⟨w1, w2, w3, w4, w5, w6⟩ := of_decide_eq_true fB
    have hx' : Dp K H24 x (.tuple [.int 0, .int 1, .tuple [.int 7, .int 7, .int 7], .int 1]) := by
      unfold aboutD at hx
      rw [w1, w2, w3, w4, w5, w6] at hx
      exact hx
    refine x_neDY (e := .tuple [.int 0, .int 1, .tuple [.int 7, .int 7, .int 7], .int 1]) (dp_up (e25.tr e26) hx') (dp_tup h26 (.cons (.int _) (.cons (.int _) (.cons (dp_tup (e26 _ _ h25) (.cons (.int _) (.cons (.int _) (.cons (.int _) .nil)))) (.cons (.int _) .nil))))) (by decide +kernel) (by decide +kernel) (by decide +kernel) ?_
    walk_at "x"
    refine iteF ?_
    walk_at "x"
    exact ⟨(e24.tr e25).tr e26, rfl⟩
  rintro σ' H24 ⟨e24, rfl⟩
  obtain ⟨S24, m24⟩ := S23.up e24
  have hd24 := dp_up m24 hd23
  clear S23 hd23 m24 e24
  have clr := resB_ok f8
  obtain ⟨sm9, tr9⟩ := okW_ok g1
  have b9 := okB_rows g2
  walk_at "x"
  refine x_cutM (fun σ' H' => LawSt K H' t c h L (W9 ia ib ic ig tu) ∧ σ' = [some (.ref a), some (.ref t), some (.ref h), x3, some (.ref pl), some (.str (fst24 ia)), some (.str (oth24 ib)), some (.str (cp24 (fst24 ia))), some (.ref pr), some (.bl (decide (tu = 0))), some (.str (one24 ia tu)), some (.str (two24 ia tu))]) ?_ ?_
  · walk_at "x"
    refine ⟨h, L, W8 ia ib ic ig tu, .int 0, .str "/r", rfl, S24.hh, S24.ok, sm8, tr8, intOk 0, textOk_of (by decide +kernel), fun e he => (by rw [clr] at he; cases he), fun ss n k hn H25 hh25 ok25 o25 => ?_⟩
    have hn := Res.ok.inj (clr.symm.trans hn)
    have x1 : ss = [std0] := (congrArg Prod.fst hn).symm
    have x2 : n = Str.ofString "r" := (congrArg (fun z => z.2.1) hn).symm
    have x3 : k = 1 := (congrArg (fun z => z.2.2) hn).symm
    clear hn
    subst x1 x2 x3
    have hh25 : HouseAt K H25 h L (W9 ia ib ic ig tu) := hh25
    have ok25 : (W9 ia ib ic ig tu).Ok := ok25
    obtain ⟨S25, m25⟩ := S24.deed hh25 ok25 o25 Grew.rfl
    have hd25 := dp_up m25 hd24
    walk_at "x"
    rw [f9]
    refine iteF ?_
    walk_at "x"
    refine beneathP S25.hh S25.ok sm9 (intOk 0) (textOk_of (by decide +kernel)) b9 fun as2 p2 H26 hp2 e26 h26 hr26 => ?_
    obtain ⟨S26, m26⟩ := S25.up e26
    rw [g3] at hr26
    walk_at "x"
    refine x_neDY (rows_dp h26 hr26) (dp_up mask_ex (dp_up m26 hd25)) shp shp (eqv_self shp) ?_
    walk_at "x"
    refine iteF ?_
    walk_at "x"
    exact ⟨S26, rfl⟩
  rintro σ' H25 ⟨S25, rfl⟩
  walk_at "x"
  refine names_inP S25.hh S25.ok (intOk 0) (textOk_of (by decide +kernel)) (resB_ok g4) (by have := sm9.2 0; omega) fun pn H26 hpn e26 h26 => ?_
  rw [g5] at h26
  walk_at "x"
  refine x_newL fun pm H27 hpm e27 h27 => ?_
  refine x_eqS (xs := ["copy"]) (ys := ["copy"]) (e27 _ _ h26) h27 rfl (by decide +kernel) ?_
  exact kk _
theorem rz_of {K : PySem.W.Frag} {h : Heap} {mg : Str → Option Value} (X : K.In h) (G : h.Ns mainGlobals mg) {x : Str} (c1 : (He.Fa.glo x).ok K = true) (c2 : (He.Fa.exc x).ok K = true) : Rz K mg x (He.ga K x) := by
  obtain ⟨h1, h2, h3, h4⟩ := He.exc_ok c2
  exact ⟨He.glo_ok X G c1, h1, h2, h3, h4⟩
theorem facts {P : Program} {w : World} {K : PySem.W.Frag} {h : Heap} {mg : Str → Option Value} {f : Addr} (X : K.In h) (G : h.Ns mainGlobals mg) (hfa : mg ("law" : Str) = some (.ref f)) (c : He.SaysD fa fn K) (more_ok : more K = true) :
    ∃ fd : FuncData, (∀ (s : Shared) (v : Value), BindsTo s fd ⟨[v], []⟩ [("script", v)]) ∧ ∀ base : Heap, FnOk P w K mg base (L2.CX P w) 19 f fd ["script"] (sp_law K) := by
  have MO := lessB_ok more_ok
  have CK := MO.c
  obtain ⟨fd_NoRight___init__, D_NoRight___init__⟩ := c.def_ 0 (d := d_NoRight___init__) rfl
  obtain ⟨fd_World_may, D_World_may⟩ := c.def_ 1 (d := d_World_may) rfl
  obtain ⟨fd_World_look_right, D_World_look_right⟩ := c.def_ 2 (d := d_World_look_right) rfl
  obtain ⟨fd_NoName___init__, D_NoName___init__⟩ := c.def_ 3 (d := d_NoName___init__) rfl
  obtain ⟨fd_Stand___init__, D_Stand___init__⟩ := c.def_ 4 (d := d_Stand___init__) rfl
  obtain ⟨fd_World_stand_at, D_World_stand_at⟩ := c.def_ 5 (d := d_World_stand_at) rfl
  obtain ⟨fd_is_name, D_is_name⟩ := c.def_ 6 (d := d_is_name) rfl
  obtain ⟨fd_is_part, D_is_part⟩ := c.def_ 7 (d := d_is_part) rfl
  obtain ⟨fd_parts_of, D_parts_of⟩ := c.def_ 8 (d := d_parts_of) rfl
  obtain ⟨fd_World_way, D_World_way⟩ := c.def_ 9 (d := d_World_way) rfl
  obtain ⟨fd_World_room_of, D_World_room_of⟩ := c.def_ 10 (d := d_World_room_of) rfl
  obtain ⟨fd_path_of, D_path_of⟩ := c.def_ 11 (d := d_path_of) rfl
  obtain ⟨fd_split_last, D_split_last⟩ := c.def_ 12 (d := d_split_last) rfl
  obtain ⟨fd_House_place_for, D_House_place_for⟩ := c.def_ 13 (d := d_House_place_for) rfl
  obtain ⟨fd_House_free_place, D_House_free_place⟩ := c.def_ 14 (d := d_House_free_place) rfl
  obtain ⟨fd_World_end_of, D_World_end_of⟩ := c.def_ 15 (d := d_World_end_of) rfl
  obtain ⟨fd_is_small, D_is_small⟩ := c.def_ 16 (d := d_is_small) rfl
  obtain ⟨fd_World_look_user, D_World_look_user⟩ := c.def_ 17 (d := d_World_look_user) rfl
  obtain ⟨fd_House_link, D_House_link⟩ := c.def_ 18 (d := d_House_link) rfl
  obtain ⟨fd_Node___init__, D_Node___init__⟩ := c.def_ 19 (d := d_Node___init__) rfl
  obtain ⟨fd_World_new_node, D_World_new_node⟩ := c.def_ 20 (d := d_World_new_node) rfl
  obtain ⟨fd_House_made_at, D_House_made_at⟩ := c.def_ 21 (d := d_House_made_at) rfl
  obtain ⟨fd_House_make_hint, D_House_make_hint⟩ := c.def_ 22 (d := d_House_make_hint) rfl
  obtain ⟨fd_look_rights, D_look_rights⟩ := c.def_ 23 (d := d_look_rights) rfl
  obtain ⟨fd_look_text, D_look_text⟩ := c.def_ 24 (d := d_look_text) rfl
  obtain ⟨fd_House_make_leaf, D_House_make_leaf⟩ := c.def_ 25 (d := d_House_make_leaf) rfl
  obtain ⟨fd_House_make_room, D_House_make_room⟩ := c.def_ 26 (d := d_House_make_room) rfl
  obtain ⟨fd_House_read, D_House_read⟩ := c.def_ 27 (d := d_House_read) rfl
  obtain ⟨fd_House_write, D_House_write⟩ := c.def_ 28 (d := d_House_write) rfl
  obtain ⟨fd_World___init__, D_World___init__⟩ := c.def_ 29 (d := d_World___init__) rfl
  obtain ⟨fd_law_draw, D_law_draw⟩ := c.def_ 30 (d := d_law_draw) rfl
  obtain ⟨fd_law_pick, D_law_pick⟩ := c.def_ 31 (d := d_law_pick) rfl
  obtain ⟨fd_law_town, D_law_town⟩ := c.def_ 32 (d := d_law_town) rfl
  obtain ⟨fd_about, D_about⟩ := c.def_ 33 (d := d_about) rfl
  obtain ⟨fd_beneath, D_beneath⟩ := c.def_ 34 (d := d_beneath) rfl
  obtain ⟨fd_copied, D_copied⟩ := c.def_ 35 (d := d_copied) rfl
  obtain ⟨fd_House_is_bound, D_House_is_bound⟩ := c.def_ 36 (d := d_House_is_bound) rfl
  obtain ⟨fd_World_rooms_beneath, D_World_rooms_beneath⟩ := c.def_ 37 (d := d_World_rooms_beneath) rfl
  obtain ⟨fd_look_free, D_look_free⟩ := c.def_ 38 (d := d_look_free) rfl
  obtain ⟨fd_copy_room, D_copy_room⟩ := c.def_ 39 (d := d_copy_room) rfl
  obtain ⟨fd_count_of, D_count_of⟩ := c.def_ 40 (d := d_count_of) rfl
  obtain ⟨fd_found_names, D_found_names⟩ := c.def_ 41 (d := d_found_names) rfl
  obtain ⟨fd_is_same, D_is_same⟩ := c.def_ 42 (d := d_is_same) rfl
  obtain ⟨fd_names_in, D_names_in⟩ := c.def_ 43 (d := d_names_in) rfl
  obtain ⟨fd_House_named, D_House_named⟩ := c.def_ 44 (d := d_House_named) rfl
  obtain ⟨fd_remove_all, D_remove_all⟩ := c.def_ 45 (d := d_remove_all) rfl
  obtain ⟨fd_law, D_law⟩ := c.def_ 46 (d := d_law) rfl
  have e := hfa.symm.trans (He.glo_ok X G (c.fact 95 rfl))
  cases e
  refine ⟨fd_law, fun s v => FunD.bindsA (ps := ["script"]) D_law (fun _ _ _ _ _ _ us hl => match us, hl with | [_], _ => rfl) s [v] rfl, fun base => ?_⟩
  have K_NoRight___init__ := ok_NoRight___init__ (P := P) (w := w) (mg := mg) (base := base) D_NoRight___init__ (TC := MO.r.o) (n_user := (MO.r.n _ (by decide))) (n_number := (MO.r.n _ (by decide)))
  have R_NoRight : Ri P w K mg base "NoRight" (He.ga K "NoRight") ["user", "number"] := ⟨⟨_, fd_NoRight___init__, (He.glo_ok X G (c.fact 0 rfl)), MO.r.o, MO.r.i, MO.r.t, K_NoRight___init__, (D_NoRight___init__.bindsN fun _ _ _ _ _ _ us hl => match us, hl with | [_, _, _], _ => rfl)⟩⟩
  have K_World_may := ok_World_may (P := P) (w := w) (mg := mg) (base := base) D_World_may (CK := CK) (c_KEEPER := (He.int_ok X G (c.fact 1 rfl)))
  have F_World_may : Mt P w K mg base 1 (cHouse K) "may" ["self", "user", "number", "right"] [] (sp_may K) := ⟨⟨_, fd_World_may, [], CK.h, (He.meth_ok (c.fact 2 rfl)), K_World_may, (D_World_may.bindsN fun _ _ _ _ _ _ us hl => match us, hl with | [_, _, _, _], _ => rfl), .nil⟩⟩
  have K_World_look_right := ok_World_look_right (P := P) (w := w) (mg := mg) (base := base) D_World_look_right (F_World_may := F_World_may) (R_NoRight := R_NoRight)
  have F_World_look_right : Mt P w K mg base 3 (cHouse K) "look_right" ["self", "user", "number", "right"] [] (sp_look_right K) := ⟨⟨_, fd_World_look_right, [], CK.h, (He.meth_ok (c.fact 3 rfl)), K_World_look_right, (D_World_look_right.bindsN fun _ _ _ _ _ _ us hl => match us, hl with | [_, _, _, _], _ => rfl), .nil⟩⟩
  have K_NoName___init__ := ok_NoName___init__ (P := P) (w := w) (mg := mg) (base := base) D_NoName___init__ (TC := MO.n.o) (n_name := (MO.n.n _ (by decide)))
  have R_NoName : Ri P w K mg base "NoName" (He.ga K "NoName") ["name"] := ⟨⟨_, fd_NoName___init__, (He.glo_ok X G (c.fact 4 rfl)), MO.n.o, MO.n.i, MO.n.t, K_NoName___init__, (D_NoName___init__.bindsN fun _ _ _ _ _ _ us hl => match us, hl with | [_, _], _ => rfl)⟩⟩
  have K_Stand___init__ := ok_Stand___init__ (P := P) (w := w) (mg := mg) (base := base) D_Stand___init__ (CK := CK)
  have M_Stand : Mks P w K mg base 1 "Stand" (He.ga K "Stand") ["self", "number", "name", "under"] (sp_Stand K) := ⟨⟨_, fd_Stand___init__, (He.glo_ok X G (c.fact 5 rfl)), (He.mkr_ok (c.fact 6 rfl)), K_Stand___init__, (D_Stand___init__.bindsN fun _ _ _ _ _ _ us hl => match us, hl with | [_, _, _, _], _ => rfl)⟩⟩
  have K_World_stand_at := ok_World_stand_at (P := P) (w := w) (mg := mg) (base := base) D_World_stand_at (CK := CK) (M_Stand := M_Stand)
  have F_World_stand_at : Mt P w K mg base 3 (cHouse K) "stand_at" ["self", "number", "name"] [] (sp_stand_at K) := ⟨⟨_, fd_World_stand_at, [], CK.h, (He.meth_ok (c.fact 7 rfl)), K_World_stand_at, (D_World_stand_at.bindsN fun _ _ _ _ _ _ us hl => match us, hl with | [_, _, _], _ => rfl), .nil⟩⟩
  have K_is_name := ok_is_name (P := P) (w := w) (mg := mg) (base := base) D_is_name (b_isinstance := (He.free_ok X G (c.fact 8 rfl))) (b_str := (He.free_ok X G (c.fact 9 rfl))) (b_len := (He.free_ok X G (c.fact 10 rfl))) (c_MOST_NAME := (He.int_ok X G (c.fact 11 rfl))) (b_all := (He.free_ok X G (c.fact 12 rfl))) (c_SIGNS := (He.str_ok X G (c.fact 13 rfl)))
  have F_is_name : Fn P w K mg base 1 "is_name" ["thing"] (sp_is_name K) := ⟨⟨_, fd_is_name, (He.glo_ok X G (c.fact 14 rfl)), K_is_name, D_is_name.bindsN fun _ _ _ _ _ _ us hl => match us, hl with | [_], _ => rfl, D_is_name.kp⟩⟩
  have K_is_part := ok_is_part (P := P) (w := w) (mg := mg) (base := base) D_is_part (c_ABOVE := (He.str_ok X G (c.fact 15 rfl))) (c_HERE := (He.str_ok X G (c.fact 16 rfl))) (F_is_name := F_is_name)
  have F_is_part : Fn P w K mg base 2 "is_part" ["thing"] (sp_is_part K) := ⟨⟨_, fd_is_part, (He.glo_ok X G (c.fact 17 rfl)), K_is_part, D_is_part.bindsN fun _ _ _ _ _ _ us hl => match us, hl with | [_], _ => rfl, D_is_part.kp⟩⟩
  have K_parts_of := ok_parts_of (P := P) (w := w) (mg := mg) (base := base) D_parts_of (b_isinstance := (He.free_ok X G (c.fact 8 rfl))) (b_str := (He.free_ok X G (c.fact 9 rfl))) (R_BadPath := (rz_of X G (c.fact 18 rfl) (c.fact 19 rfl))) (b_len := (He.free_ok X G (c.fact 10 rfl))) (c_MOST_PARTS := (He.int_ok X G (c.fact 20 rfl))) (b_all := (He.free_ok X G (c.fact 12 rfl))) (F_is_part := F_is_part)
  have F_parts_ofD : FnD P w K mg base 3 "parts_of" ["path", "from_top"] [.bl true] (sp_parts_of K) := by
    obtain ⟨ds, hv, hb⟩ := D_parts_of.binds1 (ps := ["path", "from_top"]) 1 0 (by simp [He.DefD.dvs, d_parts_of]) (by rfl) (fun T kV doc pm an cdv ct us its hu hi => match us, its, hu, hi with | [_], [_], _, _ => ⟨_, rfl, rfl⟩)
    exact ⟨⟨_, fd_parts_of, ds, (He.glo_ok X G (c.fact 21 rfl)), K_parts_of, hb, hv, D_parts_of.kp⟩⟩
  have F_parts_ofK : FnK P w K mg base 3 "parts_of" ["path", "from_top"] 1 ["from_top"] (sp_parts_of K) := ⟨⟨_, fd_parts_of, (He.glo_ok X G (c.fact 21 rfl)), K_parts_of, kbn_of D_parts_of 1 ["from_top"] (by simp [He.DefD.dvs, d_parts_of]) (fun T kV doc pm an cdv ct us its ws hu hi hw => match us, its, ws, hu, hi, hw with | [_], [_], [_], _, _, _ => ⟨_, rfl, rfl⟩), D_parts_of.kp⟩⟩
  have K_World_way := ok_World_way (P := P) (w := w) (mg := mg) (base := base) D_World_way (M_Stand := M_Stand) (F_parts_ofD := F_parts_ofD) (CK := CK) (c_PASS := (He.int_ok X G (c.fact 22 rfl))) (F_World_look_right := F_World_look_right) (c_ABOVE := (He.str_ok X G (c.fact 15 rfl))) (b_max := (He.free_ok X G (c.fact 23 rfl))) (b_len := (He.free_ok X G (c.fact 10 rfl))) (c_HERE := (He.str_ok X G (c.fact 16 rfl))) (R_NoName := R_NoName) (c_MOST_HINTS := (He.int_ok X G (c.fact 24 rfl))) (R_TooDeep := (rz_of X G (c.fact 25 rfl) (c.fact 26 rfl))) (F_parts_ofK := F_parts_ofK) (F_World_stand_at := F_World_stand_at) (R_NotRoom := (rz_of X G (c.fact 27 rfl) (c.fact 28 rfl)))
  have F_World_wayD : Mt P w K mg base 4 (cHouse K) "way" ["self", "user", "path", "follow"] [.bl true] (sp_way K) := by
    obtain ⟨ds, hv, hb⟩ := D_World_way.binds1 (ps := ["self", "user", "path", "follow"]) 3 0 (by simp [He.DefD.dvs, d_World_way]) (by rfl) (fun T kV doc pm an cdv ct us its hu hi => match us, its, hu, hi with | [_, _, _], [_], _, _ => ⟨_, rfl, rfl⟩)
    exact ⟨⟨_, fd_World_way, ds, CK.h, (He.meth_ok (c.fact 29 rfl)), K_World_way, hb, hv⟩⟩
  have F_World_wayK : MtK P w K mg base 4 (cHouse K) "way" ["self", "user", "path", "follow"] 3 ["follow"] (sp_way K) := ⟨⟨_, fd_World_way, CK.h, (He.meth_ok (c.fact 29 rfl)), K_World_way, kbn_of D_World_way 3 ["follow"] (by simp [He.DefD.dvs, d_World_way]) (fun T kV doc pm an cdv ct us its ws hu hi hw => match us, its, ws, hu, hi, hw with | [_, _, _], [_], [_], _, _, _ => ⟨_, rfl, rfl⟩)⟩⟩
  have K_World_room_of := ok_World_room_of (P := P) (w := w) (mg := mg) (base := base) D_World_room_of (F_World_wayD := F_World_wayD) (R_NotRoom := (rz_of X G (c.fact 27 rfl) (c.fact 28 rfl)))
  have F_World_room_of : Mt P w K mg base 5 (cHouse K) "room_of" ["self", "user", "path"] [] (sp_room_of K) := ⟨⟨_, fd_World_room_of, [], CK.h, (He.meth_ok (c.fact 30 rfl)), K_World_room_of, (D_World_room_of.bindsN fun _ _ _ _ _ _ us hl => match us, hl with | [_, _, _], _ => rfl), .nil⟩⟩
  have K_path_of := ok_path_of (P := P) (w := w) (mg := mg) (base := base) D_path_of (b_isinstance := (He.free_ok X G (c.fact 8 rfl))) (b_list := (He.free_ok X G (c.fact 31 rfl))) (b_len := (He.free_ok X G (c.fact 10 rfl))) (c_MOST_PARTS := (He.int_ok X G (c.fact 20 rfl))) (b_all := (He.free_ok X G (c.fact 12 rfl))) (F_is_part := F_is_part) (R_BadPath := (rz_of X G (c.fact 18 rfl) (c.fact 19 rfl)))
  have F_path_of : Fn P w K mg base 3 "path_of" ["parts"] (sp_path_of K) := ⟨⟨_, fd_path_of, (He.glo_ok X G (c.fact 32 rfl)), K_path_of, D_path_of.bindsN fun _ _ _ _ _ _ us hl => match us, hl with | [_], _ => rfl, D_path_of.kp⟩⟩
  have K_split_last := ok_split_last (P := P) (w := w) (mg := mg) (base := base) D_split_last (F_parts_ofD := F_parts_ofD) (F_is_name := F_is_name) (R_BadPath := (rz_of X G (c.fact 18 rfl) (c.fact 19 rfl))) (F_path_of := F_path_of)
  have F_split_last : Fn P w K mg base 4 "split_last" ["path"] (sp_split K) := ⟨⟨_, fd_split_last, (He.glo_ok X G (c.fact 33 rfl)), K_split_last, D_split_last.bindsN fun _ _ _ _ _ _ us hl => match us, hl with | [_], _ => rfl, D_split_last.kp⟩⟩
  have K_House_place_for := ok_House_place_for (P := P) (w := w) (mg := mg) (base := base) D_House_place_for (F_split_last := F_split_last) (F_World_room_of := F_World_room_of) (c_CHANGE := (He.int_ok X G (c.fact 34 rfl))) (c_PASS := (He.int_ok X G (c.fact 22 rfl))) (CK := CK) (F_World_look_right := F_World_look_right)
  have F_House_place_for : Mt P w K mg base 6 (cHouse K) "place_for" ["self", "user", "path"] [] (sp_place_for K) := ⟨⟨_, fd_House_place_for, [], CK.h, (He.meth_ok (c.fact 35 rfl)), K_House_place_for, (D_House_place_for.bindsN fun _ _ _ _ _ _ us hl => match us, hl with | [_, _, _], _ => rfl), .nil⟩⟩
  have K_House_free_place := ok_House_free_place (P := P) (w := w) (mg := mg) (base := base) D_House_free_place (F_House_place_for := F_House_place_for) (CK := CK) (R_Taken := (rz_of X G (c.fact 36 rfl) (c.fact 37 rfl)))
  have F_House_free_place : Mt P w K mg base 7 (cHouse K) "free_place" ["self", "user", "path"] [] (sp_free_place K) := ⟨⟨_, fd_House_free_place, [], CK.h, (He.meth_ok (c.fact 38 rfl)), K_House_free_place, (D_House_free_place.bindsN fun _ _ _ _ _ _ us hl => match us, hl with | [_, _, _], _ => rfl), .nil⟩⟩
  have K_World_end_of := ok_World_end_of (P := P) (w := w) (mg := mg) (base := base) D_World_end_of (F_World_wayK := F_World_wayK) (CK := CK)
  have F_World_end_ofD : Mt P w K mg base 5 (cHouse K) "end_of" ["self", "user", "path", "follow"] [.bl true] (sp_end_of K) := by
    obtain ⟨ds, hv, hb⟩ := D_World_end_of.binds1 (ps := ["self", "user", "path", "follow"]) 3 0 (by simp [He.DefD.dvs, d_World_end_of]) (by rfl) (fun T kV doc pm an cdv ct us its hu hi => match us, its, hu, hi with | [_, _, _], [_], _, _ => ⟨_, rfl, rfl⟩)
    exact ⟨⟨_, fd_World_end_of, ds, CK.h, (He.meth_ok (c.fact 39 rfl)), K_World_end_of, hb, hv⟩⟩
  have F_World_end_ofK : MtK P w K mg base 5 (cHouse K) "end_of" ["self", "user", "path", "follow"] 3 ["follow"] (sp_end_of K) := ⟨⟨_, fd_World_end_of, CK.h, (He.meth_ok (c.fact 39 rfl)), K_World_end_of, kbn_of D_World_end_of 3 ["follow"] (by simp [He.DefD.dvs, d_World_end_of]) (fun T kV doc pm an cdv ct us its ws hu hi hw => match us, its, ws, hu, hi, hw with | [_, _, _], [_], [_], _, _, _ => ⟨_, rfl, rfl⟩)⟩⟩
  have K_is_small := ok_is_small (P := P) (w := w) (mg := mg) (base := base) D_is_small (b_isinstance := (He.free_ok X G (c.fact 8 rfl))) (b_int := (He.free_ok X G (c.fact 40 rfl))) (b_bool := (He.free_ok X G (c.fact 41 rfl)))
  have F_is_small : Fn P w K mg base 1 "is_small" ["thing", "high"] (sp_is_small K) := ⟨⟨_, fd_is_small, (He.glo_ok X G (c.fact 42 rfl)), K_is_small, D_is_small.bindsN fun _ _ _ _ _ _ us hl => match us, hl with | [_, _], _ => rfl, D_is_small.kp⟩⟩
  have K_World_look_user := ok_World_look_user (P := P) (w := w) (mg := mg) (base := base) D_World_look_user (F_is_small := F_is_small) (b_len := (He.free_ok X G (c.fact 10 rfl))) (CK := CK) (R_NoUser := (rz_of X G (c.fact 43 rfl) (c.fact 44 rfl)))
  have F_World_look_user : Mt P w K mg base 2 (cHouse K) "look_user" ["self", "user"] [] (sp_look_user K) := ⟨⟨_, fd_World_look_user, [], CK.h, (He.meth_ok (c.fact 45 rfl)), K_World_look_user, (D_World_look_user.bindsN fun _ _ _ _ _ _ us hl => match us, hl with | [_, _], _ => rfl), .nil⟩⟩
  have K_House_link := ok_House_link (P := P) (w := w) (mg := mg) (base := base) D_House_link (F_World_look_user := F_World_look_user) (F_World_end_ofK := F_World_end_ofK) (CK := CK) (R_NotLeaf := (rz_of X G (c.fact 46 rfl) (c.fact 47 rfl))) (F_House_free_place := F_House_free_place)
  have F_House_link : Mt P w K mg base 8 (cHouse K) "link" ["self", "user", "old", "new"] [] (sp_link K) := ⟨⟨_, fd_House_link, [], CK.h, (He.meth_ok (c.fact 48 rfl)), K_House_link, (D_House_link.bindsN fun _ _ _ _ _ _ us hl => match us, hl with | [_, _, _, _], _ => rfl), .nil⟩⟩
  have K_Node___init__ := ok_Node___init__ (P := P) (w := w) (mg := mg) (base := base) D_Node___init__ (CK := CK)
  have M_Node : Mks P w K mg base 1 "Node" (He.ga K "Node") ["self", "kind", "owner", "group", "rights"] (sp_Node K) := ⟨⟨_, fd_Node___init__, (He.glo_ok X G (c.fact 49 rfl)), (He.mkr_ok (c.fact 50 rfl)), K_Node___init__, (D_Node___init__.bindsN fun _ _ _ _ _ _ us hl => match us, hl with | [_, _, _, _, _], _ => rfl)⟩⟩
  have K_World_new_node := ok_World_new_node (P := P) (w := w) (mg := mg) (base := base) D_World_new_node (CK := CK) (M_Node := M_Node)
  have F_World_new_node : Mt P w K mg base 3 (cHouse K) "new_node" ["self", "kind", "user", "rights"] [] (sp_new_node K) := ⟨⟨_, fd_World_new_node, [], CK.h, (He.meth_ok (c.fact 51 rfl)), K_World_new_node, (D_World_new_node.bindsN fun _ _ _ _ _ _ us hl => match us, hl with | [_, _, _, _], _ => rfl), .nil⟩⟩
  have K_House_made_at := ok_House_made_at (P := P) (w := w) (mg := mg) (base := base) D_House_made_at (F_House_free_place := F_House_free_place) (F_World_new_node := F_World_new_node) (CK := CK)
  have F_House_made_at : Mt P w K mg base 8 (cHouse K) "made_at" ["self", "user", "path", "kind", "rights"] [] (sp_made_at K) := ⟨⟨_, fd_House_made_at, [], CK.h, (He.meth_ok (c.fact 52 rfl)), K_House_made_at, (D_House_made_at.bindsN fun _ _ _ _ _ _ us hl => match us, hl with | [_, _, _, _, _], _ => rfl), .nil⟩⟩
  have K_House_make_hint := ok_House_make_hint (P := P) (w := w) (mg := mg) (base := base) D_House_make_hint (F_World_look_user := F_World_look_user) (F_parts_ofK := F_parts_ofK) (CK := CK) (F_House_made_at := F_House_made_at)
  have F_House_make_hint : Mt P w K mg base 9 (cHouse K) "make_hint" ["self", "user", "path", "goal"] [] (sp_make_hint K) := ⟨⟨_, fd_House_make_hint, [], CK.h, (He.meth_ok (c.fact 53 rfl)), K_House_make_hint, (D_House_make_hint.bindsN fun _ _ _ _ _ _ us hl => match us, hl with | [_, _, _, _], _ => rfl), .nil⟩⟩
  have K_look_rights := ok_look_rights (P := P) (w := w) (mg := mg) (base := base) D_look_rights (b_isinstance := (He.free_ok X G (c.fact 8 rfl))) (b_tuple := (He.free_ok X G (c.fact 54 rfl))) (b_len := (He.free_ok X G (c.fact 10 rfl))) (b_all := (He.free_ok X G (c.fact 12 rfl))) (F_is_small := F_is_small) (R_BadRights := (rz_of X G (c.fact 55 rfl) (c.fact 56 rfl)))
  have F_look_rights : Fn P w K mg base 2 "look_rights" ["rights"] (sp_look_rights K) := ⟨⟨_, fd_look_rights, (He.glo_ok X G (c.fact 57 rfl)), K_look_rights, D_look_rights.bindsN fun _ _ _ _ _ _ us hl => match us, hl with | [_], _ => rfl, D_look_rights.kp⟩⟩
  have K_look_text := ok_look_text (P := P) (w := w) (mg := mg) (base := base) D_look_text (b_isinstance := (He.free_ok X G (c.fact 8 rfl))) (b_str := (He.free_ok X G (c.fact 9 rfl))) (b_len := (He.free_ok X G (c.fact 10 rfl))) (c_MOST_TEXT := (He.int_ok X G (c.fact 58 rfl))) (b_all := (He.free_ok X G (c.fact 12 rfl))) (b_ord := (He.free_ok X G (c.fact 59 rfl))) (R_BadText := (rz_of X G (c.fact 60 rfl) (c.fact 61 rfl)))
  have F_look_text : Fn P w K mg base 1 "look_text" ["text"] (sp_look_text K) := ⟨⟨_, fd_look_text, (He.glo_ok X G (c.fact 62 rfl)), K_look_text, D_look_text.bindsN fun _ _ _ _ _ _ us hl => match us, hl with | [_], _ => rfl, D_look_text.kp⟩⟩
  have K_House_make_leaf := ok_House_make_leaf (P := P) (w := w) (mg := mg) (base := base) D_House_make_leaf (F_World_look_user := F_World_look_user) (F_look_text := F_look_text) (F_look_rights := F_look_rights) (CK := CK) (F_House_made_at := F_House_made_at)
  have F_House_make_leaf : Mt P w K mg base 9 (cHouse K) "make_leaf" ["self", "user", "path", "text", "rights"] [] (sp_make_leaf K) := ⟨⟨_, fd_House_make_leaf, [], CK.h, (He.meth_ok (c.fact 63 rfl)), K_House_make_leaf, (D_House_make_leaf.bindsN fun _ _ _ _ _ _ us hl => match us, hl with | [_, _, _, _, _], _ => rfl), .nil⟩⟩
  have K_House_make_room := ok_House_make_room (P := P) (w := w) (mg := mg) (base := base) D_House_make_room (F_World_look_user := F_World_look_user) (F_look_rights := F_look_rights) (F_House_made_at := F_House_made_at)
  have F_House_make_room : Mt P w K mg base 9 (cHouse K) "make_room" ["self", "user", "path", "rights"] [] (sp_make_room K) := ⟨⟨_, fd_House_make_room, [], CK.h, (He.meth_ok (c.fact 64 rfl)), K_House_make_room, (D_House_make_room.bindsN fun _ _ _ _ _ _ us hl => match us, hl with | [_, _, _, _], _ => rfl), .nil⟩⟩
  have K_House_read := ok_House_read (P := P) (w := w) (mg := mg) (base := base) D_House_read (F_World_look_user := F_World_look_user) (F_World_end_ofD := F_World_end_ofD) (CK := CK) (R_NotLeaf := (rz_of X G (c.fact 46 rfl) (c.fact 47 rfl))) (c_SEE := (He.int_ok X G (c.fact 65 rfl))) (F_World_look_right := F_World_look_right)
  have F_House_read : Mt P w K mg base 6 (cHouse K) "read" ["self", "user", "path"] [] (sp_read K) := ⟨⟨_, fd_House_read, [], CK.h, (He.meth_ok (c.fact 66 rfl)), K_House_read, (D_House_read.bindsN fun _ _ _ _ _ _ us hl => match us, hl with | [_, _, _], _ => rfl), .nil⟩⟩
  have K_House_write := ok_House_write (P := P) (w := w) (mg := mg) (base := base) D_House_write (F_World_look_user := F_World_look_user) (F_look_text := F_look_text) (F_World_end_ofD := F_World_end_ofD) (CK := CK) (R_NotLeaf := (rz_of X G (c.fact 46 rfl) (c.fact 47 rfl))) (c_CHANGE := (He.int_ok X G (c.fact 34 rfl))) (F_World_look_right := F_World_look_right)
  have F_House_write : Mt P w K mg base 6 (cHouse K) "write" ["self", "user", "path", "text"] [] (sp_write K) := ⟨⟨_, fd_House_write, [], CK.h, (He.meth_ok (c.fact 67 rfl)), K_House_write, (D_House_write.bindsN fun _ _ _ _ _ _ us hl => match us, hl with | [_, _, _, _], _ => rfl), .nil⟩⟩
  have K_World___init__ := ok_World___init__ (P := P) (w := w) (mg := mg) (base := base) D_World___init__ (b_isinstance := (He.free_ok X G (c.fact 8 rfl))) (b_list := (He.free_ok X G (c.fact 31 rfl))) (b_len := (He.free_ok X G (c.fact 10 rfl))) (c_MOST_USERS := (He.int_ok X G (c.fact 68 rfl))) (b_all := (He.free_ok X G (c.fact 12 rfl))) (F_is_small := F_is_small) (R_BadRights := (rz_of X G (c.fact 55 rfl) (c.fact 56 rfl))) (CK := CK) (M_Node := M_Node) (c_KEEPER := (He.int_ok X G (c.fact 1 rfl)))
  have M_House : Mks P w K mg base 3 "House" (He.ga K "House") ["self", "groups"] (sp_World K) := ⟨⟨_, fd_World___init__, (He.glo_ok X G (c.fact 69 rfl)), (He.mkr_ok (c.fact 70 rfl)), K_World___init__, (D_World___init__.bindsN fun _ _ _ _ _ _ us hl => match us, hl with | [_, _], _ => rfl)⟩⟩
  have K_law_draw := ok_law_draw (P := P) (w := w) (mg := mg) (base := base) D_law_draw (b_len := (He.free_ok X G (c.fact 10 rfl)))
  have F_law_draw : Fn P w K mg base 1 "_law_draw" ["town", "many"] sp_draw := ⟨⟨_, fd_law_draw, (He.glo_ok X G (c.fact 71 rfl)), K_law_draw, D_law_draw.bindsN fun _ _ _ _ _ _ us hl => match us, hl with | [_, _], _ => rfl, D_law_draw.kp⟩⟩
  have K_law_pick := ok_law_pick (P := P) (w := w) (mg := mg) (base := base) D_law_pick (F_law_draw := F_law_draw) (b_len := (He.free_ok X G (c.fact 10 rfl)))
  have F_law_pick : Fn P w K mg base 2 "_law_pick" ["town", "some"] sp_pick := ⟨⟨_, fd_law_pick, (He.glo_ok X G (c.fact 72 rfl)), K_law_pick, D_law_pick.bindsN fun _ _ _ _ _ _ us hl => match us, hl with | [_, _], _ => rfl, D_law_pick.kp⟩⟩
  have K_law_town := ok_law_town (P := P) (w := w) (mg := mg) (base := base) D_law_town (b_list := (He.free_ok X G (c.fact 31 rfl)))
  have F_law_town : Fn P w K mg base 1 "_law_town" ["script"] (sp_town K) := ⟨⟨_, fd_law_town, (He.glo_ok X G (c.fact 73 rfl)), K_law_town, D_law_town.bindsN fun _ _ _ _ _ _ us hl => match us, hl with | [_], _ => rfl, D_law_town.kp⟩⟩
  have K_about := ok_about (P := P) (w := w) (mg := mg) (base := base) D_about (F_World_look_user := F_World_look_user) (CK := CK) (F_World_end_ofD := F_World_end_ofD)
  have F_about : Fn P w K mg base 6 "about" ["house", "user", "path"] (sp_about K) := ⟨⟨_, fd_about, (He.glo_ok X G (c.fact 74 rfl)), K_about, D_about.bindsN fun _ _ _ _ _ _ us hl => match us, hl with | [_, _, _], _ => rfl, D_about.kp⟩⟩
  have K_beneath := ok_beneath (P := P) (w := w) (mg := mg) (base := base) D_beneath (F_World_look_user := F_World_look_user) (F_World_room_of := F_World_room_of) (c_SEE := (He.int_ok X G (c.fact 65 rfl))) (c_PASS := (He.int_ok X G (c.fact 22 rfl))) (CK := CK) (F_World_look_right := F_World_look_right) (b_len := (He.free_ok X G (c.fact 10 rfl))) (c_MOST_STANDS := (He.int_ok X G (c.fact 75 rfl))) (R_BadPath := (rz_of X G (c.fact 18 rfl) (c.fact 19 rfl))) (b_sorted := (He.free_ok X G (c.fact 76 rfl))) (F_path_of := F_path_of) (c_MOST_ROWS := (He.int_ok X G (c.fact 77 rfl))) (F_World_stand_at := F_World_stand_at) (F_World_may := F_World_may)
  have F_beneath : Fn P w K mg base 6 "beneath" ["house", "user", "path"] (sp_beneath K) := ⟨⟨_, fd_beneath, (He.glo_ok X G (c.fact 78 rfl)), K_beneath, D_beneath.bindsN fun _ _ _ _ _ _ us hl => match us, hl with | [_, _, _], _ => rfl, D_beneath.kp⟩⟩
  have K_copied := ok_copied (P := P) (w := w) (mg := mg) (base := base) D_copied (CK := CK) (F_World_new_node := F_World_new_node) (b_sorted := (He.free_ok X G (c.fact 76 rfl))) (g_self := (He.glo_ok X G (c.fact 79 rfl))) (bn_self := (D_copied.bindsN fun _ _ _ _ _ _ us hl => match us, hl with | [_, _, _], _ => rfl)) (kp_self := D_copied.kp)
  have F_copied : Fn P w K mg base 17 "copied" ["house", "user", "number"] (sp_copied K) := ⟨⟨_, fd_copied, (He.glo_ok X G (c.fact 79 rfl)), K_copied, D_copied.bindsN fun _ _ _ _ _ _ us hl => match us, hl with | [_, _, _], _ => rfl, D_copied.kp⟩⟩
  have K_House_is_bound := ok_House_is_bound (P := P) (w := w) (mg := mg) (base := base) D_House_is_bound (CK := CK) (b_list := (He.free_ok X G (c.fact 31 rfl)))
  have F_House_is_bound : Mt P w K mg base 1 (cHouse K) "is_bound" ["self", "number"] [] (sp_is_bound K) := ⟨⟨_, fd_House_is_bound, [], CK.h, (He.meth_ok (c.fact 80 rfl)), K_House_is_bound, (D_House_is_bound.bindsN fun _ _ _ _ _ _ us hl => match us, hl with | [_, _], _ => rfl), .nil⟩⟩
  have K_World_rooms_beneath := ok_World_rooms_beneath (P := P) (w := w) (mg := mg) (base := base) D_World_rooms_beneath (CK := CK) (b_sorted := (He.free_ok X G (c.fact 76 rfl)))
  have F_World_rooms_beneath : Mt P w K mg base 1 (cHouse K) "rooms_beneath" ["self", "number"] [] (sp_rooms_beneath K) := ⟨⟨_, fd_World_rooms_beneath, [], CK.h, (He.meth_ok (c.fact 81 rfl)), K_World_rooms_beneath, (D_World_rooms_beneath.bindsN fun _ _ _ _ _ _ us hl => match us, hl with | [_, _], _ => rfl), .nil⟩⟩
  have K_look_free := ok_look_free (P := P) (w := w) (mg := mg) (base := base) D_look_free (F_World_rooms_beneath := F_World_rooms_beneath) (b_any := (He.free_ok X G (c.fact 82 rfl))) (F_House_is_bound := F_House_is_bound) (R_Busy := (rz_of X G (c.fact 83 rfl) (c.fact 84 rfl))) (b_sorted := (He.free_ok X G (c.fact 76 rfl))) (F_World_look_right := F_World_look_right)
  have F_look_free : Fn P w K mg base 4 "look_free" ["house", "user", "number", "right"] (sp_look_free K) := ⟨⟨_, fd_look_free, (He.glo_ok X G (c.fact 85 rfl)), K_look_free, D_look_free.bindsN fun _ _ _ _ _ _ us hl => match us, hl with | [_, _, _, _], _ => rfl, D_look_free.kp⟩⟩
  have K_copy_room := ok_copy_room (P := P) (w := w) (mg := mg) (base := base) D_copy_room (F_World_look_user := F_World_look_user) (F_World_room_of := F_World_room_of) (CK := CK) (F_House_free_place := F_House_free_place) (F_look_free := F_look_free) (c_SEE := (He.int_ok X G (c.fact 65 rfl))) (c_PASS := (He.int_ok X G (c.fact 22 rfl))) (R_BadMove := (rz_of X G (c.fact 86 rfl) (c.fact 87 rfl))) (F_copied := F_copied)
  have F_copy_room : Fn P w K mg base 18 "copy_room" ["house", "user", "old", "new"] (sp_copy_room K) := ⟨⟨_, fd_copy_room, (He.glo_ok X G (c.fact 88 rfl)), K_copy_room, D_copy_room.bindsN fun _ _ _ _ _ _ us hl => match us, hl with | [_, _, _, _], _ => rfl, D_copy_room.kp⟩⟩
  have K_count_of := ok_count_of (P := P) (w := w) (mg := mg) (base := base) D_count_of (F_beneath := F_beneath)
  have F_count_of : Fn P w K mg base 7 "count_of" ["house", "user", "path"] (sp_count_of K) := ⟨⟨_, fd_count_of, (He.glo_ok X G (c.fact 89 rfl)), K_count_of, D_count_of.bindsN fun _ _ _ _ _ _ us hl => match us, hl with | [_, _, _], _ => rfl, D_count_of.kp⟩⟩
  have K_found_names := ok_found_names (P := P) (w := w) (mg := mg) (base := base) D_found_names (F_beneath := F_beneath)
  have F_found_names : Fn P w K mg base 7 "found_names" ["house", "user", "path", "name"] (sp_found_names K) := ⟨⟨_, fd_found_names, (He.glo_ok X G (c.fact 90 rfl)), K_found_names, D_found_names.bindsN fun _ _ _ _ _ _ us hl => match us, hl with | [_, _, _, _], _ => rfl, D_found_names.kp⟩⟩
  have K_is_same := ok_is_same (P := P) (w := w) (mg := mg) (base := base) D_is_same (F_World_look_user := F_World_look_user) (F_World_end_ofD := F_World_end_ofD)
  have F_is_same : Fn P w K mg base 6 "is_same" ["house", "user", "one", "other"] (sp_is_same K) := ⟨⟨_, fd_is_same, (He.glo_ok X G (c.fact 91 rfl)), K_is_same, D_is_same.bindsN fun _ _ _ _ _ _ us hl => match us, hl with | [_, _, _, _], _ => rfl, D_is_same.kp⟩⟩
  have K_names_in := ok_names_in (P := P) (w := w) (mg := mg) (base := base) D_names_in (F_World_look_user := F_World_look_user) (F_World_room_of := F_World_room_of) (CK := CK) (c_SEE := (He.int_ok X G (c.fact 65 rfl))) (F_World_look_right := F_World_look_right) (b_sorted := (He.free_ok X G (c.fact 76 rfl)))
  have F_names_in : Fn P w K mg base 6 "names_in" ["house", "user", "path"] (sp_names_in K) := ⟨⟨_, fd_names_in, (He.glo_ok X G (c.fact 92 rfl)), K_names_in, D_names_in.bindsN fun _ _ _ _ _ _ us hl => match us, hl with | [_, _, _], _ => rfl, D_names_in.kp⟩⟩
  have K_House_named := ok_House_named (P := P) (w := w) (mg := mg) (base := base) D_House_named (F_House_place_for := F_House_place_for) (CK := CK) (R_NoName := R_NoName)
  have F_House_named : Mt P w K mg base 7 (cHouse K) "named" ["self", "user", "path"] [] (sp_named K) := ⟨⟨_, fd_House_named, [], CK.h, (He.meth_ok (c.fact 93 rfl)), K_House_named, (D_House_named.bindsN fun _ _ _ _ _ _ us hl => match us, hl with | [_, _, _], _ => rfl), .nil⟩⟩
  have K_remove_all := ok_remove_all (P := P) (w := w) (mg := mg) (base := base) D_remove_all (F_World_look_user := F_World_look_user) (F_House_named := F_House_named) (F_look_free := F_look_free) (c_CHANGE := (He.int_ok X G (c.fact 34 rfl))) (c_PASS := (He.int_ok X G (c.fact 22 rfl))) (CK := CK) (b_len := (He.free_ok X G (c.fact 10 rfl))) (b_list := (He.free_ok X G (c.fact 31 rfl)))
  have F_remove_all : Fn P w K mg base 8 "remove_all" ["house", "user", "path"] (sp_remove_all K) := ⟨⟨_, fd_remove_all, (He.glo_ok X G (c.fact 94 rfl)), K_remove_all, D_remove_all.bindsN fun _ _ _ _ _ _ us hl => match us, hl with | [_, _, _], _ => rfl, D_remove_all.kp⟩⟩
  exact ok_law D_law (F_law_town := F_law_town) (M_House := M_House) (F_House_make_room := F_House_make_room) (F_law_pick := F_law_pick) (F_House_make_leaf := F_House_make_leaf) (F_found_names := F_found_names) (F_House_link := F_House_link) (F_House_make_hint := F_House_make_hint) (F_copy_room := F_copy_room) (F_count_of := F_count_of) (F_House_read := F_House_read) (F_is_same := F_is_same) (F_beneath := F_beneath) (F_law_draw := F_law_draw) (F_House_write := F_House_write) (F_about := F_about) (F_remove_all := F_remove_all) (F_names_in := F_names_in)
end Tm
open PySem PySem.W PySem.Calls PyProof.Rows
theorem PySem.Challenge.cw_treemounts_k24_whole_apart_holds : PySem.Challenge.rw_treemounts_k24_whole_apart.Holds := by
  w_on; o_law
  refine HandSHeadRun.head_any (r := OpenLaw.row PySem.Challenge.rw_treemounts_k24_whole_apart) (q := view (OpenLaw.row PySem.Challenge.rw_treemounts_k24_whole_apart).prog [61]) (H := Tm.hk) (ob := Tm.ob) (M := 20000) (loose := Tm.names) (d := HandSHeadRun.topDef (OpenLaw.row PySem.Challenge.rw_treemounts_k24_whole_apart).prog 61) (kwd := []) Tm.ob_eq
    (by kernel_rfl) (fun s => by kernel_rfl) Tm.run (by kernel_rfl) (by kernel_rfl) (by kernel_rfl) (by rfl) (by first | assumption | decide +kernel) (by decide +kernel) ⟨rfl, rfl, rfl, rfl, rfl, by decide +kernel⟩ ?hw ?hc
  case hw => w_witness2
  case hc =>
    refine Tm.walk_fin (l := PySem.Challenge.rw_treemounts_k24_whole_apart) (n := 63) (k := 19) (x := "script") rfl (by decide) (by kernel_rfl) ⟨rfl, by decide, by decide⟩ ?F
    intro w mg fa h Y G hmg0
    obtain ⟨K, KX, c, cm⟩ := Y
    have hmg : mg ("law" : PySem.Str) = some (.ref fa) := by
      have e : (HandSHeadRun.topDef (OpenLaw.row PySem.Challenge.rw_treemounts_k24_whole_apart).prog 61).name = ("law" : PySem.Str) := by kernel_rfl
      rw [← e]
      exact hmg0
    exact ⟨K, Tm.sp_law K, KX, fun H a ns hl hS => ⟨a, ns, rfl, hS, hl, fun _ => rfl⟩, Tm.facts KX G hmg c cm⟩
#print axioms PySem.Challenge.cw_treemounts_k24_whole_apart_holds
