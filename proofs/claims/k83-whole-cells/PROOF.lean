import PyProof.Rows.All
import Wide.All
import OpenK.AllK
import Wide.FinOn
import HandS.ForMost
import HandS.Codes
import HandS.Conv
import HandS.Deep
import HandS.IsInst
import HandS.TupSets
import HandS.Style
import HandS.NoneIn
import HandS.Star
import HandS.MakeKwOnly
import HandS.ClsMeth
import HandS.CallLocal
import HandS.WideBits
import HandS.Strs
import HandS.EndBits
import HandS.Flow
import HandS.TryOnly
import KE.SortData
import KE.KxAffix
import HandS.HeadHook3
import HandS.HeadNt
import KE.KStar
import KE.KDictZip
import HandS.Zip0
import HandS.DictTup
import HandS.DictComp
import KE.DatumIndex
import PyProof.Rows.SetFrom
import KE.KStateDown
import HandS.Head0
import HandS.Head1
import HandS.Head2
import HandS.HeadEnd
import HandS.HeadHook1
import HandS.HeadHook2
import Wide.Once
import PySem.Challenge.RW_squareloops_k83_whole_cells_of_one_kind
set_option Elab.async false
set_option linter.all false
set_option maxRecDepth 100000
set_option maxHeartbeats 4000000
namespace Sq
open PySem PySem.Spec PyProof.Rows L2 He He5
def topS (i : Nat) : Stmt := PySem.Challenge.pw_squareloops_k83_whole_cells_of_one_kind.main.body.getD i (.Pass ⟨0, 0, 0, 0⟩)
abbrev s_bound_value : Stmt := topS 4
abbrev s_is_bound : Stmt := topS 5
abbrev s_is_loop : Stmt := topS 6
abbrev s_goes_down : Stmt := topS 7
abbrev s_loop_range : Stmt := topS 8
abbrev s_in_loop : Stmt := topS 9
abbrev s_is_guard : Stmt := topS 22
abbrev s_parsed_deed : Stmt := topS 23
abbrev s_number_of : Stmt := topS 24
abbrev s_place_cell : Stmt := topS 25
abbrev s_holds : Stmt := topS 26
abbrev s_do_deed : Stmt := topS 27
abbrev s_Deed___init : Stmt := inClass (topS 21) 0
abbrev s_is_integer : Stmt := topS 44
abbrev s_within : Stmt := topS 45
abbrev s_is_cell : Stmt := topS 47
abbrev s_check_size : Stmt := topS 50
abbrev s_check_cell : Stmt := topS 51
abbrev s_images_of : Stmt := topS 55
abbrev s_images : Stmt := topS 56
abbrev s_found_kind : Stmt := topS 57
abbrev s_kind_of : Stmt := topS 58
abbrev s_least_size : Stmt := topS 59
abbrev s_corner : Stmt := topS 60
abbrev s_falls_at : Stmt := topS 64
abbrev s_orbit_rounds : Stmt := topS 65
abbrev s_starts : Stmt := topS 66
abbrev s_meet_rows : Stmt := topS 67
abbrev s_join_rows : Stmt := topS 68
abbrev s_moves_from : Stmt := topS 69
abbrev s_effect_on : Stmt := topS 70
abbrev s_bits_of : Stmt := topS 71
abbrev s_least_contents : Stmt := topS 72
abbrev s_Nest___init : Stmt := inClass (topS 76) 0
abbrev s_Program___init : Stmt := inClass (topS 77) 0
abbrev s_Program_read : Stmt := inClass (topS 77) 1
abbrev s_check_program : Stmt := topS 78
abbrev s_read_nests : Stmt := topS 80
abbrev s_read_nest : Stmt := topS 81
abbrev s_check_listed : Stmt := topS 84
abbrev s_check_tail : Stmt := topS 85
abbrev s_tail_from : Stmt := topS 86
abbrev s_goes_on : Stmt := topS 87
abbrev s_Sizes___init : Stmt := inClass (topS 88) 0
abbrev s_Sizes___contains : Stmt := inClass (topS 88) 5
abbrev s_sizes_where : Stmt := topS 91
abbrev s_Action___init : Stmt := inClass (topS 95) 0
abbrev s_Action_of : Stmt := inClass (topS 95) 1
abbrev s_Action_result : Stmt := inClass (topS 95) 5
abbrev s_Action_reaches : Stmt := inClass (topS 95) 6
abbrev s_reached_bits : Stmt := topS 97
abbrev s_law_purl : Stmt := topS 99
abbrev s_law_dig : Stmt := topS 100
abbrev s_law_spots : Stmt := topS 101
abbrev s_law_cells : Stmt := topS 102
abbrev s_law_orbit : Stmt := topS 103
abbrev s_law_end : Stmt := topS 104
abbrev s_law_endtext : Stmt := topS 105
abbrev s_law_loop : Stmt := topS 106
abbrev s_law_looptext : Stmt := topS 107
abbrev s_law_deed : Stmt := topS 108
abbrev s_law_deedtext : Stmt := topS 109
abbrev s_law_nest : Stmt := topS 110
abbrev s_law_plan : Stmt := topS 111
abbrev s_law_text : Stmt := topS 112
abbrev s_law_steps : Stmt := topS 113
abbrev s_law_turns : Stmt := topS 114
abbrev s_law_out : Stmt := topS 115
abbrev s_law_outfar : Stmt := topS 116
abbrev s_law_far : Stmt := topS 117
abbrev s_law_spot : Stmt := topS 118
abbrev s_law_sort : Stmt := topS 119
abbrev s_law_letters : Stmt := topS 120
abbrev s_law_led : Stmt := topS 121
abbrev s_law_right : Stmt := topS 122
abbrev s_law : Stmt := topS 123
abbrev Kd := Int × Int × Int
def endText (n : Nat) : Str := match n with
  | 0 => "-1" | 1 => "0" | 2 => "1" | 3 => "n//2-1" | 4 => "n//2" | 5 => "n//2+1" | 6 => "(n+1)//2-1" | 7 => "(n+1)//2" | 8 => "(n+1)//2+1"
  | 9 => "n-1" | 10 => "n" | 11 => "n+1" | 12 => "i-1" | 13 => "i" | 14 => "i+1" | 15 => "n-i-1" | 16 => "n-i" | 17 => "n-i+1" | _ => ""
def baseText (b : Nat) : Str := match b with
  | 0 => "0" | 1 => "n//2" | 2 => "(n+1)//2" | 3 => "n" | 4 => "i" | 5 => "n-i" | _ => ""
def wordText (k : Nat) : Str := match k with | 0 => "swap" | 1 => "copy" | 2 => "order" | 3 => "turn" | _ => ""
def few (k : Nat) : Nat := if k = 3 then 3 else 2
def most (k : Nat) : Nat := if k = 3 then 8 else 2
def numText (k : Nat) : Str := match k with | 0 => "i" | 1 => "j" | 2 => "~i" | 3 => "~j" | _ => ""
def signText (k : Nat) : Str := match k with | 0 => "<" | 1 => "<=" | 2 => "==" | 3 => "!=" | _ => ""
def spotText (k : Nat) : Str := match k with | 0 => "i,j" | 1 => "j,i" | 2 => "i,~j" | 3 => "~j,i" | 4 => "~i,j" | 5 => "j,~i" | 6 => "~i,~j" | 7 => "~j,~i" | _ => ""
/-- the kinds -/
def kinds : List Kd := (List.range 24).map fun i => (((i / 12 : Nat) : Int), ((i / 4 % 3 : Nat) : Int), ((i % 4 : Nat) : Int))
/-- a tuple at a place -/
def tupAt (K : PySem.W.Frag) (a : Addr) (vs : List V) : Bool := match K.lookup a with
  | some ⟨.type c, _, .seq its _, _⟩ => decide (c = "tuple") && (decide (its.size ≤ sizeLine) && relAll vs its.toList)
  | _ => false
/-- a table's value at a key: a tuple, a plain value; a key that is not there -/
def kixT (K : PySem.W.Frag) (d : Addr) (x : Str) (vs : List V) : Bool := match PySem.W.nsIn K d x with
  | some (some (.ref t)) => tupAt K t vs
  | _ => false
def kixV (K : PySem.W.Frag) (d : Addr) (x : Str) (v : V) : Bool := match PySem.W.nsIn K d x with
  | some (some u) => relB v u
  | _ => false
/-- the kinds -/
def allKd (K : PySem.W.Frag) : List Kd → List Value → Bool
  | [], [] => true
  | k :: ks, .ref a :: us => tupAt K a [.int k.1, .int k.2.1, .int k.2.2] && allKd K ks us
  | _, _ => false
def kindsB (K : PySem.W.Frag) : Bool := match K.lookup (ga K "KINDS") with
  | some ⟨.type c, _, .seq its _, _⟩ => decide (c = "tuple") && (decide (its.size ≤ sizeLine) && allKd K kinds its.toList)
  | _ => false
/-- isinstance of a class; what is read off it; a classmethod -/
def insB (K : PySem.W.Frag) (C : Addr) : Bool := eqO (PySem.W.findIn K (.ref C) "__class__") (some (some (.builtin "object.__class__"))) && (eqO (PySem.W.specialIn K (.builtin "object.__class__") "__get__") (some (some (.builtin "getset_descriptor.__get__"))) &&
  (decide (PySem.W.takesIn K (.builtin "object.__class__") = some true) && (decide (PySem.W.mroIn K C (.type "object") = some true) && decide (PySem.W.kitOne K (.ref C) (.ref C) = some true))))
def creB (K : PySem.W.Frag) (C : Addr) : Bool := PySem.W.readsIn K C (.type "type") && eqO (PySem.W.specialIn K (.ref C) "__getattribute__") (some (some (.builtin "type.__getattribute__")))
def cmeB (K : PySem.W.Frag) (C : Addr) (m : Str) : Bool := wrapB K C "classmethod" "classmethod.__get__" m && PySem.W.fnIn K (wf K C "classmethod" m)
abbrev XFa : Type := PySem.W.Frag → Bool
def obsS (fa : List Fa) (fn : List DefA) (ts : List Tab) (xs : List XFa) (K : PySem.W.Frag) : AlT := (((fa.all fun f => f.ok K) && ((fn.all fun d => d.ok K) && xs.all fun f => f K), fn.map fun d => fnA K (d.at_ K)), ts.map fun t => dicW K (t.1 K))
def valS (fn : List DefA) (ts : List Tab) (w : World) : AlT := ((true, fn.map DefA.val), ts.map fun t => some (keysIn w.params t.2))
def SaysS (fa : List Fa) (fn : List DefA) (ts : List Tab) (xs : List XFa) (w : World) (K : PySem.W.Frag) : Prop := obsS fa fn ts xs K = valS fn ts w
/-- what the names reach -/
def hdV : List Value → List Addr
  | .ref a :: _ => [a]
  | _ => []
def refsS (o : Obj) : List Addr := match o.data with
  | .seq its _ => its.toList.flatMap refV
  | .dict es _ => es.toList.flatMap fun e => refV e.val
  | .func fd => refV fd.code ++ (refV fd.defaults ++ refV fd.kwdefaults)
  | .cls cd => [cd.ns]
  | .fields vs => hdV vs.toList
  | _ => []
def nextS (g : Addr → Option Obj) (as : List Addr) : List Addr := as.flatMap fun a => match g a with
  | some o => refsS o
  | none => []
def goS (g : Addr → Option Obj) : Nat → List Addr → List Addr
  | 0, as => as
  | n + 1, as => as ++ goS g n (nextS g as)
def asS (g : Addr → Option Obj) (n : Nat) : List Addr := goS g n [mainGlobals] ++ [cStatics]
def obsSG (n : Nat) (fa : List Fa) (fn : List DefA) (ts : List Tab) (xs : List XFa) (g : Addr → Option Obj) : AlT := obsS fa fn ts xs (frG g (asS g n))
def hookS (n : Nat) (fa : List Fa) (fn : List DefA) (ts : List Tab) (xs : List XFa) : PySem.W.Hook where
  α := AlT
  obs := fun s => obsSG n fa fn ts xs s.heap.get?
  val := fun w => valS fn ts w
  says := fun w h => ∃ K : PySem.W.Frag, K.In h ∧ SaysS fa fn ts xs w K
  of := fun _ _ e => ⟨_, frG_in, e⟩
  keeps := fun _ _ _ ⟨K, hK, c⟩ k => ⟨K, PySem.W.Frag.In.keeps hK k, c⟩
theorem obsSG_eq {n : Nat} {fa : List Fa} {fn : List DefA} {ts : List Tab} {xs : List XFa} {g : Addr → Option Obj} {s : Shared} (h : ∀ a, g a = s.heap.get? a) : obsSG n fa fn ts xs g = (hookS n fa fn ts xs).obs s := by
  have e : g = s.heap.get? := funext h
  rw [e] <;> rfl
end Sq
set_option maxHeartbeats 0
/-! Sq, part K2: the head's run. -/
namespace Sq
open PySem PySem.Spec PyProof.Rows L2 He He5
def d_bound_value : DefA := ⟨fun K => ga K "bound_value", "bound_value", "bound_value", defArgs s_bound_value, defBody s_bound_value, defScope s_bound_value, [], []⟩
def d_is_bound : DefA := ⟨fun K => ga K "is_bound", "is_bound", "is_bound", defArgs s_is_bound, defBody s_is_bound, defScope s_is_bound, [], []⟩
def d_is_loop : DefA := ⟨fun K => ga K "is_loop", "is_loop", "is_loop", defArgs s_is_loop, defBody s_is_loop, defScope s_is_loop, [], []⟩
def d_goes_down : DefA := ⟨fun K => ga K "goes_down", "goes_down", "goes_down", defArgs s_goes_down, defBody s_goes_down, defScope s_goes_down, [], []⟩
def d_loop_range : DefA := ⟨fun K => ga K "loop_range", "loop_range", "loop_range", defArgs s_loop_range, defBody s_loop_range, defScope s_loop_range, [], []⟩
def d_in_loop : DefA := ⟨fun K => ga K "in_loop", "in_loop", "in_loop", defArgs s_in_loop, defBody s_in_loop, defScope s_in_loop, [], []⟩
def d_is_guard : DefA := ⟨fun K => ga K "is_guard", "is_guard", "is_guard", defArgs s_is_guard, defBody s_is_guard, defScope s_is_guard, [], []⟩
def d_parsed_deed : DefA := ⟨fun K => ga K "parsed_deed", "parsed_deed", "parsed_deed", defArgs s_parsed_deed, defBody s_parsed_deed, defScope s_parsed_deed, [], []⟩
def d_number_of : DefA := ⟨fun K => ga K "number_of", "number_of", "number_of", defArgs s_number_of, defBody s_number_of, defScope s_number_of, [], []⟩
def d_place_cell : DefA := ⟨fun K => ga K "place_cell", "place_cell", "place_cell", defArgs s_place_cell, defBody s_place_cell, defScope s_place_cell, [], []⟩
def d_holds : DefA := ⟨fun K => ga K "holds", "holds", "holds", defArgs s_holds, defBody s_holds, defScope s_holds, [], []⟩
def d_do_deed : DefA := ⟨fun K => ga K "do_deed", "do_deed", "do_deed", defArgs s_do_deed, defBody s_do_deed, defScope s_do_deed, [], []⟩
def d_Deed___init : DefA := ⟨fun K => ma K (ga K "Deed") "__init__", "__init__", "Deed.__init__", defArgs s_Deed___init, defBody s_Deed___init, defScope s_Deed___init, [], []⟩
def d_is_integer : DefA := ⟨fun K => ga K "is_integer", "is_integer", "is_integer", defArgs s_is_integer, defBody s_is_integer, defScope s_is_integer, [], []⟩
def d_within : DefA := ⟨fun K => ga K "within", "within", "within", defArgs s_within, defBody s_within, defScope s_within, [], []⟩
def d_is_cell : DefA := ⟨fun K => ga K "is_cell", "is_cell", "is_cell", defArgs s_is_cell, defBody s_is_cell, defScope s_is_cell, [], []⟩
def d_check_size : DefA := ⟨fun K => ga K "check_size", "check_size", "check_size", defArgs s_check_size, defBody s_check_size, defScope s_check_size, [], []⟩
def d_check_cell : DefA := ⟨fun K => ga K "check_cell", "check_cell", "check_cell", defArgs s_check_cell, defBody s_check_cell, defScope s_check_cell, [], []⟩
def d_images_of : DefA := ⟨fun K => ga K "images_of", "images_of", "images_of", defArgs s_images_of, defBody s_images_of, defScope s_images_of, [], []⟩
def d_images : DefA := ⟨fun K => ga K "images", "images", "images", defArgs s_images, defBody s_images, defScope s_images, [], []⟩
def d_found_kind : DefA := ⟨fun K => ga K "found_kind", "found_kind", "found_kind", defArgs s_found_kind, defBody s_found_kind, defScope s_found_kind, [], []⟩
def d_kind_of : DefA := ⟨fun K => ga K "kind_of", "kind_of", "kind_of", defArgs s_kind_of, defBody s_kind_of, defScope s_kind_of, [], []⟩
def d_least_size : DefA := ⟨fun K => ga K "least_size", "least_size", "least_size", defArgs s_least_size, defBody s_least_size, defScope s_least_size, [], []⟩
def d_corner : DefA := ⟨fun K => ga K "corner", "corner", "corner", defArgs s_corner, defBody s_corner, defScope s_corner, [], []⟩
def d_falls_at : DefA := ⟨fun K => ga K "falls_at", "falls_at", "falls_at", defArgs s_falls_at, defBody s_falls_at, defScope s_falls_at, [], []⟩
def d_orbit_rounds : DefA := ⟨fun K => ga K "orbit_rounds", "orbit_rounds", "orbit_rounds", defArgs s_orbit_rounds, defBody s_orbit_rounds, defScope s_orbit_rounds, [], []⟩
def d_starts : DefA := ⟨fun K => ga K "starts", "starts", "starts", defArgs s_starts, defBody s_starts, defScope s_starts, [], []⟩
def d_meet_rows : DefA := ⟨fun K => ga K "meet_rows", "meet_rows", "meet_rows", defArgs s_meet_rows, defBody s_meet_rows, defScope s_meet_rows, [], []⟩
def d_join_rows : DefA := ⟨fun K => ga K "join_rows", "join_rows", "join_rows", defArgs s_join_rows, defBody s_join_rows, defScope s_join_rows, [], []⟩
def d_moves_from : DefA := ⟨fun K => ga K "moves_from", "moves_from", "moves_from", defArgs s_moves_from, defBody s_moves_from, defScope s_moves_from, [], []⟩
def d_effect_on : DefA := ⟨fun K => ga K "effect_on", "effect_on", "effect_on", defArgs s_effect_on, defBody s_effect_on, defScope s_effect_on, [], []⟩
def d_bits_of : DefA := ⟨fun K => ga K "bits_of", "bits_of", "bits_of", defArgs s_bits_of, defBody s_bits_of, defScope s_bits_of, [], []⟩
def d_least_contents : DefA := ⟨fun K => ga K "least_contents", "least_contents", "least_contents", defArgs s_least_contents, defBody s_least_contents, defScope s_least_contents, [], []⟩
def d_Nest___init : DefA := ⟨fun K => ma K (ga K "Nest") "__init__", "__init__", "Nest.__init__", defArgs s_Nest___init, defBody s_Nest___init, defScope s_Nest___init, [], []⟩
def d_Program___init : DefA := ⟨fun K => ma K (ga K "Program") "__init__", "__init__", "Program.__init__", defArgs s_Program___init, defBody s_Program___init, defScope s_Program___init, [], []⟩
def d_Program_read : DefA := ⟨fun K => wf K (ga K "Program") "classmethod" "read", "read", "Program.read", defArgs s_Program_read, defBody s_Program_read, defScope s_Program_read, [], []⟩
def d_check_program : DefA := ⟨fun K => ga K "check_program", "check_program", "check_program", defArgs s_check_program, defBody s_check_program, defScope s_check_program, [], []⟩
def d_read_nests : DefA := ⟨fun K => ga K "read_nests", "read_nests", "read_nests", defArgs s_read_nests, defBody s_read_nests, defScope s_read_nests, [], []⟩
def d_read_nest : DefA := ⟨fun K => ga K "read_nest", "read_nest", "read_nest", defArgs s_read_nest, defBody s_read_nest, defScope s_read_nest, [], []⟩
def d_check_listed : DefA := ⟨fun K => ga K "check_listed", "check_listed", "check_listed", defArgs s_check_listed, defBody s_check_listed, defScope s_check_listed, [], []⟩
def d_check_tail : DefA := ⟨fun K => ga K "check_tail", "check_tail", "check_tail", defArgs s_check_tail, defBody s_check_tail, defScope s_check_tail, [], []⟩
def d_tail_from : DefA := ⟨fun K => ga K "tail_from", "tail_from", "tail_from", defArgs s_tail_from, defBody s_tail_from, defScope s_tail_from, [], []⟩
def d_goes_on : DefA := ⟨fun K => ga K "goes_on", "goes_on", "goes_on", defArgs s_goes_on, defBody s_goes_on, defScope s_goes_on, [], []⟩
def d_Sizes___init : DefA := ⟨fun K => ma K (ga K "Sizes") "__init__", "__init__", "Sizes.__init__", defArgs s_Sizes___init, defBody s_Sizes___init, defScope s_Sizes___init, [.adr (dflAt ("Sizes", some "__init__") 0)], [("even", .non), ("odd", .non), ("most", .int 200)]⟩
def d_Sizes___contains : DefA := ⟨fun K => ma K (ga K "Sizes") "__contains__", "__contains__", "Sizes.__contains__", defArgs s_Sizes___contains, defBody s_Sizes___contains, defScope s_Sizes___contains, [], []⟩
def d_sizes_where : DefA := ⟨fun K => ga K "sizes_where", "sizes_where", "sizes_where", defArgs s_sizes_where, defBody s_sizes_where, defScope s_sizes_where, [], []⟩
def d_Action___init : DefA := ⟨fun K => ma K (ga K "Action") "__init__", "__init__", "Action.__init__", defArgs s_Action___init, defBody s_Action___init, defScope s_Action___init, [], []⟩
def d_Action_of : DefA := ⟨fun K => wf K (ga K "Action") "classmethod" "of", "of", "Action.of", defArgs s_Action_of, defBody s_Action_of, defScope s_Action_of, [], []⟩
def d_Action_result : DefA := ⟨fun K => ma K (ga K "Action") "result", "result", "Action.result", defArgs s_Action_result, defBody s_Action_result, defScope s_Action_result, [], []⟩
def d_Action_reaches : DefA := ⟨fun K => ma K (ga K "Action") "reaches", "reaches", "Action.reaches", defArgs s_Action_reaches, defBody s_Action_reaches, defScope s_Action_reaches, [], []⟩
def d_reached_bits : DefA := ⟨fun K => ga K "reached_bits", "reached_bits", "reached_bits", defArgs s_reached_bits, defBody s_reached_bits, defScope s_reached_bits, [], []⟩
def d_law_purl : DefA := ⟨fun K => ga K "_law_purl", "_law_purl", "_law_purl", defArgs s_law_purl, defBody s_law_purl, defScope s_law_purl, [], []⟩
def d_law_dig : DefA := ⟨fun K => ga K "_law_dig", "_law_dig", "_law_dig", defArgs s_law_dig, defBody s_law_dig, defScope s_law_dig, [], []⟩
def d_law_spots : DefA := ⟨fun K => ga K "_law_spots", "_law_spots", "_law_spots", defArgs s_law_spots, defBody s_law_spots, defScope s_law_spots, [], []⟩
def d_law_cells : DefA := ⟨fun K => ga K "_law_cells", "_law_cells", "_law_cells", defArgs s_law_cells, defBody s_law_cells, defScope s_law_cells, [], []⟩
def d_law_orbit : DefA := ⟨fun K => ga K "_law_orbit", "_law_orbit", "_law_orbit", defArgs s_law_orbit, defBody s_law_orbit, defScope s_law_orbit, [], []⟩
def d_law_end : DefA := ⟨fun K => ga K "_law_end", "_law_end", "_law_end", defArgs s_law_end, defBody s_law_end, defScope s_law_end, [], []⟩
def d_law_endtext : DefA := ⟨fun K => ga K "_law_endtext", "_law_endtext", "_law_endtext", defArgs s_law_endtext, defBody s_law_endtext, defScope s_law_endtext, [], []⟩
def d_law_loop : DefA := ⟨fun K => ga K "_law_loop", "_law_loop", "_law_loop", defArgs s_law_loop, defBody s_law_loop, defScope s_law_loop, [], []⟩
def d_law_looptext : DefA := ⟨fun K => ga K "_law_looptext", "_law_looptext", "_law_looptext", defArgs s_law_looptext, defBody s_law_looptext, defScope s_law_looptext, [], []⟩
def d_law_deed : DefA := ⟨fun K => ga K "_law_deed", "_law_deed", "_law_deed", defArgs s_law_deed, defBody s_law_deed, defScope s_law_deed, [], []⟩
def d_law_deedtext : DefA := ⟨fun K => ga K "_law_deedtext", "_law_deedtext", "_law_deedtext", defArgs s_law_deedtext, defBody s_law_deedtext, defScope s_law_deedtext, [], []⟩
def d_law_nest : DefA := ⟨fun K => ga K "_law_nest", "_law_nest", "_law_nest", defArgs s_law_nest, defBody s_law_nest, defScope s_law_nest, [], []⟩
def d_law_plan : DefA := ⟨fun K => ga K "_law_plan", "_law_plan", "_law_plan", defArgs s_law_plan, defBody s_law_plan, defScope s_law_plan, [], []⟩
def d_law_text : DefA := ⟨fun K => ga K "_law_text", "_law_text", "_law_text", defArgs s_law_text, defBody s_law_text, defScope s_law_text, [], []⟩
def d_law_steps : DefA := ⟨fun K => ga K "_law_steps", "_law_steps", "_law_steps", defArgs s_law_steps, defBody s_law_steps, defScope s_law_steps, [], []⟩
def d_law_turns : DefA := ⟨fun K => ga K "_law_turns", "_law_turns", "_law_turns", defArgs s_law_turns, defBody s_law_turns, defScope s_law_turns, [], []⟩
def d_law_out : DefA := ⟨fun K => ga K "_law_out", "_law_out", "_law_out", defArgs s_law_out, defBody s_law_out, defScope s_law_out, [], []⟩
def d_law_outfar : DefA := ⟨fun K => ga K "_law_outfar", "_law_outfar", "_law_outfar", defArgs s_law_outfar, defBody s_law_outfar, defScope s_law_outfar, [], []⟩
def d_law_far : DefA := ⟨fun K => ga K "_law_far", "_law_far", "_law_far", defArgs s_law_far, defBody s_law_far, defScope s_law_far, [], []⟩
def d_law_spot : DefA := ⟨fun K => ga K "_law_spot", "_law_spot", "_law_spot", defArgs s_law_spot, defBody s_law_spot, defScope s_law_spot, [], []⟩
def d_law_sort : DefA := ⟨fun K => ga K "_law_sort", "_law_sort", "_law_sort", defArgs s_law_sort, defBody s_law_sort, defScope s_law_sort, [], []⟩
def d_law_letters : DefA := ⟨fun K => ga K "_law_letters", "_law_letters", "_law_letters", defArgs s_law_letters, defBody s_law_letters, defScope s_law_letters, [], []⟩
def d_law_led : DefA := ⟨fun K => ga K "_law_led", "_law_led", "_law_led", defArgs s_law_led, defBody s_law_led, defScope s_law_led, [], []⟩
def d_law_right : DefA := ⟨fun K => ga K "_law_right", "_law_right", "_law_right", defArgs s_law_right, defBody s_law_right, defScope s_law_right, [], []⟩
def d_law : DefA := ⟨fun K => ga K "law", "law", "law", defArgs s_law, defBody s_law, defScope s_law, [], []⟩
def sqFa0 : List Fa := [.free "len",
  .free "range",
  .free "int",
  .free "bool",
  .free "abs",
  .free "min",
  .free "max",
  .free "sorted",
  .free "tuple",
  .free "list",
  .free "set",
  .free "dict",
  .free "zip",
  .free "isinstance",
  .free "divmod",
  .free "str",
  .free "sum",
  .free "any",
  .free "all",
  .free "enumerate",
  .int "MOST_SIZE" (10 ^ 30),
  .int "MOST_NESTS" 4,
  .int "MOST_DEEDS" 6,
  .int "DECIDING" 11,
  .str "OUTER_HEAD" "i from "]
def sqFa1 : List Fa := [.str "INNER_HEAD" "j from ",
  .glo "OUTER",
  .glo "INNER",
  .glo "FEWEST",
  .glo "MOST",
  .glo "PLACES",
  .glo "NUMBERS",
  .glo "SIGNS",
  .glo "KINDS",
  .glo "Deed",
  .glo "Nest",
  .glo "Program",
  .glo "Sizes",
  .glo "Action",
  .glo "bound_value",
  .glo "is_bound",
  .glo "is_loop",
  .glo "goes_down",
  .glo "loop_range",
  .glo "in_loop",
  .glo "is_guard",
  .glo "parsed_deed",
  .glo "number_of",
  .glo "place_cell",
  .glo "holds"]
def sqFa2 : List Fa := [.glo "do_deed",
  .glo "is_integer",
  .glo "within",
  .glo "is_cell",
  .glo "check_size",
  .glo "check_cell",
  .glo "images_of",
  .glo "images",
  .glo "found_kind",
  .glo "kind_of",
  .glo "least_size",
  .glo "corner",
  .glo "falls_at",
  .glo "orbit_rounds",
  .glo "starts",
  .glo "meet_rows",
  .glo "join_rows",
  .glo "moves_from",
  .glo "effect_on",
  .glo "bits_of",
  .glo "least_contents",
  .glo "check_program",
  .glo "read_nests",
  .glo "read_nest",
  .glo "check_listed"]
def sqFa3 : List Fa := [.glo "check_tail",
  .glo "tail_from",
  .glo "goes_on",
  .glo "sizes_where",
  .glo "reached_bits",
  .glo "_law_purl",
  .glo "_law_dig",
  .glo "_law_spots",
  .glo "_law_cells",
  .glo "_law_orbit",
  .glo "_law_end",
  .glo "_law_endtext",
  .glo "_law_loop",
  .glo "_law_looptext",
  .glo "_law_deed",
  .glo "_law_deedtext",
  .glo "_law_nest",
  .glo "_law_plan",
  .glo "_law_text",
  .glo "_law_steps",
  .glo "_law_turns",
  .glo "_law_out",
  .glo "_law_outfar",
  .glo "_law_far",
  .glo "_law_spot"]
def sqFa4 : List Fa := [.glo "_law_sort",
  .glo "_law_letters",
  .glo "_law_led",
  .glo "_law_right",
  .glo "law",
  .cls "Deed",
  .noat "Deed" "word",
  .noat "Deed" "spots",
  .noat "Deed" "guard",
  .mkr "Deed",
  .cls "Nest",
  .noat "Nest" "over",
  .noat "Nest" "below",
  .noat "Nest" "texts",
  .noat "Nest" "parsed",
  .mkr "Nest",
  .cls "Program",
  .noat "Program" "parts",
  .mkr "Program",
  .cls "Sizes",
  .noat "Sizes" "tails",
  .noat "Sizes" "few",
  .mkr "Sizes",
  .cls "Action",
  .noat "Action" "moves"]
def sqFa5 : List Fa := [.noat "Action" "gaps",
  .mkr "Action",
  .meth "Sizes" "__contains__",
  .meth "Action" "result",
  .meth "Action" "reaches"]
def sqFa : List Fa := sqFa0 ++ (sqFa1 ++ (sqFa2 ++ (sqFa3 ++ (sqFa4 ++ (sqFa5)))))
def sqFn0 : List DefA := [d_bound_value,
  d_is_bound,
  d_is_loop,
  d_goes_down,
  d_loop_range,
  d_in_loop,
  d_is_guard,
  d_parsed_deed,
  d_number_of,
  d_place_cell,
  d_holds,
  d_do_deed,
  d_Deed___init,
  d_is_integer,
  d_within,
  d_is_cell,
  d_check_size,
  d_check_cell,
  d_images_of,
  d_images,
  d_found_kind,
  d_kind_of,
  d_least_size,
  d_corner,
  d_falls_at]
def sqFn1 : List DefA := [d_orbit_rounds,
  d_starts,
  d_meet_rows,
  d_join_rows,
  d_moves_from,
  d_effect_on,
  d_bits_of,
  d_least_contents,
  d_Nest___init,
  d_Program___init,
  d_Program_read,
  d_check_program,
  d_read_nests,
  d_read_nest,
  d_check_listed,
  d_check_tail,
  d_tail_from,
  d_goes_on,
  d_Sizes___init,
  d_Sizes___contains,
  d_sizes_where,
  d_Action___init,
  d_Action_of,
  d_Action_result,
  d_Action_reaches]
def sqFn2 : List DefA := [d_reached_bits,
  d_law_purl,
  d_law_dig,
  d_law_spots,
  d_law_cells,
  d_law_orbit,
  d_law_end,
  d_law_endtext,
  d_law_loop,
  d_law_looptext,
  d_law_deed,
  d_law_deedtext,
  d_law_nest,
  d_law_plan,
  d_law_text,
  d_law_steps,
  d_law_turns,
  d_law_out,
  d_law_outfar,
  d_law_far,
  d_law_spot,
  d_law_sort,
  d_law_letters,
  d_law_led,
  d_law_right]
def sqFn3 : List DefA := [d_law]
def sqFn : List DefA := sqFn0 ++ (sqFn1 ++ (sqFn2 ++ (sqFn3)))
def sqTs : List Tab := [(fun K => ga K "OUTER", ["-1", "0", "1", "n-1", "n", "n+1", "n//2-1", "n//2", "n//2+1", "(n+1)//2-1", "(n+1)//2", "(n+1)//2+1"]), (fun K => ga K "INNER", ["i-1", "i", "i+1", "n-i-1", "n-i", "n-i+1"]), (fun K => ga K "FEWEST", ["swap", "copy", "order", "turn"]), (fun K => ga K "MOST", ["swap", "copy", "order", "turn"])]
def sqXs : List XFa := [fun K => (List.range 12).all fun a => kixT K (ga K "OUTER") (endText a) [.str (baseText (a / 3)), .int (((a % 3 : Nat) : Int) - 1)],
  fun K => (List.range 6).all fun a => eqO (PySem.W.nsIn K (ga K "OUTER") (endText (a + 12))) (some none),
  fun K => (List.range 6).all fun a => kixT K (ga K "INNER") (endText (a + 12)) [.str (baseText ((a + 12) / 3)), .int ((((a + 12) % 3 : Nat) : Int) - 1)],
  fun K => (List.range 4).all fun k => kixV K (ga K "FEWEST") (wordText k) (.int (few k)),
  fun K => (List.range 4).all fun k => kixV K (ga K "MOST") (wordText k) (.int (most k)),
  fun K => tupAt K (ga K "PLACES") (((List.range 8).map spotText).map V.str),
  fun K => tupAt K (ga K "NUMBERS") (((List.range 4).map numText).map V.str),
  fun K => tupAt K (ga K "SIGNS") (((List.range 4).map signText).map V.str),
  kindsB,
  fun K => insB K (ga K "Nest"),
  fun K => insB K (ga K "Program"),
  fun K => creB K (ga K "Action"),
  fun K => creB K (ga K "Program"),
  fun K => cmeB K (ga K "Action") "of",
  fun K => cmeB K (ga K "Program") "read",
  fun K => eqO (PySem.W.nsIn K mainGlobals "within_values") (some (some (.ref (ga K "within"))))]
abbrev sqR : PySem.W.OpenRow := PySem.W.OpenLaw.row PySem.Challenge.rw_squareloops_k83_whole_cells_of_one_kind
abbrev sqQ : Program := PySem.W.view sqR.prog [123]
def sqNm0 : List Str := [Str.ofString "_wall", Str.ofString "__name__", Str.ofString "OUTER", Str.ofString "INNER", Str.ofString "bound_value", Str.ofString "is_bound", Str.ofString "is_loop", Str.ofString "goes_down", Str.ofString "loop_range", Str.ofString "in_loop", Str.ofString "MOST_NESTS", Str.ofString "MOST_DEEDS", Str.ofString "MOST_ROWS", Str.ofString "MOST_SIZE", Str.ofString "MOST_LISTED", Str.ofString "PLACES", Str.ofString "FEWEST", Str.ofString "MOST", Str.ofString "NUMBERS", Str.ofString "SIGNS", Str.ofString "Deed", Str.ofString "is_guard", Str.ofString "parsed_deed", Str.ofString "number_of", Str.ofString "place_cell", Str.ofString "holds", Str.ofString "do_deed", Str.ofString "WrongValue", Str.ofString "InvalidLoop", Str.ofString "InvalidText", Str.ofString "InvalidSize", Str.ofString "InvalidCell", Str.ofString "InvalidTable", Str.ofString "InvalidCount", Str.ofString "InvalidTail"]
def sqNm1 : List Str := [Str.ofString "NotAProgram", Str.ofString "InvalidDeeds", Str.ofString "InvalidNests", Str.ofString "InvalidListed", Str.ofString "NoAnswer", Str.ofString "Falls", Str.ofString "is_integer", Str.ofString "within", Str.ofString "within_values", Str.ofString "is_cell", Str.ofString "is_row", Str.ofString "is_table", Str.ofString "check_size", Str.ofString "check_cell", Str.ofString "check_table", Str.ofString "KINDS", Str.ofString "images_of", Str.ofString "images", Str.ofString "found_kind", Str.ofString "kind_of", Str.ofString "least_size", Str.ofString "corner", Str.ofString "stands_at", Str.ofString "standing_kinds", Str.ofString "falls_at", Str.ofString "orbit_rounds", Str.ofString "starts", Str.ofString "meet_rows", Str.ofString "join_rows", Str.ofString "moves_from", Str.ofString "effect_on", Str.ofString "bits_of", Str.ofString "least_contents", Str.ofString "OUTER_HEAD", Str.ofString "INNER_HEAD"]
def sqNm2 : List Str := [Str.ofString "Nest", Str.ofString "Program", Str.ofString "check_program", Str.ofString "nest_rows", Str.ofString "read_nests", Str.ofString "read_nest", Str.ofString "MOST_COUNT", Str.ofString "check_listed", Str.ofString "check_tail", Str.ofString "tail_from", Str.ofString "goes_on", Str.ofString "Sizes", Str.ofString "last_change", Str.ofString "deciding_sizes", Str.ofString "sizes_where", Str.ofString "DECIDING", Str.ofString "met_kinds", Str.ofString "Action", Str.ofString "moved_entries", Str.ofString "reached_bits", Str.ofString "_law_purl", Str.ofString "_law_dig", Str.ofString "_law_spots", Str.ofString "_law_cells", Str.ofString "_law_orbit", Str.ofString "_law_end", Str.ofString "_law_endtext", Str.ofString "_law_loop", Str.ofString "_law_looptext", Str.ofString "_law_deed", Str.ofString "_law_deedtext", Str.ofString "_law_nest", Str.ofString "_law_plan", Str.ofString "_law_text", Str.ofString "_law_steps"]
def sqNm3 : List Str := [Str.ofString "_law_turns", Str.ofString "_law_out", Str.ofString "_law_outfar", Str.ofString "_law_far", Str.ofString "_law_spot", Str.ofString "_law_sort", Str.ofString "_law_letters", Str.ofString "_law_led", Str.ofString "_law_right"]
def sqNm : List Str := sqNm0 ++ sqNm1 ++ sqNm2 ++ sqNm3
abbrev sqDepth : Nat := 5
abbrev sqHk : PySem.W.Hook := hookS sqDepth sqFa sqFn sqTs sqXs
def sqOb (s : PySem.W.SharedT) : AlT := obsSG sqDepth sqFa sqFn sqTs sqXs (HandSHeadRun.getT s)
theorem sqOb_eq (s : PySem.W.SharedT) : sqOb s = sqHk.obs s.abs := obsSG_eq (HandSHeadRun.getT_eq s)
abbrev RunA (w : World) : Prop := HandSHeadRun.RunEq sqR sqQ PySem.W.Hook.none (fun _ => ()) 20000 sqNm w
def RunB (w : World) : Prop := ∀ os : OsState, (HandSHeadRun.endF (HandSHeadRun.stepQ (HandSHeadRun.denQ HandSHeadRun.tabQ) sqR.prog w) 20000 sqR.prog w os).map sqOb = some (sqHk.val w)
theorem runAF (w : World) : RunA (w.withFollow "special-get-raises" false) := by
  intro os
  kernel_rfl
theorem runAT (w : World) : RunA (w.withFollow "special-get-raises" true) := by
  intro os
  kernel_rfl
theorem runBF (w : World) : RunB (w.withFollow "special-get-raises" false) := by
  intro os
  kernel_rfl
theorem runBT (w : World) : RunB (w.withFollow "special-get-raises" true) := by
  intro os
  kernel_rfl
theorem map_both {σ α β γ δ : Type} {x : Option σ} {f : σ → α} {g : σ → β} {u : σ → δ} {h : σ → γ} {a : α} {b : β} {d : δ} {c : γ} (h1 : x.map (fun s => (f s, g s, u s)) = some (a, b, d)) (h2 : x.map h = some c) : x.map (fun s => (f s, g s, h s)) = some (a, b, c) := by
  cases x with
  | none => cases h1
  | some s =>
    have e1 : (f s, g s, u s) = (a, b, d) := Option.some.inj h1
    have e2 : h s = c := Option.some.inj h2
    injection e1 with e3 e4
    injection e4 with e4 _
    show some (f s, g s, h s) = some (a, b, c)
    rw [e3, e4, e2]
theorem run_both {w : World} (a : RunA w) (b : RunB w) : HandSHeadRun.RunEq sqR sqQ sqHk sqOb 20000 sqNm w := fun os => map_both (h := sqOb) (a os) (b os)
theorem sqRun (w : World) : HandSHeadRun.RunEq sqR sqQ sqHk sqOb 20000 sqNm w := PySem.W.byRow2 "special-get-raises" (P := fun w => HandSHeadRun.RunEq sqR sqQ sqHk sqOb 20000 sqNm w) (fun w => run_both (runAF w) (runBF w)) (fun w => run_both (runAT w) (runBT w)) w
end Sq
set_option maxHeartbeats 4000000
/-! Sq, part A: what a slot holds (Rp), how the heap moves on (Step), judgements over slots alone. -/
namespace Sq
open PySem PySem.Spec PyProof.Rows L2

/-! ### heaps -/
def Sub (B H : Hp) : Prop := ∀ a o, B a = some o → H a = some o
theorem Sub.refl (B : Hp) : Sub B B := fun _ _ h => h
theorem Sub.trans {A B C : Hp} (h : Sub A B) (k : Sub B C) : Sub A C := fun a o e => k a o (h a o e)
theorem Sub.rd {B H : Hp} {a : Addr} {u : HO} (s : Sub B H) (h : Rd B a u) : Rd H a u := by
  rcases h with h | ⟨o, h⟩
  · exact .inl (s a _ h)
  · exact .inr ⟨o, s a _ h⟩
theorem Sub.sqL {K : PySem.W.Frag} {B H : Hp} {a : Addr} {xs : List V} (s : Sub B H) (h : SqL K B a xs) : SqL K H a xs := by
  rcases h with h | h
  · exact .inl (s.rd h)
  · exact .inr h
theorem Sub.sqT {K : PySem.W.Frag} {B H : Hp} {a : Addr} {xs : List V} (s : Sub B H) (h : SqT K B a xs) : SqT K H a xs := by
  rcases h with h | h
  · exact .inl (s.rd h)
  · exact .inr h
mutual
theorem Sub.dp {K : PySem.W.Frag} {B H : Hp} (s : Sub B H) : ∀ {v : V} {d : PyData}, Dp K B v d → Dp K H v d
  | _, _, .non => .non
  | _, _, .bl b => .bl b
  | _, _, .int i => .int i
  | _, _, .str x => .str x
  | _, _, .lst h t => .lst (s.sqL h) (Sub.dpAll s t)
  | _, _, .tup h t => .tup (s.sqT h) (Sub.dpAll s t)
theorem Sub.dpAll {K : PySem.W.Frag} {B H : Hp} (s : Sub B H) : ∀ {vs : List V} {ds : List PyData}, DpAll K B vs ds → DpAll K H vs ds
  | _, _, .nil => .nil
  | _, _, .cons h t => .cons (Sub.dp s h) (Sub.dpAll s t)
end

/-! ### what a value is known to be -/
structure Rp where
  p : Hp → V → Prop
  mono : ∀ {B H : Hp} {v : V}, Sub B H → p B v → p H v
def rV (v : V) : Rp := ⟨fun _ x => x = v, fun _ h => h⟩
def rD (K : PySem.W.Frag) (d : PyData) : Rp := ⟨fun B v => Dp K B v d, fun s h => s.dp h⟩
def rEx {α : Type} (P : α → Prop) (R : α → Rp) : Rp := ⟨fun B v => ∃ a, P a ∧ (R a).p B v, fun s ⟨a, h, k⟩ => ⟨a, h, (R a).mono s k⟩⟩
def rTop : Rp := ⟨fun _ _ => True, fun _ h => h⟩
/-- an int, a bool, a text -/
abbrev dI (i : Int) : Rp := rV (.int i)
abbrev dB (b : Bool) : Rp := rV (.bl b)
abbrev dS (x : Str) : Rp := rV (.str x)
abbrev dN : Rp := rV .non
def AllR : List Rp → Hp → List V → Prop
  | [], _, vs => vs = []
  | R :: Rs, B, vs => ∃ v r, vs = v :: r ∧ R.p B v ∧ AllR Rs B r
theorem AllR.mono {B H : Hp} (s : Sub B H) : ∀ {Rs : List Rp} {vs : List V}, AllR Rs B vs → AllR Rs H vs
  | [], _, h => h
  | R :: _, _, ⟨v, r, e, h, t⟩ => ⟨v, r, e, R.mono s h, AllR.mono s t⟩
theorem AllR.len {B : Hp} : ∀ {Rs : List Rp} {vs : List V}, AllR Rs B vs → vs.length = Rs.length
  | [], _, h => by rw [show _ = [] from h] <;> rfl
  | R :: _, _, ⟨v, r, e, _, t⟩ => by rw [e, List.length_cons, List.length_cons, AllR.len t]
theorem AllR.get {B : Hp} : ∀ {Rs : List Rp} {vs : List V} {i : Nat} {v : V}, AllR Rs B vs → vs[i]? = some v → ∃ R, Rs[i]? = some R ∧ R.p B v
  | [], _, _, _, h, e => by rw [h] at e; simp at e
  | R :: _, _, 0, v, ⟨x, r, e, h, t⟩, q => by subst e; simp at q; subst q; exact ⟨R, rfl, h⟩
  | R :: _, _, i + 1, v, ⟨x, r, e, h, t⟩, q => by subst e; simp at q; obtain ⟨R', h1, h2⟩ := AllR.get t q; exact ⟨R', by simpa using h1, h2⟩
theorem AllR.at {B : Hp} : ∀ {Rs : List Rp} {vs : List V} {i : Nat} {R : Rp}, AllR Rs B vs → Rs[i]? = some R → ∃ v, vs[i]? = some v ∧ R.p B v
  | [], _, _, _, h, e => by simp at e
  | R :: _, _, 0, v, ⟨x, r, e, h, t⟩, q => by subst e; simp at q; subst q; exact ⟨x, rfl, h⟩
  | R :: _, _, i + 1, v, ⟨x, r, e, h, t⟩, q => by subst e; simp at q; obtain ⟨R', h1, h2⟩ := AllR.at t q; exact ⟨R', by simpa using h1, h2⟩
theorem AllR.app {B : Hp} : ∀ {Rs Ss : List Rp} {vs us : List V}, AllR Rs B vs → AllR Ss B us → AllR (Rs ++ Ss) B (vs ++ us)
  | [], _, _, _, h, k => by rw [h]; exact k
  | R :: _, _, _, _, ⟨x, r, e, h, t⟩, k => by subst e; exact ⟨x, _, rfl, h, AllR.app t k⟩
theorem AllR.take {B : Hp} : ∀ {Rs : List Rp} {vs : List V} (n : Nat), AllR Rs B vs → AllR (Rs.take n) B (vs.take n)
  | _, _, 0, _ => by simp [AllR]
  | [], _, _ + 1, h => by rw [h]; simp [AllR]
  | R :: _, _, n + 1, ⟨x, r, e, h, t⟩ => by subst e; exact ⟨x, _, rfl, h, AllR.take n t⟩
theorem AllR.drop {B : Hp} : ∀ {Rs : List Rp} {vs : List V} (n : Nat), AllR Rs B vs → AllR (Rs.drop n) B (vs.drop n)
  | _, _, 0, h => h
  | [], _, _ + 1, h => by rw [h]; simp [AllR]
  | R :: _, _, n + 1, ⟨x, r, e, h, t⟩ => by subst e; exact AllR.drop n t
theorem AllR.ints {B : Hp} : ∀ {ns : List Int} {vs : List V}, AllR (ns.map dI) B vs → vs = ns.map V.int
  | [], _, h => h
  | n :: ns, _, ⟨x, r, e, h, t⟩ => by rw [e, AllR.ints t, (show x = V.int n from h)] <;> rfl
theorem AllR.bools {B : Hp} : ∀ {ns : List Bool} {vs : List V}, AllR (ns.map dB) B vs → vs = ns.map V.bl
  | [], _, h => h
  | n :: ns, _, ⟨x, r, e, h, t⟩ => by rw [e, AllR.bools t, (show x = V.bl n from h)] <;> rfl
theorem AllR.strs {B : Hp} : ∀ {ns : List Str} {vs : List V}, AllR (ns.map dS) B vs → vs = ns.map V.str
  | [], _, h => h
  | n :: ns, _, ⟨x, r, e, h, t⟩ => by rw [e, AllR.strs t, (show x = V.str n from h)] <;> rfl
theorem AllR.dp {K : PySem.W.Frag} {B : Hp} : ∀ {ds : List PyData} {vs : List V}, AllR (ds.map (rD K)) B vs → DpAll K B vs ds
  | [], _, h => by rw [h]; exact .nil
  | n :: ns, _, ⟨x, r, e, h, t⟩ => by rw [e]; exact .cons h (AllR.dp t)
theorem AllR.of_dp {K : PySem.W.Frag} {B : Hp} : ∀ {ds : List PyData} {vs : List V}, DpAll K B vs ds → AllR (ds.map (rD K)) B vs
  | [], _, .nil => rfl
  | n :: ns, _, .cons h t => ⟨_, _, rfl, h, AllR.of_dp t⟩
/-- a tuple, a list whose items are so -/
def rT (K : PySem.W.Frag) (Rs : List Rp) : Rp := ⟨fun B v => ∃ a xs, v = .ref a ∧ SqT K B a xs ∧ AllR Rs B xs, fun s ⟨a, xs, e, h, t⟩ => ⟨a, xs, e, s.sqT h, t.mono s⟩⟩
def rL (Rs : List Rp) : Rp := ⟨fun B v => ∃ a xs, v = .ref a ∧ B a = some (.lst xs) ∧ AllR Rs B xs, fun s ⟨a, xs, e, h, t⟩ => ⟨a, xs, e, s a _ h, t.mono s⟩⟩
theorem rI_iff {K : PySem.W.Frag} {B : Hp} {v : V} {i : Int} : (rD K (.int i)).p B v ↔ v = .int i := ⟨fun h => by cases h; rfl, fun h => by rw [h]; exact .int i⟩
theorem rB_iff {K : PySem.W.Frag} {B : Hp} {v : V} {b : Bool} : (rD K (.bool b)).p B v ↔ v = .bl b := ⟨fun h => by cases h; rfl, fun h => by rw [h]; exact .bl b⟩
theorem rS_iff {K : PySem.W.Frag} {B : Hp} {v : V} {x : Str} : (rD K (.str x)).p B v ↔ v = .str x := ⟨fun h => by cases h; rfl, fun h => by rw [h]; exact .str x⟩
theorem rT_iff {K : PySem.W.Frag} {B : Hp} {v : V} {ds : List PyData} : (rD K (.tuple ds)).p B v ↔ (rT K (ds.map (rD K))).p B v :=
  ⟨fun h => by cases h with | tup h t => exact ⟨_, _, rfl, h, AllR.of_dp t⟩, fun ⟨a, xs, e, h, t⟩ => by rw [e]; exact .tup h t.dp⟩
theorem rL_to {K : PySem.W.Frag} {B : Hp} {v : V} {ds : List PyData} : (rL (ds.map (rD K))).p B v → (rD K (.list ds)).p B v :=
  fun ⟨a, xs, e, h, t⟩ => by rw [e]; exact .lst (SqL.of h) t.dp

/-- what is enough for what -/
def Le (R S : Rp) : Prop := ∀ B v, R.p B v → S.p B v
theorem Le.refl (R : Rp) : Le R R := fun _ _ h => h
theorem Le.trans {R S T : Rp} (h : Le R S) (k : Le S T) : Le R T := fun B v x => k B v (h B v x)
theorem le_eq {R S : Rp} (h : R = S) : Le R S := by rw [h]; exact Le.refl _
theorem le_ex {α : Type} {P : α → Prop} {R : α → Rp} {S : Rp} (a : α) (h : P a) (k : Le S (R a)) : Le S (rEx P R) := fun B v x => ⟨a, h, k B v x⟩
theorem ex_le {α : Type} {P : α → Prop} {R : α → Rp} {S : Rp} (h : ∀ a, P a → Le (R a) S) : Le (rEx P R) S := fun B v ⟨a, p, x⟩ => h a p B v x
inductive Les : List Rp → List Rp → Prop
  | nil : Les [] []
  | cons {R S : Rp} {Rs Ss : List Rp} : Le R S → Les Rs Ss → Les (R :: Rs) (S :: Ss)
theorem AllR.le {B : Hp} : ∀ {Rs Ss : List Rp} {vs : List V}, Les Rs Ss → AllR Rs B vs → AllR Ss B vs
  | _, _, _, .nil, h => h
  | _, _, _, .cons h t, ⟨v, r, e, x, y⟩ => ⟨v, r, e, h B v x, AllR.le t y⟩
theorem Les.refl : ∀ Rs : List Rp, Les Rs Rs
  | [] => .nil
  | R :: Rs => .cons (Le.refl R) (Les.refl Rs)
theorem les_map {α : Type} {f g : α → Rp} (h : ∀ a, Le (f a) (g a)) : ∀ xs : List α, Les (xs.map f) (xs.map g)
  | [] => .nil
  | x :: xs => .cons (h x) (les_map h xs)
theorem les_mapm {α : Type} {f g : α → Rp} : ∀ {xs : List α}, (∀ a ∈ xs, Le (f a) (g a)) → Les (xs.map f) (xs.map g)
  | [], _ => .nil
  | x :: xs, h => .cons (h x List.mem_cons_self) (les_mapm fun a m => h a (List.mem_cons_of_mem _ m))
theorem le_T {K : PySem.W.Frag} {Rs Ss : List Rp} (h : Les Rs Ss) : Le (rT K Rs) (rT K Ss) := fun _ _ ⟨a, xs, e, q, t⟩ => ⟨a, xs, e, q, t.le h⟩
theorem le_L {Rs Ss : List Rp} (h : Les Rs Ss) : Le (rL Rs) (rL Ss) := fun _ _ ⟨a, xs, e, q, t⟩ => ⟨a, xs, e, q, t.le h⟩
theorem le_dt {K : PySem.W.Frag} {ds : List PyData} : Le (rD K (.tuple ds)) (rT K (ds.map (rD K))) := fun _ _ h => rT_iff.mp h
theorem le_td {K : PySem.W.Frag} {ds : List PyData} : Le (rT K (ds.map (rD K))) (rD K (.tuple ds)) := fun _ _ h => rT_iff.mpr h
theorem le_ld {K : PySem.W.Frag} {ds : List PyData} : Le (rL (ds.map (rD K))) (rD K (.list ds)) := fun _ _ h => rL_to h
theorem le_di {K : PySem.W.Frag} {i : Int} : Le (rD K (.int i)) (dI i) := fun _ _ h => rI_iff.mp h
theorem le_id {K : PySem.W.Frag} {i : Int} : Le (dI i) (rD K (.int i)) := fun _ _ h => rI_iff.mpr h
theorem le_db {K : PySem.W.Frag} {i : Bool} : Le (rD K (.bool i)) (dB i) := fun _ _ h => rB_iff.mp h
theorem le_bd {K : PySem.W.Frag} {i : Bool} : Le (dB i) (rD K (.bool i)) := fun _ _ h => rB_iff.mpr h
theorem le_ds {K : PySem.W.Frag} {i : Str} : Le (rD K (.str i)) (dS i) := fun _ _ h => rS_iff.mp h
theorem le_sd {K : PySem.W.Frag} {i : Str} : Le (dS i) (rD K (.str i)) := fun _ _ h => rS_iff.mpr h

/-! ### how things move on: B is what stays, m the purses (two numbers) that may change -/
/-- the objects that a callee may change, and what they stay -/
structure Mt where
  dom : Addr → Prop
  ok : Addr → HO → Prop
def Po (m : Mt) (a : Addr) (o : Option HO) : Prop := ∃ u, o = some u ∧ m.ok a u
structure Pre (m : Mt) (B H : Hp) : Prop where
  sub : Sub B H
  po : ∀ a, m.dom a → Po m a (H a)
  out : ∀ a, m.dom a → B a = none
structure Step (m : Mt) (B H B' H' : Hp) : Prop where
  keep : ∀ a o, ¬ m.dom a → H a = some o → H' a = some o
  po : ∀ a, m.dom a → Po m a (H' a)
  sub : Sub B B'
  sub' : Sub B' H'
  new : ∀ a o, B' a = some o → B a = some o ∨ H a = none
section
variable {m : Mt} {A B C H H' H'' B' B'' : Hp}
theorem Po.some {a : Addr} {o : Option HO} (h : Po m a o) : o ≠ none := by
  obtain ⟨u, e, _⟩ := h
  rw [e]
  exact fun z => by cases z
theorem Pre.refl (h : Pre m B H) : Step m B H B H := ⟨fun _ _ _ e => e, h.po, Sub.refl _, h.sub, fun _ _ e => .inl e⟩
theorem Pre.step (h : Pre m B H) (s : Step m B H B' H') : Pre m B' H' := ⟨s.sub', s.po, fun a x => by
  cases e : B' a with
  | none => rfl
  | some o =>
    rcases s.new a o e with q | q
    · rw [h.out a x] at q
      cases q
    · exact absurd q (h.po a x).some⟩
theorem Step.trans (h : Pre m B H) (s : Step m B H B' H') (t : Step m B' H' B'' H'') : Step m B H B'' H'' := by
  refine ⟨fun a o n e => t.keep a o n (s.keep a o n e), t.po, s.sub.trans t.sub, t.sub', fun a o e => ?_⟩
  rcases t.new a o e with q | q
  · exact s.new a o q
  · refine .inr ?_
    cases z : H a with
    | none => rfl
    | some u =>
      by_cases x : m.dom a
      · exact absurd q (s.po a x).some
      · rw [s.keep a u x z] at q
        cases q
/-- a new object -/
theorem Pre.new (h : Pre m B H) {p : Addr} {o : HO} (hp : H p = none) : Step m B H (upd B p o) (upd H p o) := by
  have hb : B p = none := by
    cases e : B p with
    | none => rfl
    | some u => rw [h.sub p u e] at hp; cases hp
  refine ⟨fun a u _ e => by rw [upd_ne (ne_of_none e hp)]; exact e, fun a x => ?_, fun a u e => by rw [upd_ne (ne_of_none e hb)]; exact e, fun a u e => ?_, fun a u e => ?_⟩
  · have ne : a ≠ p := fun z => by subst z; exact (h.po _ x).some hp
    rw [upd_ne ne]
    exact h.po a x
  · by_cases z : a = p
    · subst z; rw [upd_same] at e ⊢; exact e
    · rw [upd_ne z] at e ⊢; exact h.sub a u e
  · by_cases z : a = p
    · subst z; exact .inr hp
    · rw [upd_ne z] at e; exact .inl e
/-- less is kept in mind -/
theorem Step.less (s : Step m B H B' H') {D : Hp} (h1 : Sub B D) (h2 : Sub D B') : Step m B H D H' := ⟨s.keep, s.po, h1, h2.trans s.sub', fun a o e => s.new a o (h2 a o e)⟩
end

/-! ### slots -/
abbrev Gm := List (Option Rp)
def Sl (Γ : Gm) (σ : L2.St) (B : Hp) : Prop := σ.length = Γ.length ∧ ∀ (i : Nat) (R : Rp), Γ[i]? = some (some R) → ∃ v, σ[i]? = some (some v) ∧ R.p B v
theorem Sl.mono {Γ : Gm} {σ : L2.St} {B H : Hp} (s : Sub B H) (h : Sl Γ σ B) : Sl Γ σ H := ⟨h.1, fun i R e => by
  obtain ⟨v, h1, h2⟩ := h.2 i R e
  exact ⟨v, h1, R.mono s h2⟩⟩
theorem Sl.set {Γ : Gm} {σ : L2.St} {B : Hp} {i : Nat} {R : Rp} {v : V} (h : Sl Γ σ B) (r : R.p B v) : Sl (Γ.set i (some R)) (σ.set i (some v)) B := by
  refine ⟨by rw [List.length_set, List.length_set]; exact h.1, fun j S e => ?_⟩
  by_cases z : i = j
  · subst z
    have hi : i < Γ.length := by
      have q := (List.getElem?_eq_some_iff.mp e).1
      rwa [List.length_set] at q
    rw [List.getElem?_set_self hi] at e
    have e' : R = S := Option.some.inj (Option.some.inj e)
    subst e'
    exact ⟨v, List.getElem?_set_self (by rw [h.1]; exact hi), r⟩
  · rw [List.getElem?_set_ne z] at e
    rw [List.getElem?_set_ne z]
    exact h.2 j S e
theorem Sl.forget {Γ : Gm} {σ : L2.St} {B : Hp} {i : Nat} {x : Option V} (h : Sl Γ σ B) : Sl (Γ.set i none) (σ.set i x) B := by
  refine ⟨by rw [List.length_set, List.length_set]; exact h.1, fun j S e => ?_⟩
  by_cases z : i = j
  · subst z
    have hi : i < Γ.length := by
      have q := (List.getElem?_eq_some_iff.mp e).1
      rwa [List.length_set] at q
    rw [List.getElem?_set_self hi] at e
    cases e
  · rw [List.getElem?_set_ne z] at e
    rw [List.getElem?_set_ne z]
    exact h.2 j S e
def wipeG (Γ : Gm) : List Nat → Gm
  | [] => Γ
  | v :: vs => (wipeG Γ vs).set v none
theorem Sl.wipe {Γ : Gm} {σ : L2.St} {B : Hp} (h : Sl Γ σ B) : ∀ vs : List Nat, Sl (wipeG Γ vs) (L2.wipe σ vs) B
  | [] => h
  | v :: vs => (Sl.wipe h vs).forget
/-- what is known is enough for what is wanted -/
def LeG (Γ Δ : Gm) : Prop := Γ.length = Δ.length ∧ ∀ (i : Nat) (S : Rp), Δ[i]? = some (some S) → ∃ R, Γ[i]? = some (some R) ∧ Le R S
theorem Sl.le {Γ Δ : Gm} {σ : L2.St} {B : Hp} (k : LeG Γ Δ) (h : Sl Γ σ B) : Sl Δ σ B := ⟨h.1.trans k.1, fun i S e => by
  obtain ⟨R, h1, h2⟩ := k.2 i S e
  obtain ⟨v, q, r⟩ := h.2 i R h1
  exact ⟨v, q, h2 B v r⟩⟩
theorem LeG.refl (Γ : Gm) : LeG Γ Γ := ⟨rfl, fun _ S e => ⟨S, e, Le.refl S⟩⟩
theorem LeG.nil : LeG [] [] := LeG.refl _
theorem LeG.skip {x : Option Rp} {Γ Δ : Gm} (h : LeG Γ Δ) : LeG (x :: Γ) (none :: Δ) := ⟨by rw [List.length_cons, List.length_cons, h.1], fun i S e => by
  cases i with
  | zero => cases e
  | succ i => exact h.2 i S e⟩
theorem LeG.cons {R S : Rp} {Γ Δ : Gm} (k : Le R S) (h : LeG Γ Δ) : LeG (some R :: Γ) (some S :: Δ) := ⟨by rw [List.length_cons, List.length_cons, h.1], fun i T e => by
  cases i with
  | zero =>
    have e' : S = T := Option.some.inj (Option.some.inj e)
    subst e'
    exact ⟨R, rfl, k⟩
  | succ i => exact h.2 i T e⟩
theorem LeG.same {x : Option Rp} {Γ Δ : Gm} (h : LeG Γ Δ) : LeG (x :: Γ) (x :: Δ) := by
  cases x with
  | none => exact h.skip
  | some R => exact h.cons (Le.refl R)

/-! ### judgements -/
abbrev Mk1 := Mt
def EvG (m : Mk1) (te : TE) (Γ : Gm) (R : Rp) : Prop := ∀ σ B H, Sl Γ σ B → Pre m B H → ∀ Q : VK, (∀ v B' H', Step m B H B' H' → R.p B' v → Q v H') → te σ H Q
def EvB (m : Mk1) (tt : TT) (Γ : Gm) (P : Bool → Prop) : Prop := ∀ σ B H, Sl Γ σ B → Pre m B H → ∀ Q : Bool → Hp → Prop, (∀ b B' H', Step m B H B' H' → P b → Q b H') → tt σ H Q
def EvA (m : Mk1) (ta : TA) (Γ : Gm) (Rs : List Rp) : Prop := ∀ σ B H, Sl Γ σ B → Pre m B H → ∀ Q : List V → Hp → Prop, (∀ vs B' H', Step m B H B' H' → AllR Rs B' vs → Q vs H') → ta σ H Q
/-- an operation by values -/
def Bin (m : Mk1) (r : R2) (Ra Rb R : Rp) : Prop := ∀ B H x y, Pre m B H → Ra.p B x → Rb.p B y → ∀ Q : VK, (∀ v B' H', Step m B H B' H' → R.p B' v → Q v H') → r x y H Q
def Una (m : Mk1) (r : V → Hp → VK → Prop) (Ra R : Rp) : Prop := ∀ B H x, Pre m B H → Ra.p B x → ∀ Q : VK, (∀ v B' H', Step m B H B' H' → R.p B' v → Q v H') → r x H Q
def CaR (m : Mk1) (r : List V → Hp → VK → Prop) (Rs : List Rp) (R : Rp) : Prop := ∀ B H vs, Pre m B H → AllR Rs B vs → ∀ Q : VK, (∀ v B' H', Step m B H B' H' → R.p B' v → Q v H') → r vs H Q
def MeR (m : Mk1) (K : PySem.W.Frag) (T : String) (r : V → List V → Hp → VK → Prop) (Ro : Rp) (Rs : List Rp) (R : Rp) : Prop := (∀ B H x, Pre m B H → Ro.p B x → tyV K T x H) ∧ ∀ B H x vs, Pre m B H → Ro.p B x → AllR Rs B vs → ∀ Q : VK, (∀ v B' H', Step m B H B' H' → R.p B' v → Q v H') → r x vs H Q

section
variable {m : Mk1} {Γ Δ : Gm} {ta tb te : TE} {tt tu : TT} {t u : TA} {R S Ra Rb Ro : Rp} {Rs Ss : List Rp} {K : PySem.W.Frag}
theorem EvG.le (h : EvG m te Γ R) (k : Le R S) : EvG m te Γ S := fun σ B H hs hp Q q => h σ B H hs hp Q fun v B' H' s r => q v B' H' s (k B' v r)
theorem EvG.to (h : EvG m te Γ R) (k : R = S) : EvG m te Γ S := by rw [← k]; exact h
theorem EvB.le {P P' : Bool → Prop} (h : EvB m tt Γ P) (k : ∀ b, P b → P' b) : EvB m tt Γ P' := fun σ B H hs hp Q q => h σ B H hs hp Q fun v B' H' s r => q v B' H' s (k v r)
theorem EvA.le (h : EvA m t Γ Rs) (k : Les Rs Ss) : EvA m t Γ Ss := fun σ B H hs hp Q q => h σ B H hs hp Q fun v B' H' s r => q v B' H' s (r.le k)
theorem EvG.ctx (h : EvG m te Δ R) (k : LeG Γ Δ) : EvG m te Γ R := fun σ B H hs hp Q q => h σ B H (hs.le k) hp Q q
theorem ev_var {i : Nat} (h : Γ[i]? = some (some R)) : EvG m (tVar i) Γ R := fun σ B H hs hp Q q => by
  obtain ⟨v, h1, h2⟩ := hs.2 i R h
  exact ⟨v, h1, q v B H hp.refl h2⟩
theorem ev_c {v : V} : EvG m (tC v) Γ (rV v) := fun σ B H hs hp Q q => q v B H hp.refl rfl
theorem ev_op {r : R2} (ha : EvG m ta Γ Ra) (hb : EvG m tb Γ Rb) (hr : Bin m r Ra Rb R) : EvG m (tOp r ta tb) Γ R := fun σ B H hs hp Q q =>
  ha σ B H hs hp _ fun x B1 H1 s1 r1 => hb σ B1 H1 (hs.mono s1.sub) (hp.step s1) _ fun y B2 H2 s2 r2 =>
    hr B2 H2 x y ((hp.step s1).step s2) (Ra.mono s2.sub r1) r2 Q fun v B3 H3 s3 r3 => q v B3 H3 (Step.trans hp (Step.trans hp s1 s2) s3) r3
theorem ev_un {r : V → Hp → VK → Prop} (ha : EvG m ta Γ Ra) (hr : Una m r Ra R) : EvG m (tUn r ta) Γ R := fun σ B H hs hp Q q =>
  ha σ B H hs hp _ fun x B1 H1 s1 r1 => hr B1 H1 x (hp.step s1) r1 Q fun v B3 H3 s3 r3 => q v B3 H3 (Step.trans hp s1 s3) r3
theorem ea_nil : EvA m tNil Γ [] := fun σ B H hs hp Q q => q [] B H hp.refl rfl
theorem ea_cons (ha : EvG m ta Γ R) (hb : EvA m t Γ Rs) : EvA m (tCons ta t) Γ (R :: Rs) := fun σ B H hs hp Q q =>
  ha σ B H hs hp _ fun x B1 H1 s1 r1 => hb σ B1 H1 (hs.mono s1.sub) (hp.step s1) _ fun xs B2 H2 s2 r2 => q (x :: xs) B2 H2 (Step.trans hp s1 s2) ⟨x, xs, rfl, R.mono s2.sub r1, r2⟩
theorem ev_tup (h : EvA m t Γ Rs) (hz : Rs.length ≤ sizeLine := by first | decide | (simp; decide)) : EvG m (tTup t) Γ (rT K Rs) := fun σ B H hs hp Q q =>
  h σ B H hs hp _ fun xs B1 H1 s1 r1 => ⟨by rw [r1.len]; exact hz, fun p np => q (.ref p) _ _ (Step.trans hp s1 ((hp.step s1).new np)) ⟨p, xs, rfl, SqT.of upd_same, r1.mono ((hp.step s1).new np).sub⟩⟩
theorem ev_lst (h : EvA m t Γ Rs) (hz : Rs.length ≤ sizeLine := by first | decide | (simp; decide)) : EvG m (tLst t) Γ (rL Rs) := fun σ B H hs hp Q q =>
  h σ B H hs hp _ fun xs B1 H1 s1 r1 => ⟨by rw [r1.len]; exact hz, fun p np => q (.ref p) _ _ (Step.trans hp s1 ((hp.step s1).new np)) ⟨p, xs, rfl, upd_same, r1.mono ((hp.step s1).new np).sub⟩⟩
theorem ev_cb {r : List V → Hp → VK → Prop} (h : EvA m t Γ Rs) (hr : CaR m r Rs R) : EvG m (tCB r t) Γ R := fun σ B H hs hp Q q =>
  h σ B H hs hp _ fun xs B1 H1 s1 r1 => hr B1 H1 xs (hp.step s1) r1 Q fun v B3 H3 s3 r3 => q v B3 H3 (Step.trans hp s1 s3) r3
theorem ev_bm {T : String} {r : V → List V → Hp → VK → Prop} (ho : EvG m ta Γ Ro) (h : EvA m t Γ Rs) (hr : MeR m K T r Ro Rs R) : EvG m (tBM K T r ta t) Γ R := fun σ B H hs hp Q q =>
  ho σ B H hs hp _ fun x B1 H1 s1 r1 => ⟨hr.1 B1 H1 x (hp.step s1) r1, h σ B1 H1 (hs.mono s1.sub) (hp.step s1) _ fun xs B2 H2 s2 r2 =>
    hr.2 B2 H2 x xs ((hp.step s1).step s2) (Ro.mono s2.sub r1) r2 Q fun v B3 H3 s3 r3 => q v B3 H3 (Step.trans hp (Step.trans hp s1 s2) s3) r3⟩
theorem ev_if {P : Bool → Prop} (hc : EvB m tt Γ P) (ha : P true → EvG m ta Γ R) (hb : P false → EvG m tb Γ R) : EvG m (tIf tt ta tb) Γ R := fun σ B H hs hp Q q =>
  hc σ B H hs hp _ fun b B1 H1 s1 r1 => by
    cases b with
    | true => exact ha r1 σ B1 H1 (hs.mono s1.sub) (hp.step s1) Q fun v B3 H3 s3 r3 => q v B3 H3 (Step.trans hp s1 s3) r3
    | false => exact hb r1 σ B1 H1 (hs.mono s1.sub) (hp.step s1) Q fun v B3 H3 s3 r3 => q v B3 H3 (Step.trans hp s1 s3) r3
/-- an open letter in what is known of a part -/
theorem Bin.exL {α : Type} {P : α → Prop} {F : α → Rp} {r : R2} (h : ∀ a, P a → Bin m r (F a) Rb R) : Bin m r (rEx P F) Rb R := fun B H x y hp ⟨a, pa, ra⟩ rb Q q => h a pa B H x y hp ra rb Q q
theorem Bin.exR {α : Type} {P : α → Prop} {F : α → Rp} {r : R2} (h : ∀ a, P a → Bin m r Ra (F a) R) : Bin m r Ra (rEx P F) R := fun B H x y hp ra ⟨a, pa, rb⟩ Q q => h a pa B H x y hp ra rb Q q
theorem Bin.le {r : R2} (h : Bin m r Ra Rb R) (k : Le R S) : Bin m r Ra Rb S := fun B H x y hp ra rb Q q => h B H x y hp ra rb Q fun v B' H' s r => q v B' H' s (k B' v r)
theorem Una.exL {α : Type} {P : α → Prop} {F : α → Rp} {r : V → Hp → VK → Prop} (h : ∀ a, P a → Una m r (F a) R) : Una m r (rEx P F) R := fun B H x hp ⟨a, pa, ra⟩ Q q => h a pa B H x hp ra Q q
/-! operations on ints -/
theorem bin_now {r : R2} (h : ∀ B H x y, Pre m B H → Ra.p B x → Rb.p B y → ∃ z, R.p B z ∧ ∀ Q : VK, Q z H → r x y H Q) : Bin m r Ra Rb R := fun B H x y hp ra rb Q q => by
  obtain ⟨z, h1, h2⟩ := h B H x y hp ra rb
  exact h2 Q (q z B H hp.refl h1)
theorem bI0 {g : Int → Int → V} {i j : Int} : Bin m (rI0 g) (dI i) (dI j) (rV (g i j)) := bin_now fun B H x y _ hx hy => ⟨g i j, rfl, fun Q q => ⟨i, j, hx, hy, q⟩⟩
theorem bI {C : Int → Int → Prop} {g : Int → Int → V} {i j : Int} (hc : C i j) : Bin m (rI C g) (dI i) (dI j) (rV (g i j)) := bin_now fun B H x y _ hx hy => ⟨g i j, rfl, fun Q q => ⟨i, j, hx, hy, hc, q⟩⟩
theorem bEq {x y : V} (h : scal x y = true) : Bin m rEq (rV x) (rV y) (dB (decide (x = y))) := bin_now fun B H x' y' _ hx hy => ⟨_, rfl, fun Q q => by rw [hx, hy]; exact ⟨h, q⟩⟩
theorem bNe {x y : V} (h : scal x y = true) : Bin m rNe (rV x) (rV y) (dB (!decide (x = y))) := bin_now fun B H x' y' _ hx hy => ⟨_, rfl, fun Q q => by rw [hx, hy]; exact ⟨h, q⟩⟩
theorem uI {g : Int → V} {i : Int} : Una m (rU g) (dI i) (rV (g i)) := fun B H x hp hx Q q => ⟨i, hx, q _ B H hp.refl rfl⟩
/-! tests -/
theorem eb_test {b : Bool} (h : EvG m te Γ (dB b)) : EvB m (tTest te) Γ (· = b) := fun σ B H hs hp Q q => h σ B H hs hp _ fun v B' H' s r => ⟨b, r, q b B' H' s rfl⟩
theorem eb_B {b : Bool} (h : EvG m te Γ (dB b)) : EvB m (tB te) Γ (· = b) := fun σ B H hs hp Q q => h σ B H hs hp _ fun v B' H' s r => ⟨b, r, q b B' H' s rfl⟩
theorem eb_testx {P : Bool → Prop} (h : EvG m te Γ (rEx P dB)) : EvB m (tTest te) Γ P := fun σ B H hs hp Q q => h σ B H hs hp _ fun v B' H' s ⟨b, hb, r⟩ => ⟨b, r, q b B' H' s hb⟩
theorem eb_Bx {P : Bool → Prop} (h : EvG m te Γ (rEx P dB)) : EvB m (tB te) Γ P := fun σ B H hs hp Q q => h σ B H hs hp _ fun v B' H' s ⟨b, hb, r⟩ => ⟨b, r, q b B' H' s hb⟩
theorem eb_not {P : Bool → Prop} (h : EvB m tt Γ P) : EvB m (tNot tt) Γ (fun b => P (!b)) := fun σ B H hs hp Q q => h σ B H hs hp _ fun b B' H' s r => q (!b) B' H' s (show P (!!b) by rw [Bool.not_not]; exact r)
theorem eb_and {P P' : Bool → Prop} (h : EvB m tt Γ P) (k : P true → EvB m tu Γ P') : EvB m (tAnd tt tu) Γ (fun b => (b = false ∧ P false) ∨ (P true ∧ P' b)) := fun σ B H hs hp Q q => h σ B H hs hp _ fun b B' H' s r => by
  cases b with
  | true => exact k r σ B' H' (hs.mono s.sub) (hp.step s) Q fun b B2 H2 s2 r2 => q b B2 H2 (Step.trans hp s s2) (.inr ⟨r, r2⟩)
  | false => exact q false B' H' s (.inl ⟨rfl, r⟩)
theorem eb_or {P P' : Bool → Prop} (h : EvB m tt Γ P) (k : P false → EvB m tu Γ P') : EvB m (tOr tt tu) Γ (fun b => (b = true ∧ P true) ∨ (P false ∧ P' b)) := fun σ B H hs hp Q q => h σ B H hs hp _ fun b B' H' s r => by
  cases b with
  | false => exact k r σ B' H' (hs.mono s.sub) (hp.step s) Q fun b B2 H2 s2 r2 => q b B2 H2 (Step.trans hp s s2) (.inr ⟨r, r2⟩)
  | true => exact q true B' H' s (.inl ⟨rfl, r⟩)
theorem eb_andE {b c : Bool} (h : EvB m tt Γ (· = b)) (k : b = true → EvB m tu Γ (· = c)) : EvB m (tAnd tt tu) Γ (· = (b && c)) := (eb_and h fun e => k e.symm).le fun x hx => by
  rcases hx with ⟨h1, h2⟩ | ⟨h1, h2⟩
  · rw [h1, ← h2] <;> rfl
  · rw [h2, ← h1] <;> rfl
theorem eb_orE {b c : Bool} (h : EvB m tt Γ (· = b)) (k : b = false → EvB m tu Γ (· = c)) : EvB m (tOr tt tu) Γ (· = (b || c)) := (eb_or h fun e => k e.symm).le fun x hx => by
  rcases hx with ⟨h1, h2⟩ | ⟨h1, h2⟩
  · rw [h1, ← h2] <;> rfl
  · rw [h2, ← h1] <;> rfl
theorem eb_notE {b : Bool} (h : EvB m tt Γ (· = b)) : EvB m (tNot tt) Γ (· = !b) := (eb_not h).le fun x hx => by rw [← hx, Bool.not_not]
theorem eb_to {b c : Bool} (h : EvB m tt Γ (· = b)) (e : b = c) : EvB m tt Γ (· = c) := by rw [← e]; exact h
theorem ev_andV {b : Bool} {P : Bool → Prop} (h : EvG m ta Γ (dB b)) (k : b = true → EvG m tb Γ (rEx P dB)) : EvG m (tAndV ta tb) Γ (rEx (fun x => (x = false ∧ b = false) ∨ (b = true ∧ P x)) dB) := fun σ B H hs hp Q q =>
  h σ B H hs hp _ fun v B' H' s r => ⟨b, r, by
    cases b with
    | true => exact k rfl σ B' H' (hs.mono s.sub) (hp.step s) Q fun b B2 H2 s2 ⟨x, hx, r2⟩ => q b B2 H2 (Step.trans hp s s2) ⟨x, .inr ⟨rfl, hx⟩, r2⟩
    | false => exact q (.bl false) B' H' s ⟨false, .inl ⟨rfl, rfl⟩, rfl⟩⟩
theorem ev_andE {b c : Bool} (h : EvG m ta Γ (dB b)) (k : b = true → EvG m tb Γ (dB c)) : EvG m (tAndV ta tb) Γ (dB (b && c)) := fun σ B H hs hp Q q =>
  h σ B H hs hp _ fun v B' H' s r => ⟨b, r, by
    cases b with
    | true => exact k rfl σ B' H' (hs.mono s.sub) (hp.step s) Q fun b B2 H2 s2 r2 => q b B2 H2 (Step.trans hp s s2) r2
    | false => exact q (.bl false) B' H' s rfl⟩
theorem ev_orE {b c : Bool} (h : EvG m ta Γ (dB b)) (k : b = false → EvG m tb Γ (dB c)) : EvG m (tOrV ta tb) Γ (dB (b || c)) := fun σ B H hs hp Q q =>
  h σ B H hs hp _ fun v B' H' s r => ⟨b, r, by
    cases b with
    | false => exact k rfl σ B' H' (hs.mono s.sub) (hp.step s) Q fun b B2 H2 s2 r2 => q b B2 H2 (Step.trans hp s s2) r2
    | true => exact q (.bl true) B' H' s rfl⟩
theorem ev_notE {b : Bool} (h : EvG m ta Γ (dB b)) : EvG m (tNotV ta) Γ (dB (!b)) := fun σ B H hs hp Q q => h σ B H hs hp _ fun v B' H' s r => ⟨b, r, q (.bl (!b)) B' H' s rfl⟩
theorem ev_chain {r r' : R2} {tc : TE} {b c : Bool} {Rc : Rp} (ha : EvG m ta Γ Ra) (hb : EvG m tb Γ Rb) (h1 : Bin m r Ra Rb (dB b)) (hc : b = true → EvG m tc Γ Rc) (h2 : b = true → Bin m r' Rb Rc (dB c)) : EvG m (tChain r r' ta tb tc) Γ (dB (b && c)) := fun σ B H hs hp Q q =>
  ha σ B H hs hp _ fun x B1 H1 s1 r1 => hb σ B1 H1 (hs.mono s1.sub) (hp.step s1) _ fun y B2 H2 s2 r2 =>
    h1 B2 H2 x y ((hp.step s1).step s2) (Ra.mono s2.sub r1) r2 _ fun v B3 H3 s3 r3 => ⟨b, r3, by
      have s03 := Step.trans hp (Step.trans hp s1 s2) s3
      cases b with
      | false => exact q (.bl false) B3 H3 s03 rfl
      | true => exact hc rfl σ B3 H3 (hs.mono s03.sub) (hp.step s03) _ fun w B4 H4 s4 r4 => h2 rfl B4 H4 y w ((hp.step s03).step s4) (Rb.mono (s3.sub.trans s4.sub) r2) r4 Q fun v B5 H5 s5 r5 => q v B5 H5 (Step.trans hp (Step.trans hp s03 s4) s5) r5⟩
end
end Sq
/-! Sq, part B: statements, loops, comprehensions, defs. -/
namespace Sq
open PySem PySem.Spec PyProof.Rows L2

def Mt.add (m : Mt) (d : Addr) (P : HO → Prop) : Mt := ⟨fun a => m.dom a ∨ a = d, fun a o => (a = d → P o) ∧ (a ≠ d → m.ok a o)⟩

/-- what holds between the statements -/
structure Iv (m : Mt) where
  p : Hp → Hp → Prop
  fr : Addr → Prop
  pre : ∀ {B H : Hp}, p B H → Pre m B H
  step : ∀ {B H B' H' : Hp}, p B H → Step m B H B' H' → p B' H'
  frz : ∀ {B H : Hp} {a : Addr} {o : HO}, p B H → fr a → H a = some o → p (upd B a o) H
  chg : ∀ {B H : Hp} {a : Addr} {o o' : HO}, p B H → fr a → B a = none → H a = some o → p B (upd H a o')
  news : ∀ {B H : Hp} {a : Addr}, p B H → H a = none → fr a
  nm : ∀ {a : Addr}, fr a → ¬ m.dom a
  stepX : ∀ {B H B' H' : Hp} {d : Addr} {P : HO → Prop}, p B H → fr d → B d = none → Step (m.add d P) B H B' H' → p B' H'

section
variable {m : Mt}
/-- at a def's beginning the heap was H0, of which B0 stays -/
def I0 (m : Mt) (B0 H0 : Hp) (h0 : Pre m B0 H0) : Iv m where
  p := fun B H => Pre m B H ∧ Step m B0 H0 B H
  fr := fun a => H0 a = none
  pre := fun h => h.1
  step := fun ⟨h1, h2⟩ s => ⟨h1.step s, Step.trans h0 h2 s⟩
  frz := fun {B H a o} ⟨h1, h2⟩ hf e => by
    have nd : ¬ m.dom a := fun z => (h0.po a z).some hf
    have hb0 : B0 a = none := by
      cases z : B0 a with
      | none => rfl
      | some u => rw [h0.sub a u z] at hf; cases hf
    have sb : Sub (upd B a o) H := fun b u q => by
      by_cases z : b = a
      · subst z; rw [upd_same] at q; rw [e]; exact q
      · rw [upd_ne z] at q; exact h1.sub b u q
    refine ⟨⟨sb, h1.po, fun b z => ?_⟩, h2.keep, h2.po, fun b u q => ?_, sb, fun b u q => ?_⟩
    · have ne : b ≠ a := fun q => nd (q ▸ z)
      rw [upd_ne ne]
      exact h1.out b z
    · have ne : b ≠ a := fun z => by rw [z, hb0] at q; cases q
      rw [upd_ne ne]
      exact h2.sub b u q
    · by_cases z : b = a
      · subst z; exact .inr hf
      · rw [upd_ne z] at q; exact h2.new b u q
  chg := fun {B H a o o'} ⟨h1, h2⟩ hf hb e => by
    have nd : ¬ m.dom a := fun z => (h0.po a z).some hf
    have sb : Sub B (upd H a o') := fun b u q => by
      have ne : b ≠ a := fun z => by rw [z, hb] at q; cases q
      rw [upd_ne ne]
      exact h1.sub b u q
    have po : ∀ b, m.dom b → Po m b (upd H a o' b) := fun b z => by
      have ne : b ≠ a := fun q => nd (q ▸ z)
      rw [upd_ne ne]
      exact h1.po b z
    refine ⟨⟨sb, po, h1.out⟩, fun b u n q => ?_, po, h2.sub, sb, h2.new⟩
    have ne : b ≠ a := fun z => by rw [z, hf] at q; cases q
    rw [upd_ne ne]
    exact h2.keep b u n q
  news := fun {B H a} ⟨h1, h2⟩ e => by
    cases z : H0 a with
    | none => rfl
    | some u =>
      by_cases y : m.dom a
      · exact absurd e (h1.po a y).some
      · rw [h2.keep a u y z] at e
        cases e
  nm := fun {a} hf z => (h0.po a z).some hf
  stepX := fun {B H B' H' d P} ⟨h1, h2⟩ hf hb s => by
    have nd : ¬ m.dom d := fun z => (h0.po d z).some hf
    have po : ∀ b, m.dom b → Po m b (H' b) := fun b z => by
      obtain ⟨u, e, k⟩ := s.po b (.inl z)
      exact ⟨u, e, k.2 fun q => nd (q ▸ z)⟩
    have hB : ∀ b o, B' b = some o → B b = some o ∨ H b = none := s.new
    refine ⟨⟨s.sub', po, fun b z => ?_⟩, fun b u n q => ?_, po, h2.sub.trans s.sub, s.sub', fun b u q => ?_⟩
    · cases e : B' b with
      | none => rfl
      | some u =>
        rcases hB b u e with q | q
        · rw [h1.out b z] at q; cases q
        · exact absurd q (h1.po b z).some
    · have ne : b ≠ d := fun z => by rw [z, hf] at q; cases q
      exact s.keep b u (fun z => z.elim n ne) (h2.keep b u n q)
    · rcases hB b u q with e | e
      · exact h2.new b u e
      · refine .inr ?_
        cases z : H0 b with
        | none => rfl
        | some v =>
          by_cases y : m.dom b
          · exact absurd e (h1.po b y).some
          · rw [h2.keep b v y z] at e
            cases e
/-- an object of one's own, that may still change -/
def iOwn (I : Iv m) (a : Addr) (F : Hp → HO → Prop) (hF : ∀ {B B' : Hp} {o : HO}, Sub B B' → F B o → F B' o) : Iv m where
  p := fun B H => I.p B H ∧ I.fr a ∧ B a = none ∧ ∃ o, H a = some o ∧ F B o
  fr := fun b => I.fr b ∧ b ≠ a
  pre := fun h => I.pre h.1
  step := fun {B H B' H'} ⟨h1, h2, h3, o, h4, h5⟩ s => by
    refine ⟨I.step h1 s, h2, ?_, o, s.keep a o (I.nm h2) h4, hF s.sub h5⟩
    cases e : B' a with
    | none => rfl
    | some u =>
      rcases s.new a u e with q | q
      · rw [h3] at q; cases q
      · rw [h4] at q; cases q
  frz := fun {B H b o} ⟨h1, h2, h3, o', h4, h5⟩ hf e => by
    have hb : ∀ c u, B c = some u → upd B b o c = some u := fun c u q => by
      by_cases z : c = b
      · have q2 := (I.pre h1).sub c u q
        rw [z] at q2 ⊢
        rw [e] at q2
        rw [upd_same]
        exact q2
      · rw [upd_ne z]
        exact q
    exact ⟨I.frz h1 hf.1 e, h2, by rw [upd_ne hf.2.symm]; exact h3, o', h4, hF hb h5⟩
  chg := fun {B H b o o'} ⟨h1, h2, h3, u, h4, h5⟩ hf hb e => ⟨I.chg h1 hf.1 hb e, h2, h3, u, by rw [upd_ne hf.2.symm]; exact h4, h5⟩
  news := fun {B H b} ⟨h1, h2, h3, u, h4, h5⟩ e => ⟨I.news h1 e, fun z => by rw [z, h4] at e; cases e⟩
  nm := fun h => I.nm h.1
  stepX := fun {B H B' H' d P} ⟨h1, h2, h3, o, h4, h5⟩ hf hb s => by
    refine ⟨I.stepX h1 hf.1 hb s, h2, ?_, o, s.keep a o (fun z => z.elim (I.nm h2) fun q => hf.2 q.symm) h4, hF s.sub h5⟩
    cases e : B' a with
    | none => rfl
    | some u =>
      rcases s.new a u e with q | q
      · rw [h3] at q; cases q
      · rw [h4] at q; cases q
def fLst (Rs : List Rp) : Hp → HO → Prop := fun B o => ∃ xs, o = .lst xs ∧ AllR Rs B xs
theorem fLst_mono {Rs : List Rp} {B B' : Hp} {o : HO} (s : Sub B B') (h : fLst Rs B o) : fLst Rs B' o := by
  obtain ⟨xs, e, t⟩ := h
  exact ⟨xs, e, t.mono s⟩
/-- a list that still grows -/
def iLst (I : Iv m) (a : Addr) (Rs : List Rp) : Iv m := iOwn I a (fLst Rs) fLst_mono
/-- an object, by what is true of it -/
def iObj (I : Iv m) (a : Addr) (P : HO → Prop) : Iv m := iOwn I a (fun _ o => P o) fun _ h => h

/-! ### statements -/
def StG (m : Mt) (t : TS) (Γ : Gm) (I : Iv m) (D : Ends) : Prop := ∀ σ B H, Sl Γ σ B → I.p B H → t D σ H
def nxOf (Γ : Gm) (I : Iv m) : L2.St → Hp → Prop := fun σ H => ∃ B, Sl Γ σ B ∧ I.p B H
/-- what is wanted of a value handed back -/
def Rt (I : Iv m) (Q : VK) (R : Rp) : Prop := ∀ v B H, I.p B H → R.p B v → Q v H
variable {Γ Δ : Gm} {I J : Iv m} {D : Ends} {t u tb : TS} {te ta ti tv : TE} {tt : TT} {R S : Rp} {Rs Ss : List Rp} {i j : Nat} {K : PySem.W.Frag}
theorem Rt.le {Q : VK} (h : Rt I Q R) (k : Le S R) : Rt I Q S := fun v B H p r => h v B H p (k B v r)
theorem Rt.own {Q : VK} {a : Addr} {F : Hp → HO → Prop} {hF : ∀ {B B' : Hp} {o : HO}, Sub B B' → F B o → F B' o} (h : Rt I Q R) : Rt (iOwn I a F hF) Q R := fun v B H p r => h v B H p.1 r
theorem StG.ctx (h : StG m t Δ I D) (k : LeG Γ Δ) : StG m t Γ I D := fun σ B H hs hi => h σ B H (hs.le k) hi
theorem st_set (he : EvG m te Γ R) (h : StG m u (Γ.set i (some R)) I D) : StG m (tSeq (tAsg te (gName i)) u) Γ I D := fun σ B H hs hi =>
  he σ B H hs (I.pre hi) _ fun v B' H' s r => h _ B' H' ((hs.mono s.sub).set r) (I.step hi s)
theorem st_setx {α : Type} {P : α → Prop} {F : α → Rp} (he : EvG m te Γ (rEx P F)) (h : ∀ a, P a → StG m u (Γ.set i (some (F a))) I D) : StG m (tSeq (tAsg te (gName i)) u) Γ I D := fun σ B H hs hi =>
  he σ B H hs (I.pre hi) _ fun v B' H' s ⟨a, pa, r⟩ => h a pa _ B' H' ((hs.mono s.sub).set r) (I.step hi s)
theorem st_open {α : Type} {P : α → Prop} {F : α → Rp} (j : Nat) (hj : Γ[j]? = some (some (rEx P F))) (h : ∀ a, P a → StG m u (Γ.set j (some (F a))) I D) : StG m u Γ I D := fun σ B H hs hi => by
  obtain ⟨v, e, a, pa, r⟩ := hs.2 j _ hj
  refine h a pa σ B H ⟨by rw [List.length_set]; exact hs.1, fun k S q => ?_⟩ hi
  by_cases z : j = k
  · subst z
    have hl : j < Γ.length := (List.getElem?_eq_some_iff.mp hj).1
    rw [List.getElem?_set_self hl] at q
    have q' : F a = S := Option.some.inj (Option.some.inj q)
    subst q'
    exact ⟨v, e, r⟩
  · rw [List.getElem?_set_ne z] at q
    exact hs.2 k S q
theorem st_ret (he : EvG m te Γ R) (q : Rt I D.rt R) : StG m (tSeq (tRet te) u) Γ I D := fun σ B H hs hi => he σ B H hs (I.pre hi) _ fun v B' H' s r => q v B' H' (I.step hi s) r
theorem st_ret1 (he : EvG m te Γ R) (q : Rt I D.rt R) : StG m (tRet te) Γ I D := fun σ B H hs hi => he σ B H hs (I.pre hi) _ fun v B' H' s r => q v B' H' (I.step hi s) r
theorem st_retN (q : Rt I D.rt dN) : StG m (tSeq tRetN u) Γ I D := fun σ B H hs hi => q .non B H hi rfl
theorem st_nxt (h : StG m u Γ I D) : StG m tNext Γ I { D with nx := u D } := h
theorem st_end {Q : VK} {bk ct : L2.St → Hp → Prop} (q : Rt I Q dN) : StG m tNext Γ I ⟨fun _ H' => Q .non H', Q, bk, ct⟩ := fun σ B H hs hi => q .non B H hi rfl
theorem st_if {P : Bool → Prop} {t1 t2 : TS} (hc : EvB m tt Γ P) (h1 : P true → StG m t1 Γ I { D with nx := u D }) (h2 : P false → StG m t2 Γ I { D with nx := u D }) : StG m (tSeq (tIfS tt t1 t2) u) Γ I D := fun σ B H hs hi =>
  hc σ B H hs (I.pre hi) _ fun b B' H' s p => by
    cases b with
    | true => exact h1 p σ B' H' (hs.mono s.sub) (I.step hi s)
    | false => exact h2 p σ B' H' (hs.mono s.sub) (I.step hi s)
theorem st_drop (he : EvG m te Γ R) (h : StG m u Γ I D) : StG m (tSeq (tDrop te) u) Γ I D := fun σ B H hs hi => he σ B H hs (I.pre hi) _ fun v B' H' s _ => h σ B' H' (hs.mono s.sub) (I.step hi s)
theorem st_never : StG m (tSeq tNever u) Γ I D ↔ ∀ σ B H, Sl Γ σ B → I.p B H → False := Iff.rfl
/-- with a word between -/
theorem st_cut (Δ : Gm) (J : Iv m) (h1 : StG m t Γ I { D with nx := nxOf Δ J }) (h2 : StG m u Δ J D) : StG m (C8.tCut t u) Γ I D := fun σ B H hs hi => ⟨nxOf Δ J, h1 σ B H hs hi, fun σ' H' ⟨B', h3, h4⟩ => h2 σ' B' H' h3 h4⟩
theorem st_cutx {α : Type} (Δ : α → Gm) (J : α → Iv m) (h1 : StG m t Γ I { D with nx := fun σ H => ∃ a, nxOf (Δ a) (J a) σ H }) (h2 : ∀ a, StG m u (Δ a) (J a) D) : StG m (C8.tCut t u) Γ I D := fun σ B H hs hi => ⟨_, h1 σ B H hs hi, fun σ' H' ⟨a, B', h3, h4⟩ => h2 a σ' B' H' h3 h4⟩
theorem st_to {rt : VK} {bk ct : L2.St → Hp → Prop} (k : LeG Γ Δ) (hI : ∀ B H, I.p B H → J.p B H) : StG m tNext Γ I ⟨nxOf Δ J, rt, bk, ct⟩ := fun σ B H hs hi => ⟨B, hs.le k, hI B H hi⟩
theorem st_tox {α : Type} {Δ : α → Gm} {J : α → Iv m} {rt : VK} {bk ct : L2.St → Hp → Prop} (a : α) (k : LeG Γ (Δ a)) (hI : ∀ B H, I.p B H → (J a).p B H) : StG m tNext Γ I ⟨fun σ H => ∃ a, nxOf (Δ a) (J a) σ H, rt, bk, ct⟩ := fun σ B H hs hi => ⟨a, B, hs.le k, hI B H hi⟩
/-- a, b = e1, e2 -/
theorem st_par {Ra Rb : Rp} {ta : TA} (hij : i ≠ j) (h : EvA m ta Γ [Ra, Rb]) (k : StG m u ((Γ.set i (some Ra)).set j (some Rb)) I D) : StG m (tSeq (tPar i j ta) u) Γ I D := fun σ B H hs hi =>
  h σ B H hs (I.pre hi) _ fun vs B' H' s r => by
    obtain ⟨v, r1, rfl, hv, w, r2, rfl, hw, rfl⟩ := r
    exact ⟨v, w, rfl, k _ B' H' (((hs.mono s.sub).set hv).set hw) (I.step hi s)⟩
/-- targets -/
def TgG (m : Mt) (g : TG) (Γ : Gm) (R : Rp) (Δ : Gm) (js : List Nat) : Prop := ∀ σ B H x, Sl Γ σ B → Pre m B H → R.p B x → ∀ Q : L2.St → Hp → Prop, (∀ σ', Sl Δ σ' B → (∀ vs, (∀ j ∈ js, j ∈ vs) → L2.wipe σ' vs = L2.wipe σ vs) → Q σ' H) → g x σ H Q
def TgsG (m : Mt) (g : TGs) (Γ : Gm) (Rs : List Rp) (Δ : Gm) (js : List Nat) : Prop := ∀ σ B H xs, Sl Γ σ B → Pre m B H → AllR Rs B xs → ∀ Q : L2.St → Hp → Prop, (∀ σ', Sl Δ σ' B → (∀ vs, (∀ j ∈ js, j ∈ vs) → L2.wipe σ' vs = L2.wipe σ vs) → Q σ' H) → g xs σ H Q
theorem set_set_none {σ : L2.St} {i : Nat} {x : Option V} : (σ.set i x).set i none = σ.set i none := List.set_set ..
theorem wipe_set {σ : L2.St} {x : Option V} : ∀ {vs : List Nat} {j : Nat}, j ∈ vs → L2.wipe (σ.set j x) vs = L2.wipe σ vs := by
  intro vs j hj
  refine List.ext_getElem? fun k => ?_
  by_cases hk : k ∈ vs
  · have : ∀ τ : L2.St, τ.length = σ.length → (L2.wipe τ vs)[k]? = (L2.wipe σ vs)[k]? := by
      intro τ hl
      clear hj
      induction vs with
      | nil => simp at hk
      | cons v vs ih =>
        unfold L2.wipe
        by_cases z : v = k
        · subst z
          by_cases hv : v < σ.length
          · rw [List.getElem?_set_self (by rw [L2.wipe_length, hl]; exact hv), List.getElem?_set_self (by rw [L2.wipe_length]; exact hv)]
          · rw [List.getElem?_eq_none (by rw [List.length_set, L2.wipe_length, hl]; omega), List.getElem?_eq_none (by rw [List.length_set, L2.wipe_length]; omega)]
        · rw [List.getElem?_set_ne z, List.getElem?_set_ne z]
          exact ih ((List.mem_cons.mp hk).resolve_left fun e => z e.symm)
    exact this _ (by rw [List.length_set])
  · rw [L2.wipe_out hk, L2.wipe_out hk, List.getElem?_set_ne fun (e : j = k) => hk (e ▸ hj)]
theorem tg_name : TgG m (gName i) Γ R (Γ.set i (some R)) [i] := fun σ B H x hs hp r Q q => q _ (hs.set r) fun vs h => wipe_set (h i List.mem_cons_self)
theorem tgs_nil : TgsG m gNil Γ [] Γ [] := fun σ B H xs hs hp r Q q => ⟨r, q σ hs fun _ _ => rfl⟩
theorem tgs_cons {g : TG} {gs : TGs} {Θ : Gm} {js ks : List Nat} (h : TgG m g Γ R Δ js) (k : TgsG m gs Δ Rs Θ ks) : TgsG m (gCons g gs) Γ (R :: Rs) Θ (js ++ ks) := fun σ B H xs hs hp ⟨v, r, e, rv, rr⟩ Q q =>
  ⟨v, r, e, h σ B H v hs hp rv _ fun σ1 hs1 w1 => k σ1 B H r hs1 hp rr Q fun σ2 hs2 w2 => q σ2 hs2 fun vs hv => (w2 vs fun j hj => hv j (List.mem_append_right _ hj)).trans (w1 vs fun j hj => hv j (List.mem_append_left _ hj))⟩
theorem tg_tup {gs : TGs} {js : List Nat} {n : Nat} (h : TgsG m gs Γ Rs Δ js) (hn : Rs.length = n := by rfl) : TgG m (gTup K n gs) Γ (rT K Rs) Δ js := fun σ B H x hs hp ⟨a, xs, e, hT, r⟩ Q q =>
  ⟨a, xs, e, hp.sub.sqT hT, r.len.trans hn, h σ B H xs hs hp r Q q⟩
theorem tg_le {g : TG} {js : List Nat} (h : TgG m g Γ S Δ js) (k : Le R S) : TgG m g Γ R Δ js := fun σ B H x hs hp r Q q => h σ B H x hs hp (k B x r) Q q
/-- targets = e -/
theorem st_asg {g : TG} {js : List Nat} (he : EvG m te Γ R) (hg : TgG m g Γ R Δ js) (h : StG m u Δ I D) : StG m (tSeq (tAsg te g) u) Γ I D := fun σ B H hs hi =>
  he σ B H hs (I.pre hi) _ fun v B' H' s r => hg σ B' H' v (hs.mono s.sub) (I.pre (I.step hi s)) r _ fun σ' hs' _ => h σ' B' H' hs' (I.step hi s)

/-! ### one's own lists -/
theorem st_newL (h : ∀ a, StG m u (Γ.set i (some (rV (.ref a)))) (iLst I a []) D) : StG m (tSeq (tAsg (tLst tNil) (gName i)) u) Γ I D := fun σ B H hs hi => ⟨Nat.zero_le _, fun p np => by
  have hb : B p = none := by
    cases e : B p with
    | none => rfl
    | some o => rw [(I.pre hi).sub p o e] at np; cases np
  have s : Step m B H B (upd H p (.lst [])) := ((I.pre hi).new np).less (Sub.refl _) ((I.pre hi).new np).sub
  exact h p _ B _ (hs.set rfl) ⟨I.step hi s, I.news hi np, hb, .lst [], upd_same, [], rfl, rfl⟩⟩
theorem st_app {a : Addr} (hj : EvG m ta Γ (rV (.ref a))) (he : EvG m te Γ R) (hz : Rs.length < sizeLine) (h : StG m u Γ (iLst I a (Rs ++ [R])) D) : StG m (tSeq (tDrop (tBM K "list" rAppend ta (tCons te tNil))) u) Γ (iLst I a Rs) D := fun σ B H hs hi => by
  have hpre := (iLst I a Rs).pre hi
  refine hj σ B H hs hpre _ fun v B1 H1 s1 r1 => ?_
  have hi1 := (iLst I a Rs).step hi s1
  obtain rfl : v = .ref a := r1
  obtain ⟨_, _, _, o1, h41, xs1, e1, _⟩ := id hi1
  refine ⟨.inl ⟨rfl, xs1, SqL.of (by rw [h41, e1])⟩, ?_⟩
  refine he σ B1 H1 (hs.mono s1.sub) (hpre.step s1) _ fun y B2 H2 s2 r2 => ?_
  obtain ⟨g1, g2, g3, o, g4, xs, e, g5⟩ := (iLst I a Rs).step hi1 s2
  subst e
  refine ⟨a, xs, y, rfl, rfl, g4, by rw [g5.len]; exact hz, ?_⟩
  exact h σ B2 _ (hs.mono (s1.sub.trans s2.sub)) ⟨I.chg g1 g2 g3 g4, g2, g3, _, upd_same, _, rfl, g5.app ⟨y, [], rfl, r2, rfl⟩⟩
/-- it grows no more -/
theorem st_frz {a : Addr} (j : Nat) (hj : Γ[j]? = some (some (rV (.ref a)))) (h : StG m t (Γ.set j (some (rL Rs))) I D) : StG m t Γ (iLst I a Rs) D := fun σ B H hs hi => by
  obtain ⟨g1, g2, g3, o, g4, xs, e, g5⟩ := hi
  subst e
  have sb : Sub B (upd B a (.lst xs)) := fun b u q => by
    have ne : b ≠ a := fun z => by rw [z, g3] at q; cases q
    rw [upd_ne ne]
    exact q
  obtain ⟨v, e1, rv⟩ := hs.2 j _ hj
  obtain rfl : v = .ref a := rv
  have hlj : j < σ.length := (List.getElem?_eq_some_iff.mp e1).1
  refine h σ _ H ?_ (I.frz g1 g2 g4)
  have q := (hs.mono sb).set (i := j) (R := rL Rs) (v := .ref a) ⟨a, xs, rfl, upd_same, g5.mono sb⟩
  have e2 : σ.set j (some (.ref a)) = σ := by
    refine List.ext_getElem? fun k => ?_
    by_cases z : j = k
    · subst z; rw [List.getElem?_set_self hlj, e1]
    · rw [List.getElem?_set_ne z]
  rw [e2] at q
  exact q
theorem st_imp (h : StG m t Γ J D) (k : ∀ B H, I.p B H → J.p B H) : StG m t Γ I D := fun σ B H hs hi => h σ B H hs (k B H hi)
theorem iLst_le {a : Addr} (k : Les Rs Ss) {B H : Hp} (h : (iLst I a Rs).p B H) : (iLst I a Ss).p B H := by
  obtain ⟨g1, g2, g3, o, g4, xs, e, g5⟩ := h
  exact ⟨g1, g2, g3, o, g4, xs, e, g5.le k⟩

/-! ### loops -/
/-- an iterator that yields what Rs says, n times -/
def Src (m : Mt) (J : It) (n : Nat) (Rs : Nat → Option Rp) (B0 : Hp) : Prop := ∀ B H, Sub B0 B → Pre m B H → (∀ i, i < n → J.go i H ∧ ∀ x H', J.yld i H x H' → ∃ B' R, Step m B H B' H' ∧ Rs i = some R ∧ R.p B' x) ∧ J.stop n H
def EvI (m : Mt) (wi : TI) (Γ : Gm) (n : Nat) (Rs : Nat → Option Rp) : Prop := ∀ σ B H, Sl Γ σ B → Pre m B H → ∀ C : It → Hp → Prop, (∀ J B' H', Step m B H B' H' → Src m J n Rs B' → C J H') → wi σ H C
/-- .. that keeps B1 in mind -/
def iSub (I : Iv m) (B1 : Hp) : Iv m where
  p := fun B H => I.p B H ∧ Sub B1 B
  fr := I.fr
  pre := fun h => I.pre h.1
  step := fun h s => ⟨I.step h.1 s, h.2.trans s.sub⟩
  frz := fun {B H a o} h hf e => ⟨I.frz h.1 hf e, fun c u q => by
    have q1 := h.2 c u q
    by_cases z : c = a
    · have q2 := (I.pre h.1).sub c u q1
      rw [z] at q2 ⊢
      rw [e] at q2
      rw [upd_same]
      exact q2
    · rw [upd_ne z]
      exact q1⟩
  chg := fun h hf hb e => ⟨I.chg h.1 hf hb e, h.2⟩
  news := fun h e => I.news h.1 e
  nm := fun h => I.nm h
  stepX := fun h hf hb s => ⟨I.stepX h.1 hf hb s, h.2.trans s.sub⟩
def Imp (I J : Iv m) : Prop := ∀ B H, I.p B H → J.p B H
theorem Imp.refl (I : Iv m) : Imp I I := fun _ _ h => h
theorem Imp.sub {B1 : Hp} : Imp (iSub I B1) I := fun _ _ h => h.1
theorem Rt.of {Q : VK} (h : Rt I Q R) (k : Imp J I) : Rt J Q R := fun v B H p r => h v B H (k B H p) r
/-- a form of invariant over any other -/
structure Fam (Is : Iv m → Nat → Iv m) : Prop where
  to : ∀ {I : Iv m} {B1 : Hp} {k : Nat} {B H : Hp}, (Is I k).p B H → Sub B1 B → (Is (iSub I B1) k).p B H
  back : ∀ {I : Iv m} {B1 : Hp} {k : Nat} {B H : Hp}, (Is (iSub I B1) k).p B H → (Is I k).p B H ∧ Sub B1 B
theorem fam_id : Fam (m := m) (fun I _ => I) := ⟨fun h s => ⟨h, s⟩, fun h => h⟩
theorem fam_own {a : Addr} {F : Nat → Hp → HO → Prop} {hF : ∀ (k : Nat) {B B' : Hp} {o : HO}, Sub B B' → F k B o → F k B' o} : Fam (m := m) (fun I k => iOwn I a (F k) (hF k)) := ⟨fun h s => ⟨⟨h.1, s⟩, h.2⟩, fun h => ⟨⟨h.1.1, h.2⟩, h.1.2⟩⟩
theorem fam_own2 {a b : Addr} {F G : Nat → Hp → HO → Prop} {hF : ∀ (k : Nat) {B B' : Hp} {o : HO}, Sub B B' → F k B o → F k B' o} {hG : ∀ (k : Nat) {B B' : Hp} {o : HO}, Sub B B' → G k B o → G k B' o} : Fam (m := m) (fun I k => iOwn (iOwn I a (F k) (hF k)) b (G k) (hG k)) :=
  ⟨fun h s => ⟨⟨⟨h.1.1, s⟩, h.1.2⟩, h.2⟩, fun h => ⟨⟨⟨h.1.1.1, h.1.2⟩, h.2⟩, h.1.1.2⟩⟩
theorem fam_lst {a : Addr} {Rs : Nat → List Rp} : Fam (m := m) (fun I k => iLst I a (Rs k)) := fam_own (F := fun k => fLst (Rs k)) (hF := fun _ => fLst_mono)
theorem fam_obj {a : Addr} {P : Nat → HO → Prop} : Fam (m := m) (fun I k => iObj I a (P k)) := fam_own (F := fun k _ o => P k o) (hF := fun _ _ _ _ _ h => h)
theorem st_for {wi : TI} {g : TG} {n : Nat} {Ys : Nat → Option Rp} (Γs : Nat → Gm) (Is : Iv m → Nat → Iv m) (fam : Fam Is) (hw : EvI m wi Γ n Ys) (h0 : LeG Γ (Γs 0))
    (hb : ∀ (J : Iv m) k R, Imp J I → k < n → Ys k = some R → ∃ Δ js, TgG m g (Γs k) R Δ js ∧ StG m tb Δ (Is J k) { D with nx := nxOf (Γs (k + 1)) (Is J (k + 1)), ct := nxOf (Γs (k + 1)) (Is J (k + 1)), bk := u D })
    (hd : StG m u (Γs n) (Is I n) D) : StG m (tSeq (tFor wi g tb) u) Γ (Is I 0) D := fun σ B H hs hi => by
  refine hw σ B H hs ((Is I 0).pre hi) _ fun J B1 H1 s1 src => ?_
  have i1 := (Is I 0).step hi s1
  refine ⟨fun k c σ H => c = n - k ∧ k ≤ n ∧ nxOf (Γs k) (Is (iSub I B1) k) σ H, ⟨n, rfl, Nat.zero_le _, B1, (hs.mono s1.sub).le h0, fam.to i1 (Sub.refl _)⟩, ?_⟩
  rintro k c σ2 H2 ⟨rfl, hk, B2, hs2, hi2⟩
  obtain ⟨hi3, sb⟩ := fam.back hi2
  obtain ⟨go, stop⟩ := src B2 H2 sb ((Is I k).pre hi3)
  by_cases hlt : k < n
  · refine .inr ⟨(go k hlt).1, nxOf (Γs (k + 1)) (Is (iSub I B1) (k + 1)), fun σ' H' h' => ⟨n - (k + 1), by omega, rfl, hlt, h'⟩, fun x H' y => ?_⟩
    obtain ⟨B', R, sy, hR, rx⟩ := (go k hlt).2 x H' y
    obtain ⟨Δ, js, hg, hB⟩ := hb (iSub I B1) k R Imp.sub hlt hR
    have hi4 := (Is (iSub I B1) k).step hi2 sy
    refine hg σ2 B' H' x (hs2.mono sy.sub) ((Is (iSub I B1) k).pre hi4) rx _ fun σ3 hs3 _ => ?_
    exact hB σ3 B' H' hs3 hi4
  · have e : k = n := by omega
    subst e
    exact .inl ⟨stop, hd σ2 B2 H2 hs2 hi3⟩
/-- the sources -/
theorem ei_list {ta : TE} (h : EvG m ta Γ (rL Rs)) : EvI m (iList K ta) Γ Rs.length (fun i => Rs[i]?) := fun σ B H hs hp C c => h σ B H hs hp _ fun v B1 H1 s1 ⟨a, xs, e, ha, r⟩ => by
  have q : ∀ H', Sub B1 H' → SqL K H' a xs := fun H' sb => SqL.of (sb a _ ha)
  refine ⟨a, e, ⟨xs, q H1 (hp.step s1).sub⟩, c _ B1 H1 s1 fun B2 H2 sb hp2 => ⟨fun i hi => ?_, ⟨xs, q H2 (sb.trans hp2.sub), by rw [r.len] <;> exact Nat.le_refl _⟩⟩⟩
  have hi' : i < xs.length := by rw [r.len]; exact hi
  refine ⟨⟨xs, xs[i], q H2 (sb.trans hp2.sub), List.getElem?_eq_getElem hi'⟩, fun x H' y => ?_⟩
  obtain ⟨rfl, f⟩ := y
  have e1 := f xs (q _ (sb.trans hp2.sub))
  obtain ⟨R, e2, e3⟩ := r.get e1
  exact ⟨B2, R, hp2.refl, e2, R.mono sb e3⟩
theorem ei_sqL {ta : TE} {ns : List V} (h : EvG m ta Γ ⟨fun B v => ∃ a, v = .ref a ∧ SqL K B a ns, fun s ⟨a, e, h⟩ => ⟨a, e, s.sqL h⟩⟩) : EvI m (iList K ta) Γ ns.length (fun i => (ns[i]?).map rV) := fun σ B H hs hp C c => h σ B H hs hp _ fun v B1 H1 s1 ⟨a, e, ha⟩ => by
  have q : ∀ H', Sub B1 H' → SqL K H' a ns := fun H' sb => sb.sqL ha
  refine ⟨a, e, ⟨ns, q H1 (hp.step s1).sub⟩, c _ B1 H1 s1 fun B2 H2 sb hp2 => ⟨fun i hi => ?_, ⟨ns, q H2 (sb.trans hp2.sub), Nat.le_refl _⟩⟩⟩
  refine ⟨⟨ns, ns[i], q H2 (sb.trans hp2.sub), List.getElem?_eq_getElem hi⟩, fun x H' y => ?_⟩
  obtain ⟨rfl, f⟩ := y
  have e1 := f ns (q _ (sb.trans hp2.sub))
  exact ⟨B2, rV x, hp2.refl, by show (ns[i]?).map rV = some (rV x); rw [e1] <;> rfl, rfl⟩
theorem ei_tup {ta : TE} (h : EvG m ta Γ (rT K Rs)) : EvI m (iTup K ta) Γ Rs.length (fun i => Rs[i]?) := fun σ B H hs hp C c => h σ B H hs hp _ fun v B1 H1 s1 ⟨a, xs, e, ha, r⟩ => by
  have q : ∀ H', Sub B1 H' → SqT K H' a xs := fun H' sb => sb.sqT ha
  refine ⟨a, e, ⟨xs, q H1 (hp.step s1).sub⟩, c _ B1 H1 s1 fun B2 H2 sb hp2 => ⟨fun i hi => ?_, ⟨xs, q H2 (sb.trans hp2.sub), by rw [r.len] <;> exact Nat.le_refl _⟩⟩⟩
  have hi' : i < xs.length := by rw [r.len]; exact hi
  refine ⟨⟨xs, xs[i], q H2 (sb.trans hp2.sub), List.getElem?_eq_getElem hi'⟩, fun x H' y => ?_⟩
  obtain ⟨rfl, f⟩ := y
  have e1 := f xs (q _ (sb.trans hp2.sub))
  obtain ⟨R, e2, e3⟩ := r.get e1
  exact ⟨B2, R, hp2.refl, e2, R.mono sb e3⟩
theorem ei_rng1 {ta : TA} {n : Int} (h : EvA m ta Γ [dI n]) (hn : -(2 ^ 62) ≤ n ∧ n < 2 ^ 62) : EvI m (iRng1 ta) Γ n.toNat (fun i => some (dI (0 + (i : Int)))) := fun σ B H hs hp C c => h σ B H hs hp _ fun vs B1 H1 s1 ⟨v, r, e, hv, hr⟩ => by
  obtain rfl : r = [] := hr
  obtain rfl : v = .int n := hv
  exact ⟨n, e, hn.1, hn.2, c _ B1 H1 s1 fun B2 H2 sb hp2 => ⟨fun i hi => ⟨hi, fun x H' ⟨e1, e2⟩ => ⟨B2, _, by rw [e1]; exact hp2.refl, rfl, e2⟩⟩, Nat.le_refl _⟩⟩
theorem ei_rng2 {ta : TA} {lo n : Int} (h : EvA m ta Γ [dI lo, dI n]) (hn : -(2 ^ 62) ≤ lo ∧ lo < 2 ^ 62 ∧ -(2 ^ 62) ≤ n ∧ n < 2 ^ 62) : EvI m (iRng2 ta) Γ (n - lo).toNat (fun i => some (dI (lo + (i : Int)))) := fun σ B H hs hp C c => h σ B H hs hp _ fun vs B1 H1 s1 ⟨v, r, e, hv, w, r', e', hw, hr⟩ => by
  obtain rfl : r' = [] := hr
  obtain rfl : v = .int lo := hv
  obtain rfl : w = .int n := hw
  subst e'
  exact ⟨lo, n, e, hn, c _ B1 H1 s1 fun B2 H2 sb hp2 => ⟨fun i hi => ⟨hi, fun x H' ⟨e1, e2⟩ => ⟨B2, _, by rw [e1]; exact hp2.refl, rfl, e2⟩⟩, Nat.le_refl _⟩⟩
theorem ei_enum {ta : TE} (h : EvG m ta Γ (rL Rs)) : EvI m (iEnum K (tCons ta tNil)) Γ Rs.length (fun i => (Rs[i]?).map fun R => rT K [dI (i : Int), R]) := fun σ B H hs hp C c => h σ B H hs hp _ fun v B1 H1 s1 ⟨a, xs, e, ha, r⟩ => by
  subst e
  have q : ∀ H', Sub B1 H' → SqL K H' a xs := fun H' sb => SqL.of (sb a _ ha)
  refine ⟨a, xs, rfl, q H1 (hp.step s1).sub, c _ B1 H1 s1 fun B2 H2 sb hp2 => ⟨fun i hi => ?_, ⟨xs, q H2 (sb.trans hp2.sub), by rw [r.len] <;> exact Nat.le_refl _⟩⟩⟩
  have hi' : i < xs.length := by rw [r.len]; exact hi
  refine ⟨⟨xs, xs[i], q H2 (sb.trans hp2.sub), List.getElem?_eq_getElem hi'⟩, fun x H' y => ?_⟩
  obtain ⟨T, z, rfl, nT, rfl, f⟩ := y
  have e1 := f xs (q _ (sb.trans hp2.sub))
  obtain ⟨R, e2, e3⟩ := r.get e1
  refine ⟨_, rT K [dI (i : Int), R], hp2.new nT, by show (Rs[i]?).map _ = _; rw [e2] <;> rfl, T, _, rfl, SqT.of upd_same, _, _, rfl, rfl, _, _, rfl, R.mono (sb.trans (hp2.new nT).sub) e3, rfl⟩

/-! ### comprehensions -/
theorem wipe_self {σ : L2.St} {vs : List Nat} : L2.wipe (L2.wipe σ vs) vs = L2.wipe σ vs := by
  have : ∀ us : List Nat, (∀ j ∈ us, j ∈ vs) → L2.wipe (L2.wipe σ us) vs = L2.wipe σ vs := by
    intro us
    induction us with
    | nil => intro _; rfl
    | cons v us ih =>
      intro h
      show L2.wipe ((L2.wipe σ us).set v none) vs = _
      rw [wipe_set (h v List.mem_cons_self)]
      exact ih fun j hj => h j (List.mem_cons_of_mem _ hj)
  exact this vs fun _ h => h
/-- [e for target in source if test]: f tells which turns give, S what -/
theorem ev_lcF {wi : TI} {g : TG} {vs : List Nat} {n : Nat} {Ys : Nat → Option Rp} (f : Nat → Bool) (S : Nat → Rp) (hz : n < sizeLine) (hw : EvI m wi Γ n Ys)
    (hb : ∀ k R, k < n → Ys k = some R → ∃ Δ js, TgG m g (wipeG Γ vs) R Δ js ∧ (∀ j ∈ js, j ∈ vs) ∧ EvB m tt Δ (· = f k) ∧ (f k = true → EvG m te Δ (S k))) : EvG m (tLc wi g tt te vs) Γ (rL (((List.range n).filter f).map S)) := fun σ B H hs hp Q q => by
  refine hw σ B H hs hp _ fun J B1 H1 s1 src => ?_
  intro L nL
  have hp1 := hp.step s1
  have nd : ¬ m.dom L := fun z => (hp1.po L z).some nL
  have nB1 : B1 L = none := by
    cases e : B1 L with
    | none => rfl
    | some o => rw [hp1.sub L o e] at nL; cases nL
  refine ⟨fun k c H => c = n - k ∧ k ≤ n ∧ ∃ B2 acc, Step m B1 H1 B2 H ∧ B2 L = none ∧ H L = some (.lst acc) ∧ AllR (((List.range k).filter f).map S) B2 acc, ⟨n, rfl, Nat.zero_le _, B1, [], ?_, nB1, upd_same, rfl⟩, ?_⟩
  · exact (hp1.new nL).less (Sub.refl _) (hp1.new nL).sub
  rintro k c H2 ⟨rfl, hk, B2, acc, s2, nB2, hL, hR⟩
  have hp2 := hp1.step s2
  obtain ⟨go, stop⟩ := src B2 H2 s2.sub hp2
  have done : ∀ {B3 H3 : Hp} {B4 H4 : Hp}, Step m B1 H1 B3 H3 → H3 L = some (.lst acc) → B3 L = none → Step m B3 H3 B4 H4 → H4 L = some (.lst acc) ∧ B4 L = none ∧ Step m B1 H1 B4 H4 := fun {B3 H3 B4 H4} t1 t2 t3 t4 => by
    refine ⟨t4.keep L _ nd t2, ?_, Step.trans hp1 t1 t4⟩
    cases e : B4 L with
    | none => rfl
    | some o =>
      rcases t4.new L o e with z | z
      · rw [t3] at z; cases z
      · rw [t2] at z; cases z
  by_cases hlt : k < n
  · refine .inr ⟨(go k hlt).1, fun H' => ∃ B3 acc, Step m B1 H1 B3 H' ∧ B3 L = none ∧ H' L = some (.lst acc) ∧ AllR (((List.range (k + 1)).filter f).map S) B3 acc, fun H' h' => ⟨n - (k + 1), by omega, rfl, hlt, h'⟩, fun x H3 y => ?_⟩
    obtain ⟨B3, R, sy, eR, rx⟩ := (go k hlt).2 x H3 y
    obtain ⟨Δ, js, hg, hj, ht, he⟩ := hb k R hlt eR
    obtain ⟨a1, a2, a3⟩ := done s2 hL nB2 sy
    refine hg _ B3 H3 x (((hs.mono s1.sub).mono s2.sub).wipe vs |>.mono sy.sub) (hp1.step a3) rx _ fun σ4 hs4 w4 => ⟨?_, ?_⟩
    · rw [w4 vs hj, wipe_self]
    refine ht σ4 B3 H3 hs4 (hp1.step a3) _ fun b B4 H4 s4 eb => ?_
    subst eb
    obtain ⟨b1, b2, b3⟩ := done a3 a1 a2 s4
    cases ef : f k with
    | false =>
      refine ⟨B4, acc, b3, b2, b1, ?_⟩
      rw [List.range_succ, List.filter_append, List.map_append, List.filter_cons, if_neg (by rw [ef]; decide)]
      show AllR (((List.range k).filter f).map S ++ []) B4 acc
      rw [List.append_nil]
      exact hR.mono (sy.sub.trans s4.sub)
    | true =>
      refine he ef σ4 B4 H4 (hs4.mono s4.sub) (hp1.step b3) _ fun v B5 H5 s5 r5 => ?_
      obtain ⟨c1, c2, c3⟩ := done b3 b1 b2 s5
      refine ⟨acc, c1, ?_, B5, acc ++ [v], ?_, c2, upd_same, ?_⟩
      · rw [hR.len, List.length_map]
        exact Nat.lt_of_le_of_lt (Nat.le_trans (List.length_filter_le _ _) (by rw [List.length_range]; omega)) hz
      · refine ⟨fun a o na e => ?_, fun a da => ?_, c3.sub, fun a o e => ?_, c3.new⟩
        · have ne : a ≠ L := fun z => by rw [z, nL] at e; cases e
          rw [upd_ne ne]
          exact c3.keep a o na e
        · have ne : a ≠ L := fun z => nd (z ▸ da)
          rw [upd_ne ne]
          exact c3.po a da
        · have ne : a ≠ L := fun z => by rw [z, c2] at e; cases e
          rw [upd_ne ne]
          exact c3.sub' a o e
      · rw [List.range_succ, List.filter_append, List.map_append, List.filter_cons, if_pos (by rw [ef])]
        exact (hR.mono ((sy.sub.trans s4.sub).trans s5.sub)).app ⟨v, [], rfl, r5, rfl⟩
  · have e : k = n := by omega
    subst e
    refine .inl ⟨stop, q (.ref L) (upd B2 L (.lst acc)) H2 (Step.trans hp s1 ⟨s2.keep, s2.po, fun a o e => ?_, fun a o e => ?_, fun a o e => ?_⟩) ⟨L, acc, rfl, upd_same, hR.mono fun a o e => ?_⟩⟩
    · have ne : a ≠ L := fun z => by rw [z, nB1] at e; cases e
      rw [upd_ne ne]
      exact s2.sub a o e
    · by_cases z : a = L
      · subst z; rw [upd_same] at e; rw [hL]; exact e
      · rw [upd_ne z] at e; exact s2.sub' a o e
    · by_cases z : a = L
      · subst z; exact .inr nL
      · rw [upd_ne z] at e; exact s2.new a o e
    · have ne : a ≠ L := fun z => by rw [z, nB2] at e; cases e
      rw [upd_ne ne]
      exact e
theorem eb_yes : EvB m tYes Γ (· = true) := fun σ B H hs hp Q q => q true B H hp.refl rfl
theorem ev_lc {wi : TI} {g : TG} {vs : List Nat} {n : Nat} {Ys : Nat → Option Rp} (S : Nat → Rp) (hz : n < sizeLine) (hw : EvI m wi Γ n Ys)
    (hb : ∀ k R, k < n → Ys k = some R → ∃ Δ js, TgG m g (wipeG Γ vs) R Δ js ∧ (∀ j ∈ js, j ∈ vs) ∧ EvG m te Δ (S k)) : EvG m (tLc wi g tYes te vs) Γ (rL ((List.range n).map S)) :=
  (ev_lcF (fun _ => true) S hz hw fun k R hk e => by
    obtain ⟨Δ, js, h1, h2, h3⟩ := hb k R hk e
    exact ⟨Δ, js, h1, h2, eb_yes, fun _ => h3⟩).to (by
      congr 2
      exact List.filter_eq_self.mpr fun _ _ => rfl)
end

/-! ### defs -/
section
/-- a promise: for the letters i with pre i, arguments args, the answer res -/
def spF {ι : Type} (args : Mt → ι → List Rp) (pre : ι → Prop) (res : Mt → ι → Rp) : Sp := fun vs H Q _ => ∃ (m : Mt) (B : Hp) (i : ι), Pre m B H ∧ pre i ∧ AllR (args m i) B vs ∧ ∀ v B' H', Step m B H B' H' → (res m i).p B' v → Q v H'
/-- a call by values -/
def tCl (sp : Sp) (t : TA) : TE := fun σ H Q => t σ H fun vs H1 => sp vs H1 Q E0
variable {P : Program} {w : World} {K : PySem.W.Frag} {mg : Str → Option Value} {base : Heap}
structure Cal (P : Program) (w : World) (K : PySem.W.Frag) (mg : Str → Option Value) (base : Heap) (k : Nat) (x : Str) (sp : Sp) : Prop where
  ex : ∃ (f : Addr) (fd : FuncData) (ps : List Str), FnOk P w K mg base CX0 k f fd ps sp ∧ mg x = some (.ref f) ∧ PySem.W.keepIn K (.ref f) = true ∧ Binds K fd ps []
theorem Cal.mono {j k : Nat} {x : Str} {sp : Sp} (c : Cal P w K mg base j x sp) (h : j ≤ k) : Cal P w K mg base k x sp := by
  obtain ⟨f, fd, ps, h1, h2, h3, h4⟩ := c.ex
  exact ⟨f, fd, ps, h1.mono h, h2, h3, h4⟩
theorem pe_cal {X : Cx} {k j : Nat} {x : Str} {sp : Sp} {p pos : Pos} {e : Expr} {es : List Expr} {t : TA} (c : Cal X.prog X.w X.K X.mg X.base k x sp) {A : Around} (hr : Room j A) (hk : k ≤ j) (hg : Gl X x) (ha : PA X (e :: es) t) (hA : X.A = A := by rfl)
    (hdb : (x == ("__debug__" : Str)) = false := by decide) (he : starEach (e :: es) X.env = (false, eval e X.env) :: starEach es X.env := by rfl) (hpl : (backTo pos (starEach es X.env)).any (·.1) = false := by rfl) :
    PE X (.Call (.Name x p) (e :: es) [] pos) (tCl sp t) := by
  obtain ⟨f, fd, ps, h1, h2, h3, h4⟩ := c.ex
  refine ⟨fun pins s σ H Q I h => (pe_call h1 (show Room k X.A by rw [hA]; exact hr.mono hk) hg h2 h3 h4 .nil pass0 ha hdb he hpl).run pins s σ H Q I ?_⟩
  have e : (fun vs H1 => sp (vs ++ []) H1 Q E0) = fun vs H1 => sp vs H1 Q E0 := by
    funext vs H1
    rw [List.append_nil]
  show t σ H fun vs H1 => sp (vs ++ []) H1 Q E0
  rw [e]
  exact h
theorem pe_cal0 {X : Cx} {k j : Nat} {x : Str} {sp : Sp} {p pos : Pos} (c : Cal X.prog X.w X.K X.mg X.base k x sp) {A : Around} (hr : Room j A) (hk : k ≤ j) (hg : Gl X x) (hA : X.A = A := by rfl)
    (hdb : (x == ("__debug__" : Str)) = false := by decide) : PE X (.Call (.Name x p) [] [] pos) (tCl sp tNil) := by
  obtain ⟨f, fd, ps, h1, h2, h3, h4⟩ := c.ex
  exact ⟨fun pins s σ H Q I h => (pe_call0 h1 (show Room k X.A by rw [hA]; exact hr.mono hk) hg h2 h3 h4 .nil pass0 hdb).run pins s σ H Q I h⟩
theorem ev_call {m : Mt} {Γ : Gm} {t : TA} {ι : Type} {args : Mt → ι → List Rp} {pre : ι → Prop} {res : Mt → ι → Rp} (i : ι) (hp : pre i) (ha : EvA m t Γ (args m i)) : EvG m (tCl (spF args pre res) t) Γ (res m i) := fun σ B H hs hB Q q =>
  ha σ B H hs hB _ fun vs B1 H1 s1 r1 => ⟨m, B1, i, hB.step s1, hp, r1, fun v B2 H2 s2 r2 => q v B2 H2 (Step.trans hB s1 s2) r2⟩
def gam (N : List Str) (Rs : List Rp) : Gm := Rs.map some ++ List.replicate (N.length - Rs.length) none
theorem sl_start {N : List Str} {Rs : List Rp} {vs : List V} {B : Hp} (h : AllR Rs B vs) (hn : Rs.length ≤ N.length) : Sl (gam N Rs) (L2.start N vs) B := by
  have hl := h.len
  refine ⟨?_, fun i R e => ?_⟩
  · unfold gam L2.start
    rw [List.length_append, List.length_append, List.length_map, List.length_map, List.length_replicate, List.length_replicate, hl]
  · unfold gam at e
    by_cases hi : i < Rs.length
    · rw [List.getElem?_append_left (by rw [List.length_map]; exact hi), List.getElem?_map] at e
      cases q : Rs[i]? with
      | none => rw [q] at e; cases e
      | some S =>
        rw [q] at e
        have e' : S = R := Option.some.inj (Option.some.inj e)
        subst e'
        obtain ⟨v, h1, h2⟩ := h.at q
        refine ⟨v, ?_, h2⟩
        unfold L2.start
        rw [List.getElem?_append_left (by rw [List.length_map, hl]; exact hi), List.getElem?_map, h1] <;> rfl
    · rw [List.getElem?_append_right (by rw [List.length_map]; omega), List.getElem?_replicate] at e
      split at e
      · cases e
      · cases e
/-- where a def of the text stands -/
structure Df (K : PySem.W.Frag) (mg : Str → Option Value) (y x : Str) (st : Stmt) : Prop where
  ex : ∃ (f : Addr) (fd : FuncData), Fun K x x st f fd ∧ mg y = some (.ref f)
theorem cal_of {y x : Str} {st : Stmt} {N ps : List Str} {k : Nat} {ι : Type} {args : Mt → ι → List Rp} {pre : ι → Prop} {res : Mt → ι → Rp} (D : Df K mg y x st) (S : FnScope N ps (defScope st))
    (hb : ∀ (kV doc pm : Value) (an : Option Addr) (cdv ct : Value) (us : List Value), us.length = ps.length → bindArgs (PySem.W.fnOf x x (defArgs st) (defBody st) (defScope st) .none kV doc pm an cdv ct) ⟨us, []⟩ = pure (ps.zip us))
    (hl : ∀ m i, (args m i).length = ps.length) (hN : ps.length ≤ N.length)
    (hbody : ∀ (f : Addr) (cdv : Value) (A : Around) (outer : List Env) (s : Shared) (H : Hp) (E : XK), Room k (A.deeper (envOfC x (defScope st) s.heap.objs.size f cdv)) →
      ∃ t, PSs (cxOf CX0 P w K mg base N x (defScope st) f cdv A outer s H E).nox (defBody st) t ∧
        ∀ (m : Mt) (B0 H0 : Hp) (i : ι) (Q : VK) (hp : Pre m B0 H0), pre i → Rt (I0 m B0 H0 hp) Q (res m i) → StG m t (gam N (args m i)) (I0 m B0 H0 hp) { nx := fun _ H' => Q .non H', rt := Q }) : Cal P w K mg base (k + 1) y (spF args pre res) := by
  obtain ⟨f, fd, F, hm⟩ := D.ex
  refine ⟨f, fd, ps, F.ok S (fun vs H Q E h => ?_) (fun cdv A outer s H vs Q E hr h => ?_), hm, F.kp, F.binds hb⟩
  · obtain ⟨m, B, i, _, _, h, _⟩ := h
    rw [h.len]
    exact hl m i
  · obtain ⟨t, h1, h2⟩ := hbody f cdv A outer s H E hr
    obtain ⟨m, B, i, hp, hpre, ha, q⟩ := h
    refine ⟨t, h1, h2 m B H i Q hp hpre (fun v B' H' p r => q v B' H' p.2 r) _ B H (sl_start ha (by rw [hl]; exact hN)) ⟨hp, hp.refl⟩⟩
end
end Sq
/-! Sq, part C: the operators and built-ins of this program over the judgements. -/
namespace Sq
open PySem PySem.Spec PyProof.Rows L2

/-! ### several ways for one sign -/
def rAddA : R2 := fun x y H Q => rI0 (fun i j => .int (i + j)) x y H Q ∨ ((∃ i j, x = .str i ∧ y = .str j ∧ i.length + j.length ≤ sizeLine ∧ Q (.str (i ++ j)) H) ∨ rCat x y H Q)
theorem op_addA {X : Cx} : OpR X (binaryOp .Add) rAddA := op_add.or (op_add_str.or op_cat)
def rEqA (K : PySem.W.Frag) : R2 := fun x y H Q => rEq x y H Q ∨ rEqD K x y H Q
def rNeA (K : PySem.W.Frag) : R2 := fun x y H Q => rNe x y H Q ∨ rNeD K x y H Q
theorem op_eqA {X : Cx} {A : Around} {k : Nat} (hr : Room k A) (hA : X.A = A) : OpR X (compareOp .Eq) (rEqA X.K) := op_eq.or (op_eqD (by rw [hA]; exact hr.units))
theorem op_neA {X : Cx} {A : Around} {k : Nat} (hr : Room k A) (hA : X.A = A) : OpR X (compareOp .NotEq) (rNeA X.K) := op_ne.or (op_neD (by rw [hA]; exact hr.units))
def rInA (K : PySem.W.Frag) : R2 := fun x y H Q => rIn K false x y H Q ∨ rInD K x y H Q
def rNiA (K : PySem.W.Frag) : R2 := fun x y H Q => rIn K true x y H Q ∨ rNotInD K x y H Q
theorem units65 {A : Around} {k : Nat} (hr : Room k A) : A.units + 65 < cLine := by have := hr.un; omega
theorem op_inA {X : Cx} {A : Around} {k : Nat} (hr : Room k A) (hA : X.A = A) : OpR X (compareOp .In) (rInA X.K) := op_in_seq.or (op_inD (by rw [hA]; exact units65 hr))
theorem op_niA {X : Cx} {A : Around} {k : Nat} (hr : Room k A) (hA : X.A = A) : OpR X (compareOp .NotIn) (rNiA X.K) := op_notIn_seq.or (op_notInD (by rw [hA]; exact units65 hr))
/-- a, b, .. = a tuple or a list -/
def gUn (K : PySem.W.Frag) (n : Nat) (t : TGs) : TG := fun v σ H Q => gTup K n t v σ H Q ∨ gLst K n t v σ H Q
theorem pg_un {X : Cx} {pos : Pos} {es : List Expr} {k : Nat} {t : TGs} {n : Nat} (hc : X.calm = true) (h : PGs X es t)
    (hn : (assignEach es X.env).length = n := by rfl) (hst : (assignEach es X.env).findIdx? (·.1) = none := by rfl) : PG X (.Tuple es k pos) (gUn X.K n t) := by
  refine ⟨fun pins s σ H v u Q I r hw => ?_⟩
  rcases hw with hw | hw
  · exact (pg_tup (pos := pos) hc h hn hst).run pins s σ H v u Q I r hw
  · exact (pg_lst (pos := pos) (k := k) hc h hn hst).run pins s σ H v u Q I r hw
/-- for x in a list or a tuple -/
def iSeq (K : PySem.W.Frag) (tl : TE) : TI := fun σ H R => iList K tl σ H R ∨ iTup K tl σ H R
theorem pi_seq {X : Cx} {tg l : Expr} {tl : TE} (hl : PE X l tl) : PI X tg l (iSeq X.K tl) := by
  refine ⟨fun pins s σ H R I h => ?_⟩
  rcases h with h | h
  · exact (pi_list hl).run pins s σ H R I h
  · exact (pi_tup hl).run pins s σ H R I h
/-- slices -/
def rSlQ (K : PySem.W.Frag) : V → Option Int → Option Int → Hp → VK → Prop := fun x lo hi H Q => rSlL K x lo hi H Q ∨ rSlS x lo hi H Q
theorem sl_seq {X : Cx} : SlR X (rSlQ X.K) := sl_list.or sl_str
/-- the same without defaults -/
theorem pe_lcX {X : Cx} {elt tg iter : Expr} {ifs : List Expr} {scope : Scope} {own : List (Str × Nat)} {pos : Pos} {wi : TI} {g : TG} {tt : TT} {te : TE} (hc : X.calm = true) (hN : X.N.Nodup) (hi : PI X tg iter wi) (ok : BlkOk X.N X.env.scope scope own)
    (hg : ∀ (s : Shared) (H : Hp) (C : Addr) (cl : List (Str × Addr)) (fp : List Addr), PG (X.blk s H scope (compEnvC scope cl C X.env) fp) tg g) (ht : ∀ (s : Shared) (H : Hp) (C : Addr) (cl : List (Str × Addr)) (fp : List Addr), PTs (X.blk s H scope (compEnvC scope cl C X.env) fp) ifs tt)
    (he : ∀ (s : Shared) (H : Hp) (C : Addr) (cl : List (Str × Addr)) (fp : List Addr), PE (X.blk s H scope (compEnvC scope cl C X.env) fp) elt te) (hs : ∀ x, foldedSetIterable iter X.env x = pure x) :
    PE X (.ListComp elt [⟨tg, iter, ifs, 0⟩] scope pos) (tLc wi g tt te (own.map (·.2))) := pe_lc hc hN hi ok hg ht he hs
theorem ps_setLcX {X : Cx} {i : Nat} {y : Str} {py : Pos} {elt tg iter : Expr} {ifs : List Expr} {scope : Scope} {own : List (Str × Nat)} {pos spos : Pos} {wi : TI} {g : TG} {tt : TT} {te : TE} (hc : X.calm = true) (hN : X.N.Nodup) (hy : X.N[i]? = some y) (hyl : X.env.scope.names.lookup y = some .local)
    (hsw : swapsWith (.ListComp elt [⟨tg, iter, ifs, 0⟩] scope pos) (some (.Name y py)) spos.line X.env = pure true) (hi : PI X tg iter wi) (ok : BlkOk X.N X.env.scope scope own)
    (hg : ∀ (s : Shared) (H : Hp) (C : Addr) (cl : List (Str × Addr)) (fp : List Addr), PG (X.blk s H scope (compEnvC scope cl C X.env) fp) tg g) (ht : ∀ (s : Shared) (H : Hp) (C : Addr) (cl : List (Str × Addr)) (fp : List Addr), PTs (X.blk s H scope (compEnvC scope cl C X.env) fp) ifs tt)
    (he : ∀ (s : Shared) (H : Hp) (C : Addr) (cl : List (Str × Addr)) (fp : List Addr), PE (X.blk s H scope (compEnvC scope cl C X.env) fp) elt te) (hs : ∀ x, foldedSetIterable iter X.env x = pure x) :
    PS X (.Assign [.Name y py] (.ListComp elt [⟨tg, iter, ifs, 0⟩] scope pos) spos) (tAsg (tLc wi g tt te (own.map (·.2))) (gName i)) := ps_setLc hc hN hy hyl hsw hi ok hg ht he hs
theorem pg_nameX {X : Cx} {pos : Pos} {i : Nat} {x : Str} (hN : X.N.Nodup) (hi : X.N[i]? = some x) (hx : Loc X.env.scope x) (hf : X.fn x = true ∨ X.env.scope.names.lookup x = some .local) : PG X (.Name x pos) (gName i) := pg_name hN hi hx hf
theorem pg_unX {X : Cx} {pos : Pos} {es : List Expr} {k : Nat} {t : TGs} {n : Nat} (hc : X.calm = true) (hn : (assignEach es X.env).length = n) (hst : (assignEach es X.env).findIdx? (·.1) = none) (h : PGs X es t) : PG X (.Tuple es k pos) (gUn X.K n t) := pg_un hc h hn hst
abbrev rLen (K : PySem.W.Frag) : List V → Hp → VK → Prop := fun xs H Q => ∃ x n, xs = [x] ∧ LenV K x H n ∧ Q (.int n) H
abbrev rList (K : PySem.W.Frag) : List V → Hp → VK → Prop := fun xs H Q => ∃ p ys, xs = [.ref p] ∧ (SqL K H p ys ∨ SqT K H p ys) ∧ ∀ l, H l = none → Q (.ref l) (upd H l (.lst ys))
abbrev rTuple (K : PySem.W.Frag) : List V → Hp → VK → Prop := fun xs H Q => ∃ p ys, xs = [.ref p] ∧ ((SqL K H p ys ∧ ∀ l, H l = none → Q (.ref l) (upd H l (.tup ys))) ∨ (SqT K H p ys ∧ Q (.ref p) H))
/-! .. with the frame named -/
section
variable {X : Cx} {A : Around} {k : Nat} {K : PySem.W.Frag} {pos : Pos}
theorem assignEach_length : ∀ (es : List Expr) (e : Env), (assignEach es e).length = es.length
  | [], e => by simp [assignEach]
  | x :: es, e => by cases x <;> simp [assignEach, assignEach_length es e]
theorem op_eqK (hr : Room k A) (hA : X.A = A) (hK : X.K = K) : OpR X (compareOp .Eq) (rEqA K) := by subst hK; exact op_eqA hr hA
theorem op_neK (hr : Room k A) (hA : X.A = A) (hK : X.K = K) : OpR X (compareOp .NotEq) (rNeA K) := by subst hK; exact op_neA hr hA
theorem op_inK (hr : Room k A) (hA : X.A = A) (hK : X.K = K) : OpR X (compareOp .In) (rInA K) := by subst hK; exact op_inA hr hA
theorem op_niK (hr : Room k A) (hA : X.A = A) (hK : X.K = K) : OpR X (compareOp .NotIn) (rNiA K) := by subst hK; exact op_niA hr hA
theorem ix_seqK (hK : X.K = K) : IxR X (rIx K) := by subst hK; exact ix_seq
theorem sl_seqK (hK : X.K = K) : SlR X (rSlQ K) := by subst hK; exact sl_seq
theorem pg_unK {es : List Expr} {n' : Nat} {t : TGs} {n : Nat} (hK : X.K = K) (hc : X.calm = true) (hn : es.length = n) (hst : (assignEach es X.env).findIdx? (·.1) = none) (h : PGs X es t) : PG X (.Tuple es n' pos) (gUn K n t) := by subst hK; exact pg_un hc h ((assignEach_length es X.env).trans hn) hst
theorem pi_seqK {tg l : Expr} {tl : TE} (hK : X.K = K) (hl : PE X l tl) : PI X tg l (iSeq K tl) := by subst hK; exact pi_seq hl
theorem call_tupleK (hK : X.K = K) : CallR X (.type "tuple") (rTuple K) := by subst hK; exact call_tuple_of
theorem call_listK (hK : X.K = K) : CallR X (.type "list") (rList K) := by subst hK; exact call_list_of
theorem call_lenK (hK : X.K = K) : CallR X (.builtin "len") (rLen K) := by subst hK; exact call_len
theorem pe_fldK {e : Expr} {ta : TE} {f : Str} (hK : X.K = K) (he : PE X e ta) (hb : attributeBase e f X.env (eval e X.env) = eval e X.env) : PE X (.Attribute e f pos) (tFld K ta f) := by subst hK; exact pe_fld he hb
theorem pe_indexK {o e : Expr} {es : List Expr} {to : TE} {t : TA} {apos cpos : Pos} (hK : X.K = K) (ho : PE X o to) (ha : PA X (e :: es) t)
    (hbase : attributeBase o "index" X.env (eval o X.env) = eval o X.env)
    (hfew : ((backTo cpos (starEach (e :: es) X.env)).all (fun x => !x.1) && (backToKw cpos (keywordEach [] X.env)).all (fun x => x.1.isSome)
      && decide ((e :: es).length + ([] : List Keyword).length + (if ([] : List Keyword).isEmpty then 0 else 1) < 30)) = true)
    (hs : starEach (e :: es) X.env = (false, eval e X.env) :: starEach es X.env) (hplain : (backTo cpos (starEach es X.env)).any (·.1) = false)
    (hline : (apos.endLine == cpos.line) = true) : PE X (.Call (.Attribute o "index" apos) (e :: es) [] cpos) (tBM K "list" (rIndex K) to t) := by
  subst hK; exact pe_bm PySem.F.plainAttrs_list PySem.F.slot_list_index PySem.F.type_list_index mt_index ho ha hbase hfew hline hs hplain
end

section
variable {m : Mt} {Γ Δ : Gm} {ta tb te : TE} {tt tu : TT} {t u : TA} {R S Ra Rb Ro : Rp} {Rs Ss : List Rp} {K : PySem.W.Frag} {i j : Int} {x y : Str}
theorem vr (n : Nat) (h : Γ[n]? = some (some R) := by rfl) : EvG m (tVar n) Γ R := ev_var h
theorem kI {n : Int} : EvG m (tC (.int n)) Γ (dI n) := ev_c
theorem kS {n : Str} : EvG m (tC (.str n)) Γ (dS n) := ev_c
theorem kB {n : Bool} : EvG m (tC (.bl n)) Γ (dB n) := ev_c
theorem kN : EvG m (tC .non) Γ dN := ev_c
theorem ev_add (ha : EvG m ta Γ (dI i)) (hb : EvG m tb Γ (dI j)) : EvG m (tOp rAddA ta tb) Γ (dI (i + j)) :=
  ev_op ha hb (bin_now fun B H x y _ hx hy => ⟨_, rfl, fun Q q => .inl ⟨i, j, hx, hy, q⟩⟩)
theorem ev_sub (ha : EvG m ta Γ (dI i)) (hb : EvG m tb Γ (dI j)) : EvG m (tOp (rI0 fun i j => .int (i - j)) ta tb) Γ (dI (i - j)) := ev_op ha hb bI0
theorem ev_adds (ha : EvG m ta Γ (dS x)) (hb : EvG m tb Γ (dS y)) (h : x.length + y.length ≤ sizeLine) : EvG m (tOp rAddA ta tb) Γ (dS (x ++ y)) :=
  ev_op ha hb (bin_now fun B H x' y' _ hx hy => ⟨_, rfl, fun Q q => .inr (.inl ⟨x, y, hx, hy, h, q⟩)⟩)
theorem ev_cat (ha : EvG m ta Γ (rL Rs)) (hb : EvG m tb Γ (rL Ss)) (h : Rs.length + Ss.length ≤ sizeLine) : EvG m (tOp rAddA ta tb) Γ (rL (Rs ++ Ss)) :=
  ev_op ha hb fun B H x y hp hx hy Q q => by
    obtain ⟨a, xs, rfl, ea, ra⟩ := hx
    obtain ⟨b, ys, rfl, eb, rb⟩ := hy
    exact .inr (.inr ⟨a, b, xs, ys, rfl, rfl, hp.sub a _ ea, hp.sub b _ eb, by rw [ra.len, rb.len]; exact h, fun p np => q _ _ _ (hp.new np) ⟨p, _, rfl, upd_same, (ra.app rb).mono (hp.new np).sub⟩⟩)
theorem ev_mul (ha : EvG m ta Γ (dI i)) (hb : EvG m tb Γ (dI j)) (h : CMulX i j) : EvG m (tOp (rI CMulX fun i j => .int (i * j)) ta tb) Γ (dI (i * j)) := ev_op ha hb (bI h)
theorem ev_fdiv (ha : EvG m ta Γ (dI i)) (hb : EvG m tb Γ (dI j)) (h : CDivW i j) : EvG m (tOp (rI CDivW fun i j => .int (i / j)) ta tb) Γ (dI (i / j)) := ev_op ha hb (bI h)
theorem ev_mod (ha : EvG m ta Γ (dI i)) (hb : EvG m tb Γ (dI j)) (h : 0 < j) : EvG m (tOp (rI (fun _ j => 0 < j) fun i j => .int (i % j)) ta tb) Γ (dI (i % j)) := ev_op ha hb (bI h)
theorem ev_pow (ha : EvG m ta Γ (dI i)) (hb : EvG m tb Γ (dI j)) (h : CPow i j) : EvG m (tOp (rI CPow fun i j => .int (i ^ j.toNat)) ta tb) Γ (dI (i ^ j.toNat)) := ev_op ha hb (bI h)
theorem ev_shl (ha : EvG m ta Γ (dI i)) (hb : EvG m tb Γ (dI j)) (h : CShl i j) : EvG m (tOp (rI CShl fun i j => .int (i * 2 ^ j.toNat)) ta tb) Γ (dI (i * 2 ^ j.toNat)) := ev_op ha hb (bI h)
theorem ev_shr (ha : EvG m ta Γ (dI i)) (hb : EvG m tb Γ (dI j)) (h : 0 ≤ j) : EvG m (tOp (rI (fun _ j => 0 ≤ j) fun i j => .int (i / 2 ^ j.toNat)) ta tb) Γ (dI (i / 2 ^ j.toNat)) := ev_op ha hb (bI h)
theorem ev_band (ha : EvG m ta Γ (dI i)) (hb : EvG m tb Γ (dI j)) : EvG m (tOp (rI0 fun i j => .int (Builtin.bitAnd i j)) ta tb) Γ (dI (Builtin.bitAnd i j)) := ev_op ha hb bI0
theorem ev_bor (ha : EvG m ta Γ (dI i)) (hb : EvG m tb Γ (dI j)) : EvG m (tOp (rI0 fun i j => .int (Builtin.bitOr i j)) ta tb) Γ (dI (Builtin.bitOr i j)) := ev_op ha hb bI0
theorem ev_bxor (ha : EvG m ta Γ (dI i)) (hb : EvG m tb Γ (dI j)) : EvG m (tOp (rI0 fun i j => .int (Builtin.bitXor i j)) ta tb) Γ (dI (Builtin.bitXor i j)) := ev_op ha hb bI0
theorem ev_neg (ha : EvG m ta Γ (dI i)) : EvG m (tUn (rU fun i => .int (-i)) ta) Γ (dI (-i)) := ev_un ha uI
theorem ev_lt (ha : EvG m ta Γ (dI i)) (hb : EvG m tb Γ (dI j)) : EvG m (tOp (rI0 fun i j => .bl (decide (i < j))) ta tb) Γ (dB (decide (i < j))) := ev_op ha hb bI0
theorem ev_le (ha : EvG m ta Γ (dI i)) (hb : EvG m tb Γ (dI j)) : EvG m (tOp (rI0 fun i j => .bl (decide (i ≤ j))) ta tb) Γ (dB (decide (i ≤ j))) := ev_op ha hb bI0
theorem ev_gt (ha : EvG m ta Γ (dI i)) (hb : EvG m tb Γ (dI j)) : EvG m (tOp (rI0 fun i j => .bl (decide (j < i))) ta tb) Γ (dB (decide (j < i))) := ev_op ha hb bI0
theorem ev_ge (ha : EvG m ta Γ (dI i)) (hb : EvG m tb Γ (dI j)) : EvG m (tOp (rI0 fun i j => .bl (decide (j ≤ i))) ta tb) Γ (dB (decide (j ≤ i))) := ev_op ha hb bI0
theorem dec_iff {p q : Prop} [Decidable p] [Decidable q] (h : p ↔ q) : decide p = decide q := by
  by_cases x : p
  · rw [decide_eq_true x, decide_eq_true (h.mp x)]
  · rw [decide_eq_false x, decide_eq_false fun y => x (h.mpr y)]
theorem vint_iff {i j : Int} : V.int i = V.int j ↔ i = j := ⟨fun h => V.int.inj h, fun h => by rw [h]⟩
theorem vstr_iff {i j : Str} : V.str i = V.str j ↔ i = j := ⟨fun h => V.str.inj h, fun h => by rw [h]⟩
theorem vbl_iff {i j : Bool} : V.bl i = V.bl j ↔ i = j := ⟨fun h => V.bl.inj h, fun h => by rw [h]⟩
theorem bEqA {x y : V} {b : Bool} (h : scal x y = true) (e : decide (x = y) = b) : Bin m (rEqA K) (rV x) (rV y) (dB b) := bin_now fun B H x' y' _ hx hy => ⟨_, rfl, fun Q q => by rw [hx, hy]; exact .inl ⟨h, by rw [e]; exact q⟩⟩
theorem bNeA {x y : V} {b : Bool} (h : scal x y = true) (e : (!decide (x = y)) = b) : Bin m (rNeA K) (rV x) (rV y) (dB b) := bin_now fun B H x' y' _ hx hy => ⟨_, rfl, fun Q q => by rw [hx, hy]; exact .inl ⟨h, by rw [e]; exact q⟩⟩
theorem ev_eqI (ha : EvG m ta Γ (dI i)) (hb : EvG m tb Γ (dI j)) : EvG m (tOp (rEqA K) ta tb) Γ (dB (decide (i = j))) := ev_op ha hb (bEqA rfl (dec_iff vint_iff))
theorem ev_neI (ha : EvG m ta Γ (dI i)) (hb : EvG m tb Γ (dI j)) : EvG m (tOp (rNeA K) ta tb) Γ (dB (!decide (i = j))) := ev_op ha hb (bNeA rfl (by rw [dec_iff vint_iff]))
theorem ev_eqS (ha : EvG m ta Γ (dS x)) (hb : EvG m tb Γ (dS y)) : EvG m (tOp (rEqA K) ta tb) Γ (dB (decide (x = y))) := ev_op ha hb (bEqA rfl (dec_iff vstr_iff))
theorem ev_neS (ha : EvG m ta Γ (dS x)) (hb : EvG m tb Γ (dS y)) : EvG m (tOp (rNeA K) ta tb) Γ (dB (!decide (x = y))) := ev_op ha hb (bNeA rfl (by rw [dec_iff vstr_iff]))
theorem ev_eqB {b c : Bool} (ha : EvG m ta Γ (dB b)) (hb : EvG m tb Γ (dB c)) : EvG m (tOp (rEqA K) ta tb) Γ (dB (decide (b = c))) := ev_op ha hb (bEqA rfl (dec_iff vbl_iff))
theorem ev_eqD {d e : PyData} (ha : EvG m ta Γ (rD K d)) (hb : EvG m tb Γ (rD K e)) (hd : SeqAt.shaped d = true) (he : SeqAt.shaped e = true) : EvG m (tOp (rEqA K) ta tb) Γ (dB (PyData.eqv d e)) :=
  ev_op ha hb (bin_now fun B H x y hp hx hy => ⟨_, rfl, fun Q q => .inr ⟨d, e, hp.sub.dp hx, hp.sub.dp hy, hd, he, q⟩⟩)
theorem ev_neD {d e : PyData} (ha : EvG m ta Γ (rD K d)) (hb : EvG m tb Γ (rD K e)) (hd : SeqAt.shaped d = true) (he : SeqAt.shaped e = true) : EvG m (tOp (rNeA K) ta tb) Γ (dB (!PyData.eqv d e)) :=
  ev_op ha hb (bin_now fun B H x y hp hx hy => ⟨_, rfl, fun Q q => .inr ⟨d, e, hp.sub.dp hx, hp.sub.dp hy, hd, he, q⟩⟩)
/-- is None, is not None: of a value that is known to be so or not -/
theorem ev_isN {b : Bool} (ha : EvG m ta Γ R) (h : ∀ B v, R.p B v → decide (v = .non) = b) : EvG m (tOp (fun x y H Q => y = .non ∧ Q (.bl (decide (x = .non))) H) ta (tC .non)) Γ (dB b) :=
  ev_op ha ev_c (bin_now fun B H x y _ hx hy => ⟨_, rfl, fun Q q => ⟨hy, by rw [h B x hx]; exact q⟩⟩)
theorem ev_notN {b : Bool} (ha : EvG m ta Γ R) (h : ∀ B v, R.p B v → (!decide (v = .non)) = b) : EvG m (tOp (fun x y H Q => y = .non ∧ Q (.bl (!decide (x = .non))) H) ta (tC .non)) Γ (dB b) :=
  ev_op ha ev_c (bin_now fun B H x y _ hx hy => ⟨_, rfl, fun Q q => ⟨hy, by rw [h B x hx]; exact q⟩⟩)
/-! subscripts -/
theorem ev_ixL {n : Int} (ha : EvG m ta Γ (rL Rs)) (hb : EvG m tb Γ (dI n)) (h : atI Rs n = some R) : EvG m (tOp (rIx K) ta tb) Γ R :=
  ev_op ha hb (bin_now fun B H x y hp hx hy => by
    obtain ⟨a, xs, rfl, ea, ra⟩ := hx
    have hl := ra.len
    unfold atI at h
    rw [← hl] at h
    cases q : ixN xs.length n with
    | none => rw [q] at h; cases h
    | some k =>
      rw [q] at h
      obtain ⟨v, e, r⟩ := ra.at (show Rs[k]? = some R from h)
      exact ⟨v, r, fun Q q2 => .inl ⟨a, xs, n, v, rfl, hy, SqL.of (hp.sub a _ ea), by unfold atI; rw [q]; exact e, q2⟩⟩)
theorem ev_ixT {n : Int} (ha : EvG m ta Γ (rT K Rs)) (hb : EvG m tb Γ (dI n)) (h : atI Rs n = some R) : EvG m (tOp (rIx K) ta tb) Γ R :=
  ev_op ha hb (bin_now fun B H x y hp hx hy => by
    obtain ⟨a, xs, rfl, ea, ra⟩ := hx
    have hl := ra.len
    unfold atI at h
    rw [← hl] at h
    cases q : ixN xs.length n with
    | none => rw [q] at h; cases h
    | some k =>
      rw [q] at h
      obtain ⟨v, e, r⟩ := ra.at (show Rs[k]? = some R from h)
      exact ⟨v, r, fun Q q2 => .inr (.inl ⟨a, xs, n, v, rfl, hy, hp.sub.sqT ea, by unfold atI; rw [q]; exact e, q2⟩)⟩)
theorem atN {α : Type} {xs : List α} {n : Nat} {v : α} (h : xs[n]? = some v) : atI xs (n : Int) = some v := atI_nat h
/-! built-ins -/
theorem ca_now {r : List V → Hp → VK → Prop} (h : ∀ B H vs, Pre m B H → AllR Rs B vs → ∃ z, R.p B z ∧ ∀ Q : VK, Q z H → r vs H Q) : CaR m r Rs R := fun B H vs hp hv Q q => by
  obtain ⟨z, h1, h2⟩ := h B H vs hp hv
  exact h2 Q (q z B H hp.refl h1)
theorem all1 {B : Hp} {vs : List V} (h : AllR [R] B vs) : ∃ v, vs = [v] ∧ R.p B v := by
  obtain ⟨v, r, e, h, k⟩ := h
  exact ⟨v, by rw [e, show r = [] from k], h⟩
theorem all2 {B : Hp} {vs : List V} (h : AllR [R, S] B vs) : ∃ v w, vs = [v, w] ∧ R.p B v ∧ S.p B w := by
  obtain ⟨v, r, e, h, k⟩ := h
  obtain ⟨w, rfl, h'⟩ := all1 k
  exact ⟨v, w, e, h, h'⟩
theorem ea1 (h : EvG m ta Γ R) : EvA m (tCons ta tNil) Γ [R] := ea_cons h ea_nil
theorem ea2 (h : EvG m ta Γ R) (k : EvG m tb Γ S) : EvA m (tCons ta (tCons tb tNil)) Γ [R, S] := ea_cons h (ea_cons k ea_nil)
theorem ev_lenL (h : EvG m ta Γ (rL Rs)) : EvG m (tCB (rLen K) (tCons ta tNil)) Γ (dI (Rs.length : Int)) := ev_cb (ea1 h) (ca_now fun B H vs hp hv => by
  obtain ⟨v, rfl, a, xs, rfl, ea, ra⟩ := all1 hv
  exact ⟨_, rfl, fun Q q => ⟨_, xs.length, rfl, .inl ⟨xs, SqL.of (hp.sub a _ ea), rfl⟩, by rw [ra.len]; exact q⟩⟩)
theorem ev_lenT (h : EvG m ta Γ (rT K Rs)) : EvG m (tCB (rLen K) (tCons ta tNil)) Γ (dI (Rs.length : Int)) := ev_cb (ea1 h) (ca_now fun B H vs hp hv => by
  obtain ⟨v, rfl, a, xs, rfl, ea, ra⟩ := all1 hv
  exact ⟨_, rfl, fun Q q => ⟨_, xs.length, rfl, .inr ⟨xs, hp.sub.sqT ea, rfl⟩, by rw [ra.len]; exact q⟩⟩)
theorem ev_lenS (h : EvG m ta Γ (dS x)) (hz : x.length ≤ sizeLine) : EvG m (tCB (rLen K) (tCons ta tNil)) Γ (dI (x.length : Int)) := ev_cb (ea1 h) (ca_now fun B H vs hp hv => by
  obtain ⟨v, rfl, e⟩ := all1 hv
  obtain rfl : v = .str x := e
  exact ⟨_, rfl, fun Q q => ⟨_, x.length, rfl, ⟨hz, rfl⟩, q⟩⟩)
abbrev rInt1 : List V → Hp → VK → Prop := fun xs H Q => (∃ i, xs = [.int i] ∧ Q (.int i) H) ∨ ∃ k, xs = [.bl k] ∧ Q (.int (if k then 1 else 0)) H
theorem ev_int (h : EvG m ta Γ (dI i)) : EvG m (tCB rInt1 (tCons ta tNil)) Γ (dI i) := ev_cb (ea1 h) (ca_now fun B H vs hp hv => by
  obtain ⟨v, rfl, e⟩ := all1 hv
  obtain rfl : v = .int i := e
  exact ⟨_, rfl, fun Q q => .inl ⟨i, rfl, q⟩⟩)
abbrev rAbs : List V → Hp → VK → Prop := fun xs H Q => ∃ i, xs = [.int i] ∧ Q (.int (if i < 0 then -i else i)) H
theorem ev_abs (h : EvG m ta Γ (dI i)) : EvG m (tCB rAbs (tCons ta tNil)) Γ (dI (if i < 0 then -i else i)) := ev_cb (ea1 h) (ca_now fun B H vs hp hv => by
  obtain ⟨v, rfl, e⟩ := all1 hv
  obtain rfl : v = .int i := e
  exact ⟨_, rfl, fun Q q => ⟨i, rfl, q⟩⟩)
abbrev rMax2 : List V → Hp → VK → Prop := fun xs H Q => ∃ i j, xs = [.int i, .int j] ∧ Q (.int (if j > i then j else i)) H
abbrev rMin2 : List V → Hp → VK → Prop := fun xs H Q => ∃ i j, xs = [.int i, .int j] ∧ Q (.int (if j < i then j else i)) H
theorem ev_max (h : EvG m ta Γ (dI i)) (k : EvG m tb Γ (dI j)) : EvG m (tCB rMax2 (tCons ta (tCons tb tNil))) Γ (dI (if j > i then j else i)) := ev_cb (ea2 h k) (ca_now fun B H vs hp hv => by
  obtain ⟨v, w, rfl, e, e'⟩ := all2 hv
  obtain rfl : v = .int i := e
  obtain rfl : w = .int j := e'
  exact ⟨_, rfl, fun Q q => ⟨i, j, rfl, q⟩⟩)
theorem ev_min (h : EvG m ta Γ (dI i)) (k : EvG m tb Γ (dI j)) : EvG m (tCB rMin2 (tCons ta (tCons tb tNil))) Γ (dI (if j < i then j else i)) := ev_cb (ea2 h k) (ca_now fun B H vs hp hv => by
  obtain ⟨v, w, rfl, e, e'⟩ := all2 hv
  obtain rfl : v = .int i := e
  obtain rfl : w = .int j := e'
  exact ⟨_, rfl, fun Q q => ⟨i, j, rfl, q⟩⟩)
abbrev rStrI : List V → Hp → VK → Prop := fun xs H Q => ∃ i, xs = [.int i] ∧ i.natAbs.log2 < 1920 ∧ Q (.str (toString i)) H
theorem ev_str (h : EvG m ta Γ (dI i)) (hz : i.natAbs.log2 < 1920) : EvG m (tCB rStrI (tCons ta tNil)) Γ (dS (toString i)) := ev_cb (ea1 h) (ca_now fun B H vs hp hv => by
  obtain ⟨v, rfl, e⟩ := all1 hv
  obtain rfl : v = .int i := e
  exact ⟨_, rfl, fun Q q => ⟨i, rfl, hz, q⟩⟩)
abbrev rDmW : List V → Hp → VK → Prop := fun xs H Q => ∃ i j, xs = [.int i, .int j] ∧ CDivP i j ∧ ∀ p, H p = none → Q (.ref p) (upd H p (.tup [.int (i / j), .int (i % j)]))
theorem ev_divmod (h : EvG m ta Γ (dI i)) (k : EvG m tb Γ (dI j)) (hd : CDivP i j) : EvG m (tCB rDmW (tCons ta (tCons tb tNil))) Γ (rT K [dI (i / j), dI (i % j)]) := ev_cb (ea2 h k) fun B H vs hp hv Q q => by
  obtain ⟨v, w, rfl, e, e'⟩ := all2 hv
  obtain rfl : v = .int i := e
  obtain rfl : w = .int j := e'
  exact ⟨i, j, rfl, hd, fun p np => q _ _ _ (hp.new np) ⟨p, _, rfl, SqT.of upd_same, _, _, rfl, rfl, _, _, rfl, rfl, rfl⟩⟩
theorem ev_sum {ns : List Int} (h : EvG m ta Γ (rL (ns.map dI))) : EvG m (tCB (rSum K) (tCons ta tNil)) Γ (dI ns.sum) := ev_cb (ea1 h) (ca_now fun B H vs hp hv => by
  obtain ⟨v, rfl, a, xs, rfl, ea, ra⟩ := all1 hv
  exact ⟨_, rfl, fun Q q => ⟨a, ns, rfl, SqL.of (by rw [hp.sub a _ ea, ra.ints]), q⟩⟩)
theorem ev_any {bs : List Bool} (h : EvG m ta Γ (rL (bs.map dB))) : EvG m (tCB (rAny K) (tCons ta tNil)) Γ (dB (bs.any id)) := ev_cb (ea1 h) (ca_now fun B H vs hp hv => by
  obtain ⟨v, rfl, a, xs, rfl, ea, ra⟩ := all1 hv
  exact ⟨_, rfl, fun Q q => ⟨a, bs, rfl, SqL.of (by rw [hp.sub a _ ea, ra.bools]), q⟩⟩)
theorem ev_all {bs : List Bool} (h : EvG m ta Γ (rL (bs.map dB))) : EvG m (tCB (rAll K) (tCons ta tNil)) Γ (dB (bs.all id)) := ev_cb (ea1 h) (ca_now fun B H vs hp hv => by
  obtain ⟨v, rfl, a, xs, rfl, ea, ra⟩ := all1 hv
  exact ⟨_, rfl, fun Q q => ⟨a, bs, rfl, SqL.of (by rw [hp.sub a _ ea, ra.bools]), q⟩⟩)
theorem ev_listT (h : EvG m ta Γ (rT K Rs)) : EvG m (tCB (rList K) (tCons ta tNil)) Γ (rL Rs) := ev_cb (ea1 h) fun B H vs hp hv Q q => by
  obtain ⟨v, rfl, a, xs, rfl, ea, ra⟩ := all1 hv
  exact ⟨a, xs, rfl, .inr (hp.sub.sqT ea), fun l nl => q _ _ _ (hp.new nl) ⟨l, xs, rfl, upd_same, ra.mono (hp.new nl).sub⟩⟩
theorem ev_tupleL (h : EvG m ta Γ (rL Rs)) : EvG m (tCB (rTuple K) (tCons ta tNil)) Γ (rT K Rs) := ev_cb (ea1 h) fun B H vs hp hv Q q => by
  obtain ⟨v, rfl, a, xs, rfl, ea, ra⟩ := all1 hv
  exact ⟨a, xs, rfl, .inl ⟨SqL.of (hp.sub a _ ea), fun l nl => q _ _ _ (hp.new nl) ⟨l, xs, rfl, SqT.of upd_same, ra.mono (hp.new nl).sub⟩⟩⟩
theorem ev_listRg {ta tb : TE} (ha : EvG m ta Γ (dI i)) (hb : EvG m tb Γ (dI j)) (h : RgOk i j) : EvG m (tLstRg (tRg2 ta tb)) Γ (rL ((List.range (j - i).toNat).map fun (k : Nat) => dI (i + (k : Int)))) := fun σ B H hs hp Q q =>
  ha σ B H hs hp _ fun x B1 H1 s1 r1 => hb σ B1 H1 (hs.mono s1.sub) (hp.step s1) _ fun y B2 H2 s2 r2 => ⟨i, j, r1, r2, h, fun l nl => by
    have hp2 := (hp.step s1).step s2
    refine q _ _ _ (Step.trans hp (Step.trans hp s1 s2) (hp2.new nl)) ⟨l, _, rfl, upd_same, ?_⟩
    have go : ∀ (ks : List Nat) (C : Hp), AllR (ks.map fun (k : Nat) => dI (i + (k : Int))) C (ks.map fun k => V.int (i + (k : Nat))) := fun ks C => by
      induction ks with
      | nil => rfl
      | cons k ks ih => exact ⟨_, _, rfl, rfl, ih⟩
    exact go _ _⟩
theorem ev_rev (ha : EvG m ta Γ (rL Rs)) : EvG m (tRevL K ta) Γ (rL Rs.reverse) := fun σ B H hs hp Q q => ha σ B H hs hp _ fun x B1 H1 s1 ⟨a, xs, e, ea, ra⟩ => ⟨a, xs, e, SqL.of ((hp.step s1).sub a _ ea), fun p np => by
  refine q _ _ _ (Step.trans hp s1 ((hp.step s1).new np)) ⟨p, _, rfl, upd_same, ?_⟩
  have : ∀ {Rs : List Rp} {xs : List V}, AllR Rs B1 xs → AllR Rs.reverse B1 xs.reverse := by
    intro Rs
    induction Rs with
    | nil => intro xs h; rw [show xs = [] from h]; rfl
    | cons R Rs ih =>
      intro xs ⟨v, r, e, h, t⟩
      subst e
      rw [List.reverse_cons, List.reverse_cons]
      exact (ih t).app ⟨v, [], rfl, h, rfl⟩
  exact (this ra).mono ((hp.step s1).new np).sub⟩
theorem ev_isi {c : V} {u t : Value} {b : Bool} (ha : EvG m ta Γ R) (hb : EvG m tb Γ (rV c)) (hc : ClsV c u) (ht : ∀ B H v, Pre m B H → R.p B v → TyX K H v t) (hk : PySem.W.kitOne K t u = some b) : EvG m (tCB (rIsi K) (tCons ta (tCons tb tNil))) Γ (dB b) := ev_cb (ea2 ha hb) (ca_now fun B H vs hp hv => by
  obtain ⟨v, w, rfl, e, e'⟩ := all2 hv
  exact ⟨_, rfl, fun Q q => ⟨v, w, t, u, b, rfl, by rw [show w = c from e']; exact hc, ht B H v hp e, hk, q⟩⟩)
/-! sources -/
theorem ei_seqL (h : EvG m ta Γ (rL Rs)) : EvI m (iSeq K ta) Γ Rs.length (fun i => Rs[i]?) := fun σ B H hs hp C c => .inl (ei_list h σ B H hs hp C c)
theorem ei_seqT (h : EvG m ta Γ (rT K Rs)) : EvI m (iSeq K ta) Γ Rs.length (fun i => Rs[i]?) := fun σ B H hs hp C c => .inr (ei_tup h σ B H hs hp C c)
theorem tg_unT {gs : TGs} {js : List Nat} {n : Nat} (h : TgsG m gs Γ Rs Δ js) (hn : Rs.length = n := by rfl) : TgG m (gUn K n gs) Γ (rT K Rs) Δ js := fun σ B H x hs hp r Q q => .inl (tg_tup h hn σ B H x hs hp r Q q)
theorem tg_unL {gs : TGs} {js : List Nat} {n : Nat} (h : TgsG m gs Γ Rs Δ js) (hn : Rs.length = n := by rfl) : TgG m (gUn K n gs) Γ (rL Rs) Δ js := fun σ B H x hs hp ⟨a, xs, e, ea, r⟩ Q q =>
  .inr ⟨a, xs, e, SqL.of (hp.sub a _ ea), r.len.trans hn, h σ B H xs hs hp r Q q⟩
theorem tgs1 {a : Nat} : TgsG m (gCons (gName a) gNil) Γ [R] (Γ.set a (some R)) [a] := tgs_cons tg_name tgs_nil
theorem tgs2 {a b : Nat} : TgsG m (gCons (gName a) (gCons (gName b) gNil)) Γ [R, S] ((Γ.set a (some R)).set b (some S)) [a, b] := tgs_cons tg_name (tgs_cons tg_name tgs_nil)
theorem tgs3 {a b c : Nat} : TgsG m (gCons (gName a) (gCons (gName b) (gCons (gName c) gNil))) Γ [R, S, Ra] (((Γ.set a (some R)).set b (some S)).set c (some Ra)) [a, b, c] := tgs_cons tg_name (tgs_cons tg_name (tgs_cons tg_name tgs_nil))
theorem tgs4 {a b c d : Nat} : TgsG m (gCons (gName a) (gCons (gName b) (gCons (gName c) (gCons (gName d) gNil)))) Γ [R, S, Ra, Rb] ((((Γ.set a (some R)).set b (some S)).set c (some Ra)).set d (some Rb)) [a, b, c, d] := tgs_cons tg_name (tgs_cons tg_name (tgs_cons tg_name (tgs_cons tg_name tgs_nil)))
end
end Sq
/-! Sq, part D: sorted of data; sets of pairs; index of data in a tuple; further rules. -/
namespace Sq
open PySem PySem.Spec PyProof.Rows L2

/-! ### sorted(xs), whatever the items read as -/
def sortZ (xs : List V) (ds : List PyData) : List V := ((xs.zip ds).mergeSort (PySem.W.dataLe false Prod.snd)).map Prod.fst
def rSortD (K : PySem.W.Frag) : List V → Hp → VK → Prop := fun vs H Q => ∃ (a : Addr) (xs : List V) (ds : List PyData), vs = [V.ref a] ∧ SqL K H a xs ∧ DpAll K H xs ds ∧ PySem.W.AllAlike ds ∧ PySem.W.Sortable ds ∧ (∀ d ∈ ds, d.depth ≤ 60) ∧
  ∀ p, H p = none → Q (.ref p) (upd H p (.lst (sortZ xs ds)))
section
variable {X : Cx} {pins : List (Addr × Obj)} {σ : L2.St} {H : Hp} {s : Shared}
theorem each_zip (I : Inv X pins σ H s) : ∀ {xs : List V} {ds : List PyData} {us : List Value}, DpAll X.K H xs ds → Vals xs us → PySem.W.EachIs (fun u (b : V × PyData) => RelV b.1 u) us (xs.zip ds) ∧ PySem.W.EachIs (fun u (b : V × PyData) => ∃ as, Reads s.heap u b.2 as) us (xs.zip ds) ∧ (xs.zip ds).map Prod.snd = ds
  | [], [], _, .nil, .nil => ⟨.nil, .nil, rfl⟩
  | x :: xs, d :: ds, u :: us, .cons h t, .cons r rs => by
    obtain ⟨h1, h2, h3⟩ := each_zip I t rs
    refine ⟨.cons r h1, .cons (Dp.reads I d x u h r) h2, ?_⟩
    rw [List.zip_cons_cons, List.map_cons, h3]
theorem each_vals : ∀ {us : List Value} {bs : List (V × PyData)}, PySem.W.EachIs (fun u (b : V × PyData) => RelV b.1 u) us bs → Vals (bs.map Prod.fst) us
  | _, _, .nil => .nil
  | _, _, .cons h t => .cons h (each_vals t)
theorem dpAll_len {K : PySem.W.Frag} : ∀ {xs : List V} {ds : List PyData}, DpAll K H xs ds → xs.length = ds.length
  | _, _, .nil => rfl
  | _, _, .cons _ t => by rw [List.length_cons, List.length_cons, dpAll_len t]
theorem cr_sortD {A : Around} {k : Nat} (hr : Room k A) (hA : X.A = A := by rfl) : CallR X (.builtin "sorted") (rSortD X.K) := by
  intro pins s σ H vs us Q I r h
  obtain ⟨a, xs, ds, rfl, hl, hd, hal, hk, hdp, q⟩ := h
  obtain ⟨its, rv, pl, hz⟩ := I.list hl
  rw [Vals.ref1 r]
  obtain ⟨e1, e2, e3⟩ := each_zip I hd rv
  have hlen : (xs.zip ds).length = xs.length := by rw [List.length_zip, ← dpAll_len hd, Nat.min_self]
  refine PySem.W.sorted_data (enc := Prod.snd) (R := fun u (b : V × PyData) => RelV b.1 u) pl.isList e1 e2 (by rw [e3]; exact hal) (by rw [e3]; exact hk) (by rw [hlen]; exact hz) (fun b hb => ?_) fun out h1 h2 => ?_
  · have hb2 : b.2 ∈ ds := by rw [← e3]; exact List.mem_map.mpr ⟨b, hb, rfl⟩
    have := hdp _ hb2
    have := hr.un
    rw [hA]
    omega
  · obtain ⟨ep, he'⟩ := PyProof.Rows.sortedAll_at s.heap its out.toArray
    have hv : Vals (sortZ xs ds) out := each_vals h2
    have hlen2 : (sortZ xs ds).length ≤ sizeLine := by
      unfold sortZ
      rw [List.length_map, List.length_mergeSort, hlen]
      exact hz
    exact ⟨.ref _, upd H (s.heap.objs.size + 1) (.lst (sortZ xs ds)), I.laid (t' := s.toks) (fun _ _ => PyProof.Rows.sortedAll_old) (Nat.le_succ _) ⟨hlen2, out, ep, hv, he'⟩, rfl, q _ (I.hok.fresh (Nat.le_succ _))⟩
end
section
variable {m : Mt} {Γ Δ : Gm} {ta tb te : TE} {R S Ra Rb Ro : Rp} {Rs Ss : List Rp} {K : PySem.W.Frag} {i j : Int}
theorem dpAll_of {α : Type} {F : α → Rp} {enc : α → PyData} {B : Hp} : ∀ {bs : List α} {xs : List V}, (∀ b ∈ bs, Le (F b) (rD K (enc b))) → AllR (bs.map F) B xs → DpAll K B xs (bs.map enc)
  | [], _, _, h => by rw [show _ = [] from h]; exact .nil
  | b :: bs, _, hF, ⟨x, r, e, h, t⟩ => by rw [e]; exact .cons (hF b List.mem_cons_self B x h) (dpAll_of (fun c hc => hF c (List.mem_cons_of_mem _ hc)) t)
theorem zip_fst {α : Type} : ∀ {xs : List V} {bs : List α}, xs.length = bs.length → (xs.zip bs).map Prod.fst = xs
  | [], [], _ => rfl
  | x :: xs, b :: bs, h => by rw [List.zip_cons_cons, List.map_cons, zip_fst (by simpa using h)]
theorem zip_snd {α : Type} : ∀ {xs : List V} {bs : List α}, xs.length = bs.length → (xs.zip bs).map Prod.snd = bs
  | [], [], _ => rfl
  | x :: xs, b :: bs, h => by rw [List.zip_cons_cons, List.map_cons, zip_snd (by simpa using h)]
theorem zip_map2 {α : Type} {enc : α → PyData} : ∀ (xs : List V) (bs : List α), xs.zip (bs.map enc) = (xs.zip bs).map fun q => (q.1, enc q.2)
  | [], _ => by simp
  | _ :: _, [] => by simp
  | x :: xs, b :: bs => by rw [List.map_cons, List.zip_cons_cons, List.zip_cons_cons, List.map_cons, zip_map2 xs bs]
theorem allR_pairs {α : Type} {F : α → Rp} {B : Hp} : ∀ {zs : List (V × α)}, (∀ z ∈ zs, (F z.2).p B z.1) → AllR ((zs.map Prod.snd).map F) B (zs.map Prod.fst)
  | [], _ => rfl
  | z :: zs, h => ⟨z.1, _, rfl, h z List.mem_cons_self, allR_pairs fun y hy => h y (List.mem_cons_of_mem _ hy)⟩
theorem pairs_of {α : Type} {F : α → Rp} {B : Hp} : ∀ {bs : List α} {xs : List V}, AllR (bs.map F) B xs → ∀ z ∈ xs.zip bs, (F z.2).p B z.1
  | [], _, _, z, h => by simp at h
  | b :: bs, _, ⟨x, r, e, h, t⟩, z, hz => by
    rw [e, List.zip_cons_cons] at hz
    rcases List.mem_cons.mp hz with q | q
    · rw [q]; exact h
    · exact pairs_of t z q
theorem ev_sorted {α : Type} {F : α → Rp} {enc : α → PyData} {bs : List α} (ha : EvG m ta Γ (rL (bs.map F))) (hF : ∀ b ∈ bs, Le (F b) (rD K (enc b))) (hal : PySem.W.AllAlike (bs.map enc)) (hk : PySem.W.Sortable (bs.map enc)) (hd : ∀ b ∈ bs, (enc b).depth ≤ 60) :
    EvG m (tCB (rSortD K) (tCons ta tNil)) Γ (rL ((bs.mergeSort (PySem.W.dataLe false enc)).map F)) := ev_cb (ea1 ha) fun B H vs hp hv Q q => by
  obtain ⟨v, rfl, a, xs, rfl, ea, ra⟩ := all1 hv
  have hlen : xs.length = bs.length := by rw [ra.len, List.length_map]
  refine ⟨a, xs, bs.map enc, rfl, SqL.of (hp.sub a _ ea), Sub.dpAll hp.sub (dpAll_of hF ra), hal, hk, fun d hd' => ?_, fun p np => q _ _ _ (hp.new np) ⟨p, _, rfl, upd_same, AllR.mono (hp.new np).sub ?_⟩⟩
  · obtain ⟨b, hb, rfl⟩ := List.mem_map.mp hd'
    exact hd b hb
  · have e1 : sortZ xs (bs.map enc) = ((xs.zip bs).mergeSort (fun a b => PySem.W.dataLe false enc a.2 b.2)).map Prod.fst := by
      unfold sortZ
      rw [zip_map2]
      have e2 := List.map_mergeSort (r := fun (a b : V × α) => PySem.W.dataLe false enc a.2 b.2) (s := PySem.W.dataLe false Prod.snd) (f := fun q : V × α => (q.1, enc q.2)) (l := xs.zip bs) (fun a _ b _ => rfl)
      rw [← e2, List.map_map]
      rfl
    have e3 : bs.mergeSort (PySem.W.dataLe false enc) = ((xs.zip bs).mergeSort (fun a b => PySem.W.dataLe false enc a.2 b.2)).map Prod.snd := by
      have e2 := List.map_mergeSort (r := fun (a b : V × α) => PySem.W.dataLe false enc a.2 b.2) (s := PySem.W.dataLe false enc) (f := Prod.snd) (l := xs.zip bs) (fun a _ b _ => rfl)
      rw [e2, zip_snd hlen]
    rw [e1, e3]
    refine allR_pairs fun z hz => pairs_of ra z ?_
    exact (List.mergeSort_perm _ _).mem_iff.mp hz
/-- ints -/
theorem ev_sortI {ns : List Int} (ha : EvG m ta Γ (rL (ns.map dI))) : EvG m (tCB (rSortD K) (tCons ta tNil)) Γ (rL ((ns.mergeSort (fun a b => decide (a ≤ b))).map dI)) := by
  have h := ev_sorted (K := K) (F := dI) (enc := PyData.int) ha (fun b _ => le_id) (PySem.W.AllAlike.of fun b b' => by simp [PySem.W.alike]) (PySem.W.Sortable.others fun b => ⟨by simp, by simp⟩) (fun b _ => by simp [PyData.depth])
  rw [show PySem.W.dataLe false PyData.int = fun a b => decide (a ≤ b) from PySem.W.dataLe_int fun b => b] at h
  exact h
end
end Sq
/-! Sq, part E: cells, and sorted(set(cells)). -/
namespace Sq
open PySem PySem.Spec PyProof.Rows L2

abbrev Cell := Int × Int
def rCell (K : PySem.W.Frag) (c : Cell) : Rp := rT K [dI c.1, dI c.2]
def cellD (c : Cell) : PyData := .tuple [.int c.1, .int c.2]
theorem le_cd {K : PySem.W.Frag} {c : Cell} : Le (rCell K c) (rD K (cellD c)) := Le.trans (le_T (.cons le_id (.cons le_id .nil))) (le_td (ds := [.int c.1, .int c.2]))
theorem le_dc {K : PySem.W.Frag} {c : Cell} : Le (rD K (cellD c)) (rCell K c) := Le.trans (le_dt (ds := [.int c.1, .int c.2])) (le_T (.cons le_di (.cons le_di .nil)))
def clt (p q : Cell) : Prop := p.1 < q.1 ∨ (p.1 = q.1 ∧ p.2 < q.2)
def cle (p q : Cell) : Bool := decide (p.1 < q.1 ∨ (p.1 = q.1 ∧ p.2 ≤ q.2))
instance (p q : Cell) : Decidable (clt p q) := by unfold clt; infer_instance
/-- the different ones, in order -/
def ded : List Cell → List Cell → List Cell
  | acc, [] => acc
  | acc, c :: cs => if c ∈ acc then ded acc cs else ded (acc ++ [c]) cs
def orb (cs : List Cell) : List Cell := ded [] (cs.mergeSort cle)
theorem clt_irrefl (p : Cell) : ¬ clt p p := by unfold clt; omega
theorem clt_trans {p q r : Cell} (h : clt p q) (k : clt q r) : clt p r := by unfold clt at *; omega
theorem cle_trans (p q r : Cell) (h : cle p q = true) (k : cle q r = true) : cle p r = true := by
  unfold cle at *
  simp only [decide_eq_true_eq] at *
  omega
theorem cle_total (p q : Cell) : (cle p q || cle q p) = true := by
  unfold cle
  simp only [Bool.or_eq_true, decide_eq_true_eq]
  omega
theorem cle_lt {p q : Cell} (h : cle p q = true) (ne : p ≠ q) : clt p q := by
  unfold cle at h
  simp only [decide_eq_true_eq] at h
  unfold clt
  rcases h with h | ⟨h1, h2⟩
  · exact .inl h
  · refine .inr ⟨h1, ?_⟩
    rcases Int.lt_or_eq_of_le h2 with z | z
    · exact z
    · exact absurd (Prod.ext h1 z) ne
theorem ded_spec : ∀ (cs acc : List Cell), (acc ++ cs).Pairwise (fun p q => cle p q = true) → acc.Pairwise clt → (ded acc cs).Pairwise clt ∧ ∀ x, x ∈ ded acc cs ↔ x ∈ acc ∨ x ∈ cs
  | [], acc, _, h => ⟨h, fun x => by simp [ded]⟩
  | c :: cs, acc, hp, h => by
    unfold ded
    by_cases hc : c ∈ acc
    · rw [if_pos hc]
      obtain ⟨h1, h2⟩ := ded_spec cs acc (hp.sublist (List.Sublist.append_left (List.sublist_cons_self c cs) acc)) h
      refine ⟨h1, fun x => ?_⟩
      rw [h2, List.mem_cons]
      constructor
      · rintro (z | z)
        · exact .inl z
        · exact .inr (.inr z)
      · rintro (z | z | z)
        · exact .inl z
        · rw [z]; exact .inl hc
        · exact .inr z
    · rw [if_neg hc]
      have e : acc ++ c :: cs = (acc ++ [c]) ++ cs := by simp
      rw [e] at hp
      have hpc : (acc ++ [c]).Pairwise clt := by
        rw [List.pairwise_append]
        refine ⟨h, List.pairwise_singleton _ _, fun a ha b hb => ?_⟩
        rw [List.mem_singleton] at hb
        subst hb
        have q := (List.pairwise_append.mp (List.pairwise_append.mp hp).1).2.2 a ha b (List.mem_singleton.mpr rfl)
        exact cle_lt q fun z => hc (z ▸ ha)
      obtain ⟨h1, h2⟩ := ded_spec cs (acc ++ [c]) hp hpc
      refine ⟨h1, fun x => ?_⟩
      rw [h2, List.mem_append, List.mem_singleton, List.mem_cons, or_assoc]
theorem orb_sorted (cs : List Cell) : (orb cs).Pairwise clt := (ded_spec _ [] (by simpa using List.pairwise_mergeSort cle_trans cle_total cs) .nil).1
theorem mem_orb (cs : List Cell) (x : Cell) : x ∈ orb cs ↔ x ∈ cs := by
  unfold orb
  rw [(ded_spec _ [] (by simpa using List.pairwise_mergeSort cle_trans cle_total cs) .nil).2 x]
  simp [List.mem_mergeSort]
theorem sorted_uniq : ∀ {l k : List Cell}, l.Pairwise clt → k.Pairwise clt → (∀ x, x ∈ l ↔ x ∈ k) → l = k
  | [], [], _, _, _ => rfl
  | [], b :: k, _, _, h => absurd ((h b).mpr List.mem_cons_self) (by simp)
  | a :: l, [], _, _, h => absurd ((h a).mp List.mem_cons_self) (by simp)
  | a :: l, b :: k, hl, hk, h => by
    obtain ⟨ha, hl'⟩ := List.pairwise_cons.mp hl
    obtain ⟨hb, hk'⟩ := List.pairwise_cons.mp hk
    have e : a = b := by
      rcases List.mem_cons.mp ((h a).mp List.mem_cons_self) with z | z
      · exact z
      · rcases List.mem_cons.mp ((h b).mpr List.mem_cons_self) with y | y
        · exact y.symm
        · exact absurd (clt_trans (hb a z) (ha b y)) (clt_irrefl b)
    subst e
    congr 1
    refine sorted_uniq hl' hk' fun x => ⟨fun hx => ?_, fun hx => ?_⟩
    · rcases List.mem_cons.mp ((h x).mp (List.mem_cons_of_mem _ hx)) with z | z
      · exact absurd (ha x hx) (z ▸ clt_irrefl a)
      · exact z
    · rcases List.mem_cons.mp ((h x).mpr (List.mem_cons_of_mem _ hx)) with z | z
      · exact absurd (hb x hx) (z ▸ clt_irrefl a)
      · exact z
theorem code2 (B x y : Int) : TS.code B [x, y] = x * B + y := by
  have e0 : B ^ 0 = 1 := Int.pow_zero B
  have e1 : B ^ 1 = B := by rw [Int.pow_succ, e0, Int.one_mul]
  show x * B ^ 1 + (y * B ^ 0 + 0) = x * B + y
  rw [e1, e0, Int.mul_one, Int.add_zero]
theorem code_cle {B : Int} {p q : Cell} (h : TS.code B [p.1, p.2] ≤ TS.code B [q.1, q.2]) (h1 : 0 ≤ p.2 ∧ p.2 < B) (h2 : 0 ≤ q.2 ∧ q.2 < B) : cle p q = true := by
  rw [code2, code2] at h
  unfold cle
  simp only [decide_eq_true_eq]
  rcases Int.lt_trichotomy p.1 q.1 with z | z | z
  · exact .inl z
  · refine .inr ⟨z, ?_⟩
    rw [z] at h
    omega
  · exfalso
    have hB : 0 < B := by omega
    have := Int.mul_le_mul_of_nonneg_right (show q.1 + 1 ≤ p.1 by omega) (Int.le_of_lt hB)
    rw [Int.add_mul, Int.one_mul] at this
    omega

/-- tuples, by how they stand -/
def rW (W : Hp → Addr → List V → Prop) (hm : ∀ {B H : Hp} {a : Addr} {xs : List V}, Sub B H → W B a xs → W H a xs) (Rs : List Rp) : Rp := ⟨fun B v => ∃ a xs, v = .ref a ∧ W B a xs ∧ AllR Rs B xs, fun s ⟨a, xs, e, h, t⟩ => ⟨a, xs, e, hm s h, t.mono s⟩⟩
def rTn (Rs : List Rp) : Rp := rW (fun B a xs => B a = some (.tup xs)) (fun s h => s _ _ h) Rs
abbrev rCellN (c : Cell) : Rp := rTn [dI c.1, dI c.2]
theorem le_Tn {K : PySem.W.Frag} {Rs : List Rp} : Le (rTn Rs) (rT K Rs) := fun _ _ ⟨a, xs, e, h, t⟩ => ⟨a, xs, e, SqT.of h, t⟩
section
variable {W : Hp → Addr → List V → Prop} {hm : ∀ {B H : Hp} {a : Addr} {xs : List V}, Sub B H → W B a xs → W H a xs}
abbrev rCellW (W : Hp → Addr → List V → Prop) (hm : ∀ {B H : Hp} {a : Addr} {xs : List V}, Sub B H → W B a xs → W H a xs) (c : Cell) : Rp := rW W hm [dI c.1, dI c.2]
/-- the cell of an address and its two numbers -/
theorem sq_of_cell {B : Hp} {v : V} {c : Cell} (h : (rCellW W hm c).p B v) : ∃ a, v = .ref a ∧ W B a ([c.1, c.2].map V.int) := by
  obtain ⟨a, xs, e, ea, x, r, e1, hx, y, r', e2, hy, hr⟩ := h
  obtain rfl : x = .int c.1 := hx
  obtain rfl : y = .int c.2 := hy
  obtain rfl : r' = [] := hr
  subst e1 e2
  exact ⟨a, e, ea⟩
theorem cell_of_sq {B : Hp} {a : Addr} {c : Cell} (h : W B a ([c.1, c.2].map V.int)) : (rCellW W hm c).p B (.ref a) := ⟨a, _, rfl, h, _, _, rfl, rfl, _, _, rfl, rfl, rfl⟩
theorem cells_of {B : Hp} : ∀ {cs : List Cell} {xs : List V}, AllR (cs.map (rCellW W hm)) B xs → ∃ ks : List (Addr × List Int), xs = ks.map (fun p => V.ref p.1) ∧ (∀ p ∈ ks, W B p.1 (p.2.map V.int)) ∧ ks.map (·.2) = cs.map fun c => [c.1, c.2]
  | [], _, h => ⟨[], by rw [show _ = [] from h] <;> rfl, fun _ h => absurd h (by simp), rfl⟩
  | c :: cs, _, ⟨x, r, e, h, t⟩ => by
    obtain ⟨a, rfl, ha⟩ := sq_of_cell h
    obtain ⟨ks, e1, e2, e3⟩ := cells_of t
    refine ⟨(a, [c.1, c.2]) :: ks, by rw [e, e1] <;> rfl, fun p hp => ?_, by rw [List.map_cons, List.map_cons, e3]⟩
    rcases List.mem_cons.mp hp with z | z
    · rw [z]; exact ha
    · exact e2 p z
theorem allR_of_cells {B : Hp} : ∀ {L : List (Addr × List Int)} {cs : List Cell}, (∀ p ∈ L, W B p.1 (p.2.map V.int)) → L.map (·.2) = cs.map (fun c => [c.1, c.2]) → AllR (cs.map (rCellW W hm)) B (L.map fun p => V.ref p.1)
  | [], [], _, _ => rfl
  | [], c :: cs, _, h => by simp at h
  | p :: L, [], _, h => by simp at h
  | p :: L, c :: cs, hp, h => by
    rw [List.map_cons, List.map_cons] at h
    injection h with h1 h2
    have q := hp p List.mem_cons_self
    rw [h1] at q
    exact ⟨_, _, rfl, cell_of_sq q, allR_of_cells (fun p hp' => hp p (List.mem_cons_of_mem _ hp')) h2⟩
section
variable {m : Mt} {Γ : Gm} {ta : TE} {K : PySem.W.Frag} {P : Program} {w : World}
theorem ev_sortsetW (hS : ∀ B a xs, W B a xs → SqT K B a xs) {cs : List Cell} {n : Int} (ha : EvG m ta Γ (rL (cs.map (rCellW W hm)))) (h64 : cs.length < 64) (hb : ∀ c ∈ cs, 0 ≤ c.1 ∧ c.1 < n ∧ 0 ≤ c.2 ∧ c.2 < n) :
    EvG m (tCB (rSortedT K P w) (tCons (tCB (rSetOfT K P w) (tCons ta tNil)) tNil)) Γ (rL ((orb cs).map (rCellW W hm))) := fun σ B H hs hp Q q => by
  refine ha σ B H hs hp _ fun v B1 H1 s1 ⟨a, xs, ev, ea, ra⟩ => ?_
  subst ev
  have hp1 := hp.step s1
  obtain ⟨ks, e1, e2, e3⟩ := cells_of ra
  subst e1
  have hkl : ks.length = cs.length := by have := congrArg List.length e3; simpa using this
  refine ⟨a, ks, rfl, SqL.of (hp1.sub a _ ea), fun p h => hp1.sub.sqT (hS _ _ _ (e2 p h)), by omega, fun d L nd hL1 hL2 => ?_⟩
  have s2 : Step m B1 H1 B1 (upd H1 d (SetTO P w d L)) := (hp1.new nd).less (Sub.refl _) (hp1.new nd).sub
  have hp2 := hp1.step s2
  have hin : ∀ p ∈ L, ∃ c ∈ cs, p.2 = [c.1, c.2] := fun p h => by
    have q : p.2 ∈ ks.map (·.2) := List.mem_map.mpr ⟨p, hL1 p h, rfl⟩
    rw [e3] at q
    obtain ⟨c, hc, e⟩ := List.mem_map.mp q
    exact ⟨c, hc, e.symm⟩
  have hT : ∀ p ∈ L, W B1 p.1 (p.2.map V.int) := fun p h => e2 p (hL1 p h)
  refine ⟨d, L, 2, n, rfl, upd_same, fun p h => hp2.sub.sqT (hS _ _ _ (hT p h)), by decide, fun p h => ?_, fun L' p pm nd' _ pw np => ?_⟩
  · obtain ⟨c, hc, e⟩ := hin p h
    obtain ⟨b1, b2, b3, b4⟩ := hb c hc
    rw [e]
    refine ⟨rfl, fun x hx => ?_⟩
    rcases List.mem_cons.mp hx with z | z
    · rw [z]; exact ⟨b1, b2⟩
    · rw [List.mem_singleton.mp z]; exact ⟨b3, b4⟩
  · have key : ∀ L' : List (Addr × List Int), (∀ p ∈ L', p ∈ L) → ∃ cs' : List Cell, L'.map (·.2) = cs'.map (fun c => [c.1, c.2]) ∧ ∀ c ∈ cs', c ∈ cs := by
      intro L'
      induction L' with
      | nil => intro _; exact ⟨[], rfl, fun _ h => absurd h (by simp)⟩
      | cons p L' ih =>
        intro h
        obtain ⟨c, hc, e⟩ := hin p (h p List.mem_cons_self)
        obtain ⟨cs', f1, f2⟩ := ih fun q hq => h q (List.mem_cons_of_mem _ hq)
        refine ⟨c :: cs', by rw [List.map_cons, List.map_cons, f1, e], fun x hx => ?_⟩
        rcases List.mem_cons.mp hx with z | z
        · rw [z]; exact hc
        · exact f2 x z
    obtain ⟨cs', f1, f2⟩ := key L' fun p h => pm.mem_iff.mp h
    have inj : ∀ {c d : Cell}, ([c.1, c.2] : List Int) = [d.1, d.2] → c = d := fun {c d} h => by
      injection h with h1 h2
      injection h2 with h2 _
      exact Prod.ext h1 h2
    have hso : cs'.Pairwise clt := by
      have n1 : cs'.Nodup := by
        rw [f1] at nd'
        exact List.Pairwise.imp (fun h z => h (by rw [z])) (List.pairwise_map.mp nd')
      have p1 : cs'.Pairwise (fun c d => cle c d = true) := by
        have p2 : (L'.map (·.2)).Pairwise (fun x y => TS.code n x ≤ TS.code n y) := List.pairwise_map.mpr pw
        rw [f1, List.pairwise_map] at p2
        refine List.Pairwise.imp_of_mem (fun {c d} hc hd h => ?_) p2
        have b1 := hb c (f2 c hc)
        have b2 := hb d (f2 d hd)
        exact code_cle h ⟨b1.2.2.1, b1.2.2.2⟩ ⟨b2.2.2.1, b2.2.2.2⟩
      exact List.Pairwise.imp₂ (fun c d h ne => cle_lt h ne) p1 n1
    have hmem : ∀ x, x ∈ cs' ↔ x ∈ cs := fun x => ⟨f2 x, fun hx => by
      have q1 : [x.1, x.2] ∈ ks.map (·.2) := by rw [e3]; exact List.mem_map.mpr ⟨x, hx, rfl⟩
      obtain ⟨p, hp', ep⟩ := List.mem_map.mp q1
      have q2 := hL2 p hp'
      rw [ep] at q2
      obtain ⟨r, hr, er⟩ := List.mem_map.mp q2
      have q3 : [x.1, x.2] ∈ L'.map (·.2) := List.mem_map.mpr ⟨r, pm.mem_iff.mpr hr, er⟩
      rw [f1] at q3
      obtain ⟨y, hy, ey⟩ := List.mem_map.mp q3
      rw [← inj ey]
      exact hy⟩
    have eo : cs' = orb cs := sorted_uniq hso (orb_sorted cs) fun x => (hmem x).trans (mem_orb cs x).symm
    rw [eo] at f1
    have s3 := hp2.new (o := .lst (L'.map fun q => V.ref q.1)) np
    refine q _ _ _ (Step.trans hp (Step.trans hp s1 s2) s3) ⟨p, _, rfl, upd_same, AllR.mono s3.sub (allR_of_cells (fun r hr => hT r (pm.mem_iff.mp hr)) f1)⟩
theorem ev_sortset {cs : List Cell} {n : Int} (ha : EvG m ta Γ (rL (cs.map (rCell K)))) (h64 : cs.length < 64) (hb : ∀ c ∈ cs, 0 ≤ c.1 ∧ c.1 < n ∧ 0 ≤ c.2 ∧ c.2 < n) :
    EvG m (tCB (rSortedT K P w) (tCons (tCB (rSetOfT K P w) (tCons ta tNil)) tNil)) Γ (rL ((orb cs).map (rCell K))) := ev_sortsetW (W := SqT K) (hm := fun s h => s.sqT h) (fun _ _ _ h => h) ha h64 hb
theorem ev_sortsetN {cs : List Cell} {n : Int} (ha : EvG m ta Γ (rL (cs.map rCellN))) (h64 : cs.length < 64) (hb : ∀ c ∈ cs, 0 ≤ c.1 ∧ c.1 < n ∧ 0 ≤ c.2 ∧ c.2 < n) :
    EvG m (tCB (rSortedT K P w) (tCons (tCB (rSetOfT K P w) (tCons ta tNil)) tNil)) Γ (rL ((orb cs).map rCellN)) := ev_sortsetW (W := fun B a xs => B a = some (.tup xs)) (hm := fun s h => s _ _ h) (fun _ _ _ h => SqT.of h) ha h64 hb
theorem ev_tupN {t : TA} {Rs : List Rp} (h : EvA m t Γ Rs) (hz : Rs.length ≤ sizeLine := by first | decide | (simp; decide)) : EvG m (tTup t) Γ (rTn Rs) := fun σ B H hs hp Q q =>
  h σ B H hs hp _ fun xs B1 H1 s1 r1 => ⟨by rw [r1.len]; exact hz, fun p np => q (.ref p) _ _ (Step.trans hp s1 ((hp.step s1).new np)) ⟨p, xs, rfl, upd_same, r1.mono ((hp.step s1).new np).sub⟩⟩
end
end
end Sq
/-! Sq, part G: texts, slices, looks in lists. -/
namespace Sq
open PySem PySem.Spec PyProof.Rows L2
section
variable {m : Mt} {Γ Δ : Gm} {ta tb te : TE} {tl th : TO} {R S Ra Rb Ro : Rp} {Rs Ss : List Rp} {K : PySem.W.Frag} {i j : Int} {x y : Str}
theorem ev_m1 {r : V → List V → Hp → VK → Prop} (ha : EvG m ta Γ (dS x)) (hb : EvG m tb Γ (dS y)) (hr : ∀ B H, Pre m B H → ∀ Q : VK, (∀ v B' H', Step m B H B' H' → R.p B' v → Q v H') → r (.str x) [.str y] H Q) : EvG m (tM1 r ta tb) Γ R := fun σ B H hs hp Q q =>
  ha σ B H hs hp _ fun v B1 H1 s1 r1 => by
    obtain rfl : v = .str x := r1
    refine ⟨⟨x, rfl⟩, hb σ B1 H1 (hs.mono s1.sub) (hp.step s1) _ fun u B2 H2 s2 r2 => ?_⟩
    obtain rfl : u = .str y := r2
    exact hr B2 H2 ((hp.step s1).step s2) Q fun v B3 H3 s3 r3 => q v B3 H3 (Step.trans hp (Step.trans hp s1 s2) s3) r3
theorem allR_strs {B : Hp} : ∀ ys : List Str, AllR (ys.map dS) B (ys.map V.str)
  | [] => rfl
  | y :: ys => ⟨_, _, rfl, rfl, allR_strs ys⟩
theorem ev_split (ha : EvG m ta Γ (dS x)) (hb : EvG m tb Γ (dS y)) (h1 : (y.length == 0) = false) (h2 : x.length + 2 ≤ sizeLine) :
    EvG m (tM1 (fun x xs H Q => ∃ a b, x = .str a ∧ xs = [.str b] ∧ (b.length == 0) = false ∧ a.length + 2 ≤ sizeLine ∧ rNewStrs (Txt.split a b) H Q) ta tb) Γ (rL ((Txt.split x y).map dS)) :=
  ev_m1 ha hb fun B H hp Q q => ⟨x, y, rfl, rfl, h1, h2, fun p np => q _ _ _ (hp.new np) ⟨p, _, rfl, upd_same, allR_strs _⟩⟩
theorem ev_ends (ha : EvG m ta Γ (dS x)) (hb : EvG m tb Γ (dS y)) : EvG m (tM1 (fun x xs H Q => ∃ a b, x = .str a ∧ xs = [.str b] ∧ Q (.bl (Txt.endswith a b)) H) ta tb) Γ (dB (Txt.endswith x y)) :=
  ev_m1 ha hb fun B H hp Q q => ⟨x, y, rfl, rfl, q _ B H hp.refl rfl⟩
theorem ev_starts (ha : EvG m ta Γ (dS x)) (hb : EvG m tb Γ (dS y)) : EvG m (tM1 (fun x xs H Q => ∃ a b, x = .str a ∧ xs = [.str b] ∧ Q (.bl (Txt.startswith a b)) H) ta tb) Γ (dB (Txt.startswith x y)) :=
  ev_m1 ha hb fun B H hp Q q => ⟨x, y, rfl, rfl, q _ B H hp.refl rfl⟩
theorem ev_join {ys : List Str} (ha : EvG m ta Γ (dS x)) (hb : EvG m tb Γ (rL (ys.map dS))) (hz : (ys.map (·.length)).sum + ys.length * x.length ≤ 16777216) :
    EvG m (tM1 (fun x xs H Q => ∃ a p, ∃ ys : List Str, x = .str a ∧ xs = [.ref p] ∧ (SqL K H p (ys.map V.str) ∨ SqT K H p (ys.map V.str)) ∧
      (ys.map (·.length)).sum + ys.length * a.length ≤ 16777216 ∧ Q (.str (Txt.join a ys)) H) ta tb) Γ (dS (Txt.join x ys)) := fun σ B H hs hp Q q =>
  ha σ B H hs hp _ fun v B1 H1 s1 r1 => by
    obtain rfl : v = .str x := r1
    refine ⟨⟨x, rfl⟩, hb σ B1 H1 (hs.mono s1.sub) (hp.step s1) _ fun u B2 H2 s2 ⟨p, xs, e, ea, ra⟩ => ?_⟩
    have hp2 := (hp.step s1).step s2
    exact ⟨x, p, ys, rfl, by rw [e], .inl (SqL.of (by rw [hp2.sub p _ ea, ra.strs])), hz, q _ B2 H2 (Step.trans hp s1 s2) rfl⟩
/-! slices -/
def EvP (m : Mt) (to : TO) (Γ : Gm) (o : Option Int) : Prop := ∀ σ B H, Sl Γ σ B → Pre m B H → ∀ Q : Option Int → Hp → Prop, (∀ B' H', Step m B H B' H' → Q o H') → to σ H Q
theorem ep_no : EvP m tNoPart Γ none := fun σ B H hs hp Q q => q B H hp.refl
theorem ep_some (h : EvG m ta Γ (dI i)) : EvP m (tPart ta) Γ (some i) := fun σ B H hs hp Q q => h σ B H hs hp _ fun v B1 H1 s1 r1 => ⟨i, r1, q B1 H1 s1⟩
theorem cut_all {B : Hp} {xs : List V} (lo hi : Option Int) (h : AllR Rs B xs) : AllR ((Rs.drop (HT.sIx Rs.length 0 lo)).take (HT.sIx Rs.length Rs.length hi - HT.sIx Rs.length 0 lo)) B (cutV xs lo hi) := by
  unfold cutV
  rw [h.len]
  exact (h.drop _).take _
theorem ev_sliceL {lo hi : Option Int} (ha : EvG m ta Γ (rL Rs)) (hl : EvP m tl Γ lo) (hh : EvP m th Γ hi) :
    EvG m (tSl (rSlQ K) ta tl th) Γ (rL ((Rs.drop (HT.sIx Rs.length 0 lo)).take (HT.sIx Rs.length Rs.length hi - HT.sIx Rs.length 0 lo))) := fun σ B H hs hp Q q =>
  ha σ B H hs hp _ fun v B1 H1 s1 ⟨a, xs, e, ea, ra⟩ => hl σ B1 H1 (hs.mono s1.sub) (hp.step s1) _ fun B2 H2 s2 => hh σ B2 H2 (hs.mono (s1.sub.trans s2.sub)) ((hp.step s1).step s2) _ fun B3 H3 s3 => by
    have hp3 := ((hp.step s1).step s2).step s3
    have s03 := Step.trans hp (Step.trans hp s1 s2) s3
    have sb := s2.sub.trans s3.sub
    exact .inl ⟨a, xs, e, SqL.of (hp3.sub a _ (sb a _ ea)), fun p np => q _ _ _ (Step.trans hp s03 (hp3.new np)) ⟨p, _, rfl, upd_same, (cut_all lo hi ra).mono (sb.trans (hp3.new np).sub)⟩⟩
theorem ev_sliceS {lo hi : Option Int} (ha : EvG m ta Γ (dS x)) (hl : EvP m tl Γ lo) (hh : EvP m th Γ hi) (hz : x.length ≤ sizeLine) : EvG m (tSl (rSlQ K) ta tl th) Γ (dS (cutS x lo hi)) := fun σ B H hs hp Q q =>
  ha σ B H hs hp _ fun v B1 H1 s1 r1 => hl σ B1 H1 (hs.mono s1.sub) (hp.step s1) _ fun B2 H2 s2 => hh σ B2 H2 (hs.mono (s1.sub.trans s2.sub)) ((hp.step s1).step s2) _ fun B3 H3 s3 => by
    obtain rfl : v = .str x := r1
    exact .inr ⟨x, rfl, hz, q _ B3 H3 (Step.trans hp (Step.trans hp s1 s2) s3) rfl⟩
/-! in, not in, index: texts, ints -/
theorem inV_str (x : Str) (ys : List Str) : inV (.str x) (ys.map V.str) = decide (x ∈ ys) := by
  unfold inV
  induction ys with
  | nil => rfl
  | cons y ys ih =>
    rw [List.map_cons, List.any_cons, ih]
    have e : eqV (V.str y) (V.str x) = decide (y = x) := by
      by_cases h : y = x
      · subst h; simp [eqV]
      · simp [eqV, h]
    rw [e, ← Bool.decide_or]
    refine dec_iff ?_
    rw [List.mem_cons, eq_comm]
theorem inV_int (x : Int) (ys : List Int) : inV (.int x) (ys.map V.int) = decide (x ∈ ys) := by
  unfold inV
  induction ys with
  | nil => rfl
  | cons y ys ih =>
    rw [List.map_cons, List.any_cons, ih]
    have e : eqV (V.int y) (V.int x) = decide (y = x) := by
      by_cases h : y = x
      · subst h; simp [eqV]
      · simp [eqV, h]
    rw [e, ← Bool.decide_or]
    refine dec_iff ?_
    rw [List.mem_cons, eq_comm]
theorem flat_strs (ys : List Str) : (ys.map V.str).all flatV = true := by simp [flatV]
theorem flat_ints (ys : List Int) : (ys.map V.int).all flatV = true := by simp [flatV]
theorem ev_inS {ys : List Str} (ha : EvG m ta Γ (dS x)) (hb : EvG m tb Γ (rL (ys.map dS))) : EvG m (tOp (rInA K) ta tb) Γ (dB (decide (x ∈ ys))) :=
  ev_op ha hb (bin_now fun B H u v hp hu hv => ⟨_, rfl, fun Q q => by
    obtain ⟨a, xs, e, ea, ra⟩ := hv
    obtain rfl : u = .str x := hu
    refine .inl ⟨a, ys.map V.str, e, .inl (SqL.of (by rw [hp.sub a _ ea, ra.strs])), rfl, flat_strs ys, ?_⟩
    rw [inV_str]
    exact q⟩)
theorem ev_inST {ys : List Str} (ha : EvG m ta Γ (dS x)) (hb : EvG m tb Γ (rT K (ys.map dS))) : EvG m (tOp (rInA K) ta tb) Γ (dB (decide (x ∈ ys))) :=
  ev_op ha hb (bin_now fun B H u v hp hu hv => ⟨_, rfl, fun Q q => by
    obtain ⟨a, xs, e, ea, ra⟩ := hv
    obtain rfl : u = .str x := hu
    refine .inl ⟨a, ys.map V.str, e, .inr (hp.sub.sqT (by rw [← ra.strs]; exact ea)), rfl, flat_strs ys, ?_⟩
    rw [inV_str]
    exact q⟩)
theorem ev_niST {ys : List Str} (ha : EvG m ta Γ (dS x)) (hb : EvG m tb Γ (rT K (ys.map dS))) : EvG m (tOp (rNiA K) ta tb) Γ (dB (!decide (x ∈ ys))) :=
  ev_op ha hb (bin_now fun B H u v hp hu hv => ⟨_, rfl, fun Q q => by
    obtain ⟨a, xs, e, ea, ra⟩ := hv
    obtain rfl : u = .str x := hu
    refine .inl ⟨a, ys.map V.str, e, .inr (hp.sub.sqT (by rw [← ra.strs]; exact ea)), rfl, flat_strs ys, ?_⟩
    rw [inV_str]
    exact q⟩)
theorem ev_inIT {ys : List Int} (ha : EvG m ta Γ (dI i)) (hb : EvG m tb Γ (rT K (ys.map dI))) : EvG m (tOp (rInA K) ta tb) Γ (dB (decide (i ∈ ys))) :=
  ev_op ha hb (bin_now fun B H u v hp hu hv => ⟨_, rfl, fun Q q => by
    obtain ⟨a, xs, e, ea, ra⟩ := hv
    obtain rfl : u = .int i := hu
    refine .inl ⟨a, ys.map V.int, e, .inr (hp.sub.sqT (by rw [← ra.ints]; exact ea)), rfl, flat_ints ys, ?_⟩
    rw [inV_int]
    exact q⟩)
theorem eqV_int (a b : Int) : eqV (V.int a) (V.int b) = decide (a = b) := by
  by_cases h : a = b
  · subst h; simp [eqV]
  · simp [eqV, h]
theorem eqV_str (a b : Str) : eqV (V.str a) (V.str b) = decide (a = b) := by
  by_cases h : a = b
  · subst h; simp [eqV]
  · simp [eqV, h]
theorem tyV_list {B H : Hp} {v : V} (hp : Pre m B H) (h : (rL Rs).p B v) : tyV K "list" v H := by
  obtain ⟨a, xs, e, ea, _⟩ := h
  rw [e]
  exact .inl ⟨rfl, xs, SqL.of (hp.sub a _ ea)⟩
theorem ev_indexI {ns : List Int} {k : Nat} (ha : EvG m ta Γ (rL (ns.map dI))) (hb : EvG m tb Γ (dI i)) (hk : ns[k]? = some i) (hm : ∀ n, n < k → ns[n]? ≠ some i) : EvG m (tBM K "list" (rIndex K) ta (tCons tb tNil)) Γ (dI (k : Int)) :=
  ev_bm ha (ea1 hb) ⟨fun B H x hp hx => tyV_list hp hx, fun B H x vs hp hx hv Q q => by
    obtain ⟨v, rfl, e⟩ := all1 hv
    obtain ⟨a, xs, rfl, ea, ra⟩ := hx
    obtain rfl : v = .int i := e
    refine ⟨a, ns.map V.int, .int i, k, .int i, rfl, rfl, SqL.of (by rw [hp.sub a _ ea, ra.ints]), rfl, flat_ints ns, by rw [List.getElem?_map, hk] <;> rfl, by rw [eqV_int]; exact decide_eq_true rfl, fun n z hn hz => ?_, q _ B H hp.refl rfl⟩
    rw [List.getElem?_map] at hz
    cases e : ns[n]? with
    | none => rw [e] at hz; cases hz
    | some c =>
      rw [e] at hz
      obtain rfl : V.int c = z := Option.some.inj hz
      rw [eqV_int]
      exact decide_eq_false fun w => hm n hn (by rw [e, w])⟩
theorem ev_indexS {ns : List Str} {k : Nat} (ha : EvG m ta Γ (rL (ns.map dS))) (hb : EvG m tb Γ (dS x)) (hk : ns[k]? = some x) (hm : ∀ n, n < k → ns[n]? ≠ some x) : EvG m (tBM K "list" (rIndex K) ta (tCons tb tNil)) Γ (dI (k : Int)) :=
  ev_bm ha (ea1 hb) ⟨fun B H x hp hx => tyV_list hp hx, fun B H u vs hp hx hv Q q => by
    obtain ⟨v, rfl, e⟩ := all1 hv
    obtain ⟨a, xs, rfl, ea, ra⟩ := hx
    obtain rfl : v = .str x := e
    refine ⟨a, ns.map V.str, .str x, k, .str x, rfl, rfl, SqL.of (by rw [hp.sub a _ ea, ra.strs]), rfl, flat_strs ns, by rw [List.getElem?_map, hk] <;> rfl, by rw [eqV_str]; exact decide_eq_true rfl, fun n z hn hz => ?_, q _ B H hp.refl rfl⟩
    rw [List.getElem?_map] at hz
    cases e : ns[n]? with
    | none => rw [e] at hz; cases hz
    | some c =>
      rw [e] at hz
      obtain rfl : V.str c = z := Option.some.inj hz
      rw [eqV_str]
      exact decide_eq_false fun w => hm n hn (by rw [e, w])⟩
end
end Sq
/-! Sq, part H: loops over lists and ranges, said shorter. -/
namespace Sq
open PySem PySem.Spec PyProof.Rows L2
section
variable {m : Mt} {Γ Δ : Gm} {I J : Iv m} {D : Ends} {t u tb : TS} {te ta ti tv : TE} {tt : TT} {R S : Rp} {Rs Ss : List Rp} {i j : Nat} {K : PySem.W.Frag} {wi : TI} {g : TG} {vs : List Nat}
theorem map_filter_range {α β : Type} (xs : List α) (f : α → Bool) (S : α → β) (d : α) : ((List.range xs.length).filter fun k => f (xs.getD k d)).map (fun k => S (xs.getD k d)) = (xs.filter f).map S := by
  have e : xs = (List.range xs.length).map fun k => xs.getD k d := by
    refine List.ext_getElem? fun k => ?_
    by_cases h : k < xs.length
    · rw [List.getElem?_map, List.getElem?_range h, Option.map_some, List.getD_eq_getElem?_getD, List.getElem?_eq_getElem h] <;> rfl
    · rw [List.getElem?_eq_none (by omega), List.getElem?_eq_none (by rw [List.length_map, List.length_range]; omega)]
  conv => rhs; rw [e]
  rw [List.filter_map, List.map_map]
  rfl
/-- [S x for x in xs if f x] -/
theorem ev_lcM {α : Type} {xs : List α} {R0 : α → Rp} (f : α → Bool) (S : α → Rp) (hz : xs.length < sizeLine) (hw : EvI m wi Γ (xs.map R0).length (fun i => (xs.map R0)[i]?))
    (hb : ∀ x ∈ xs, ∃ Δ js, TgG m g (wipeG Γ vs) (R0 x) Δ js ∧ (∀ j ∈ js, j ∈ vs) ∧ EvB m tt Δ (· = f x) ∧ (f x = true → EvG m te Δ (S x))) : EvG m (tLc wi g tt te vs) Γ (rL ((xs.filter f).map S)) := by
  match xs, hz, hw, hb with
  | [], hz, hw, hb => exact ev_lcF (n := 0) (Ys := fun i => ([] : List Rp)[i]?) (fun _ => true) (fun _ => dN) (by decide) hw fun k R hk => absurd hk (Nat.not_lt_zero _)
  | x :: xs, hz, hw, hb =>
    refine (ev_lcF (fun k => f ((x :: xs).getD k x)) (fun k => S ((x :: xs).getD k x)) (by rw [List.length_map]; exact hz) hw fun k R hk hR => ?_).to (congrArg rL (by rw [List.length_map]; exact map_filter_range (x :: xs) f S x))
    rw [List.length_map] at hk
    have e : R = R0 ((x :: xs).getD k x) := by
      rw [List.getElem?_map, List.getElem?_eq_getElem hk] at hR
      rw [List.getD_eq_getElem?_getD, List.getElem?_eq_getElem hk]
      exact (Option.some.inj hR).symm
    subst e
    refine hb _ ?_
    rw [List.getD_eq_getElem?_getD, List.getElem?_eq_getElem hk]
    exact List.getElem_mem hk
/-- [S x for x in xs] -/
theorem ev_lcA {α : Type} {xs : List α} {R0 : α → Rp} (S : α → Rp) (hz : xs.length < sizeLine) (hw : EvI m wi Γ (xs.map R0).length (fun i => (xs.map R0)[i]?))
    (hb : ∀ x ∈ xs, ∃ Δ js, TgG m g (wipeG Γ vs) (R0 x) Δ js ∧ (∀ j ∈ js, j ∈ vs) ∧ EvG m te Δ (S x)) : EvG m (tLc wi g tYes te vs) Γ (rL (xs.map S)) :=
  (ev_lcM (fun _ => true) S hz hw fun x hx => by
    obtain ⟨Δ, js, h1, h2, h3⟩ := hb x hx
    exact ⟨Δ, js, h1, h2, eb_yes, fun _ => h3⟩).to (by rw [List.filter_eq_self.mpr fun _ _ => rfl])
/-- over a range from 0 -/
theorem ei_rngN {ta : TA} {n : Nat} (h : EvA m ta Γ [dI (n : Int)]) (hn : n ≤ 1000000) : EvI m (iRng1 ta) Γ n (fun i => some (dI (i : Int))) := by
  have h2 := ei_rng1 h (by have e : (2 : Int) ^ 62 = 4611686018427387904 := by decide
                           omega)
  rw [Int.toNat_natCast] at h2
  have e : (fun i : Nat => some (dI (0 + (i : Int)))) = fun i : Nat => some (dI (i : Int)) := by funext i; rw [Int.zero_add]
  rw [e] at h2
  exact h2
theorem ev_lcRF {n : Nat} {F : Nat → Rp} (f : Nat → Bool) (S : Nat → Rp) (hz : n < sizeLine) (hw : EvI m wi Γ n (fun i => some (F i)))
    (hb : ∀ k, k < n → ∃ Δ js, TgG m g (wipeG Γ vs) (F k) Δ js ∧ (∀ j ∈ js, j ∈ vs) ∧ EvB m tt Δ (· = f k) ∧ (f k = true → EvG m te Δ (S k))) : EvG m (tLc wi g tt te vs) Γ (rL (((List.range n).filter f).map S)) :=
  ev_lcF f S hz hw fun k R hk hR => by cases hR; exact hb k hk
theorem ev_lcR {n : Nat} {F : Nat → Rp} (S : Nat → Rp) (hz : n < sizeLine) (hw : EvI m wi Γ n (fun i => some (F i)))
    (hb : ∀ k, k < n → ∃ Δ js, TgG m g (wipeG Γ vs) (F k) Δ js ∧ (∀ j ∈ js, j ∈ vs) ∧ EvG m te Δ (S k)) : EvG m (tLc wi g tYes te vs) Γ (rL ((List.range n).map S)) :=
  ev_lc S hz hw fun k R hk hR => by cases hR; exact hb k hk
/-- for over a range -/
theorem st_forR {n : Nat} {F : Nat → Rp} (Γs : Nat → Gm) (Is : Iv m → Nat → Iv m) (fam : Fam Is) (hw : EvI m wi Γ n (fun i => some (F i))) (h0 : LeG Γ (Γs 0))
    (hb : ∀ (J : Iv m) k, Imp J I → k < n → ∃ Δ js, TgG m g (Γs k) (F k) Δ js ∧ StG m tb Δ (Is J k) { D with nx := nxOf (Γs (k + 1)) (Is J (k + 1)), ct := nxOf (Γs (k + 1)) (Is J (k + 1)), bk := u D })
    (hd : StG m u (Γs n) (Is I n) D) : StG m (tSeq (tFor wi g tb) u) Γ (Is I 0) D :=
  st_for Γs Is fam hw h0 (fun J k R hJ hk hR => by cases hR; exact hb J k hJ hk) hd
/-- for over a list -/
theorem st_forM {α : Type} {xs : List α} {R0 : α → Rp} (Γs : Nat → Gm) (Is : Iv m → Nat → Iv m) (fam : Fam Is) (hw : EvI m wi Γ (xs.map R0).length (fun i => (xs.map R0)[i]?)) (h0 : LeG Γ (Γs 0))
    (hb : ∀ (J : Iv m) k x, Imp J I → xs[k]? = some x → ∃ Δ js, TgG m g (Γs k) (R0 x) Δ js ∧ StG m tb Δ (Is J k) { D with nx := nxOf (Γs (k + 1)) (Is J (k + 1)), ct := nxOf (Γs (k + 1)) (Is J (k + 1)), bk := u D })
    (hd : StG m u (Γs xs.length) (Is I xs.length) D) : StG m (tSeq (tFor wi g tb) u) Γ (Is I 0) D :=
  st_for Γs Is fam hw h0 (fun J k R hJ hk hR => by
    rw [List.length_map] at hk
    rw [List.getElem?_map, List.getElem?_eq_getElem hk] at hR
    have hR' : R0 xs[k] = R := Option.some.inj hR
    subst hR'
    exact hb J k xs[k] hJ (List.getElem?_eq_getElem hk)) (by rw [List.length_map]; exact hd)
end
end Sq
/-! Sq, part O: instances. -/
namespace Sq
open PySem PySem.Spec PyProof.Rows L2
/-- an instance of C: its attributes' names, what they are -/
def rO (C : Addr) (ns : List Str) (Rs : List Rp) : Rp := ⟨fun B v => ∃ a dx vs, v = .ref a ∧ B a = some (.ins C dx (ns.zip vs)) ∧ AllR Rs B vs, fun s ⟨a, dx, vs, e, h, t⟩ => ⟨a, dx, vs, e, s a _ h, t.mono s⟩⟩
theorem le_O {C : Addr} {ns : List Str} {Rs Ss : List Rp} (h : Les Rs Ss) : Le (rO C ns Rs) (rO C ns Ss) := fun _ _ ⟨a, dx, vs, e, q, t⟩ => ⟨a, dx, vs, e, q, t.le h⟩
theorem look_all {B : Hp} {f : Str} {R : Rp} : ∀ {ns : List Str} {Rs : List Rp} {vs : List V}, AllR Rs B vs → (ns.zip Rs).lookup f = some R → ∃ v, (ns.zip vs).lookup f = some v ∧ R.p B v
  | [], _, _, _, e => by cases e
  | _ :: _, [], _, _, e => by cases e
  | n :: ns, S :: Rs, _, ⟨v, r, rfl, h, t⟩, e => by
    rw [List.zip_cons_cons, List.lookup_cons] at e ⊢
    cases z : f == n with
    | true => rw [z] at e; cases e; exact ⟨v, rfl, h⟩
    | false => rw [z] at e; exact look_all t e
theorem putF_end {f : Str} {y : V} : ∀ {fs : List (Str × V)}, (∀ p ∈ fs, p.1 ≠ f) → putF f y fs = fs ++ [(f, y)]
  | [], _ => rfl
  | (g, x) :: r, h => by
    unfold putF
    rw [if_neg (h (g, x) List.mem_cons_self), putF_end (fs := r) fun p hp => h p (List.mem_cons_of_mem _ hp)]
    rfl
/-- one's own instance, that still gets its attributes -/
def fIns (C : Addr) (ns : List Str) (Rs : List Rp) : Hp → HO → Prop := fun B o => ∃ dx vs, o = .ins C dx (ns.zip vs) ∧ AllR Rs B vs
theorem fIns_mono {C : Addr} {ns : List Str} {Rs : List Rp} {B B' : Hp} {o : HO} (s : Sub B B') (h : fIns C ns Rs B o) : fIns C ns Rs B' o := by
  obtain ⟨dx, xs, e, t⟩ := h
  exact ⟨dx, xs, e, t.mono s⟩
def iIns {m : Mt} (I : Iv m) (a : Addr) (C : Addr) (ns : List Str) (Rs : List Rp) : Iv m := iOwn I a (fIns C ns Rs) fIns_mono
section
variable {m : Mt} {Γ Δ : Gm} {I J : Iv m} {D : Ends} {t u tb : TS} {te ta ti tv : TE} {tt : TT} {R S : Rp} {Rs Ss : List Rp} {i j : Nat} {K : PySem.W.Frag} {C : Addr} {ns : List Str} {f : Str}
theorem ev_fld (ha : EvG m ta Γ (rO C ns Rs)) (c : Cls K C) (n : NoAttr K C f) (h : (ns.zip Rs).lookup f = some R) : EvG m (tFld K ta f) Γ R := fun σ B H hs hp Q q =>
  ha σ B H hs hp _ fun x B1 H1 s1 ⟨a, dx, vs, e, ea, r⟩ => by
    obtain ⟨v, hv, rv⟩ := look_all r h
    exact ⟨a, C, dx, _, v, e, (hp.step s1).sub a _ ea, c, n, hv, q v B1 H1 s1 rv⟩
theorem zip_names {ns : List Str} {vs : List V} : ∀ p ∈ ns.zip vs, p.1 ∈ ns := fun p hp => (List.of_mem_zip (a := p.1) (b := p.2) hp).1
/-- self.f = e -/
theorem st_fld {a : Addr} {j : Nat} (he : EvG m te Γ R) (hj : Γ[j]? = some (some (rV (.ref a)))) (c : Cls K C) (n : NoAttr K C f) (hf : f ∉ ns) (hl : ns.length = Rs.length) (hz : Rs.length < 1000) (h : StG m u Γ (iIns I a C (ns ++ [f]) (Rs ++ [R])) D) :
    StG m (tSeq (sFld K (tVar j) te f) u) Γ (iIns I a C ns Rs) D := fun σ B H hs hi => by
  have hpre := (iIns I a C ns Rs).pre hi
  refine he σ B H hs hpre _ fun y B1 H1 s1 r1 => ?_
  obtain ⟨g1, g2, g3, o, g4, dx, vs, e, g5⟩ := (iIns I a C ns Rs).step hi s1
  subst e
  obtain ⟨v, hv, rv⟩ := hs.2 j _ hj
  obtain rfl : v = .ref a := rv
  have hlen : vs.length = ns.length := by rw [hl, g5.len]
  refine ⟨.ref a, hv, a, C, dx, _, rfl, g4, c, n, ?_, ?_⟩
  · rw [List.length_zip, hlen, Nat.min_self, hl]; exact hz
  · rw [putF_end fun p hp (e : p.1 = f) => hf (by rw [← e]; exact zip_names p hp)]
    refine h σ B1 _ (hs.mono s1.sub) ⟨I.chg g1 g2 g3 g4, g2, g3, _, upd_same, dx, vs ++ [y], ?_, g5.app ⟨y, [], rfl, r1, rfl⟩⟩
    rw [List.zip_append hlen.symm] <;> rfl
/-- it is read again, ahead of a further attribute: Z says that what is wanted does not lean on it -/
def noIns (R : Rp) : Prop := ∀ (B : Hp) (a : Addr) (C dx : Addr) (fs : List (Str × V)) (v : V), B a = some (.ins C dx fs) → R.p B v → R.p (fun b => if b = a then none else B b) v
theorem st_fldZ {a : Addr} {j : Nat} (hj : Γ[j]? = some (some (rV (.ref a)))) (he : EvG m te (Γ.set j (some (rO C ns Rs))) R) (hR : noIns R) (c : Cls K C) (n : NoAttr K C f) (hf : f ∉ ns) (hl : ns.length = Rs.length) (hz : Rs.length < 1000) (h : StG m u Γ (iIns I a C (ns ++ [f]) (Rs ++ [R])) D) :
    StG m (tSeq (sFld K (tVar j) te f) u) Γ (iIns I a C ns Rs) D := fun σ B H hs hi => by
  have hpre := (iIns I a C ns Rs).pre hi
  obtain ⟨g1, g2, g3, o, g4, dx, vs, e, g5⟩ := id hi
  subst e
  obtain ⟨v, hv, rv⟩ := hs.2 j _ hj
  obtain rfl : v = .ref a := rv
  have hm : ¬ m.dom a := I.nm g2
  have sb : Sub B (upd B a (.ins C dx (ns.zip vs))) := fun b u q => by
    have ne : b ≠ a := fun z => by rw [z, g3] at q; cases q
    rw [upd_ne ne]
    exact q
  have p2 : Pre m (upd B a (.ins C dx (ns.zip vs))) H := ⟨fun b u q => by
    by_cases z : b = a
    · subst z; rw [upd_same] at q; rw [g4]; exact q
    · rw [upd_ne z] at q; exact hpre.sub b u q, hpre.po, fun b hb => by
    have ne : b ≠ a := fun z => hm (z ▸ hb)
    rw [upd_ne ne]
    exact hpre.out b hb⟩
  have hs2 : Sl (Γ.set j (some (rO C ns Rs))) σ (upd B a (.ins C dx (ns.zip vs))) := by
    have q := (hs.mono sb).set (i := j) (R := rO C ns Rs) (v := .ref a) ⟨a, dx, vs, rfl, upd_same, g5.mono sb⟩
    have hlj : j < σ.length := (List.getElem?_eq_some_iff.mp hv).1
    have e2 : σ.set j (some (.ref a)) = σ := by
      refine List.ext_getElem? fun k => ?_
      by_cases z : j = k
      · subst z; rw [List.getElem?_set_self hlj, hv]
      · rw [List.getElem?_set_ne z]
    rw [e2] at q
    exact q
  refine he σ _ H hs2 p2 _ fun y B1 H1 s1 r1 => ?_
  have ha1 : B1 a = some (.ins C dx (ns.zip vs)) := s1.sub a _ upd_same
  have s2 : Step m B H (fun b => if b = a then none else B1 b) H1 := by
    refine ⟨s1.keep, s1.po, fun b o e => ?_, fun b o e => ?_, fun b o e => ?_⟩
    · have ne : b ≠ a := fun z => by rw [z, g3] at e; cases e
      show (if b = a then none else B1 b) = some o
      rw [if_neg ne]
      exact s1.sub b o (sb b o e)
    · have e' : (if b = a then none else B1 b) = some o := e
      by_cases z : b = a
      · rw [if_pos z] at e'; cases e'
      · rw [if_neg z] at e'; exact s1.sub' b o e'
    · have e' : (if b = a then none else B1 b) = some o := e
      by_cases z : b = a
      · rw [if_pos z] at e'; cases e'
      · rw [if_neg z] at e'
        rcases s1.new b o e' with q | q
        · rw [upd_ne z] at q; exact .inl q
        · exact .inr q
  have r2 := hR B1 a C dx _ y ha1 r1
  obtain ⟨k1, k2, k3, o, k4, dx', vs', e, k5⟩ := (iIns I a C ns Rs).step hi s2
  subst e
  have hlen : vs'.length = ns.length := by rw [hl, k5.len]
  refine ⟨.ref a, hv, a, C, dx', _, rfl, k4, c, n, ?_, ?_⟩
  · rw [List.length_zip, hlen, Nat.min_self, hl]; exact hz
  · rw [putF_end fun p hp (e : p.1 = f) => hf (by rw [← e]; exact zip_names p hp)]
    refine h σ _ _ (hs.mono s2.sub) ⟨I.chg k1 k2 k3 k4, k2, k3, _, upd_same, dx', vs' ++ [y], ?_, k5.app ⟨y, [], rfl, r2, rfl⟩⟩
    rw [List.zip_append hlen.symm] <;> rfl
theorem noIns_T {ns : List Int} : noIns (rT K (ns.map dI)) := fun B a C dx fs v h ⟨p, xs, e, hT, r⟩ => by
  refine ⟨p, xs, e, ?_, ?_⟩
  · rcases hT with (hT | ⟨o, hT⟩) | hT
    · refine .inl (.inl ?_)
      have ne : p ≠ a := fun z => by rw [z, h] at hT; cases hT
      show (if p = a then none else B p) = _
      rw [if_neg ne]
      exact hT
    · refine .inl (.inr ⟨o, ?_⟩)
      have ne : p ≠ a := fun z => by rw [z, h] at hT; cases hT
      show (if p = a then none else B p) = _
      rw [if_neg ne]
      exact hT
    · exact .inr hT
  · have go : ∀ {ns : List Int} {xs : List V} {B B' : Hp}, AllR (ns.map dI) B xs → AllR (ns.map dI) B' xs := by
      intro ns
      induction ns with
      | nil => intro xs B B' h; exact h
      | cons n ns ih => intro xs B B' ⟨v, r, e, h, t⟩; exact ⟨v, r, e, h, ih t⟩
    exact go r
/-! *e among the arguments -/
theorem ea_starL {t : TA} (ha : EvG m te Γ (rL Rs)) (hb : EvA m t Γ Ss) : EvA m (StX.tStar K te t) Γ (Rs ++ Ss) := fun σ B H hs hp Q q =>
  ha σ B H hs hp _ fun x B1 H1 s1 ⟨a, xs, e, ea, r1⟩ => ⟨a, xs, e, .inr (SqL.of ((hp.step s1).sub a _ ea)), hb σ B1 H1 (hs.mono s1.sub) (hp.step s1) _ fun ys B2 H2 s2 r2 => q _ B2 H2 (Step.trans hp s1 s2) ((r1.mono s2.sub).app r2)⟩
theorem ea_starT {t : TA} (ha : EvG m te Γ (rT K Rs)) (hb : EvA m t Γ Ss) : EvA m (StX.tStar K te t) Γ (Rs ++ Ss) := fun σ B H hs hp Q q =>
  ha σ B H hs hp _ fun x B1 H1 s1 ⟨a, xs, e, ea, r1⟩ => ⟨a, xs, e, .inl ((hp.step s1).sub.sqT ea), hb σ B1 H1 (hs.mono s1.sub) (hp.step s1) _ fun ys B2 H2 s2 r2 => q _ B2 H2 (Step.trans hp s1 s2) ((r1.mono s2.sub).app r2)⟩
end

/-! ### __init__ -/
/-- what an __init__ promises: the letter i, the arguments, and what the instance is then -/
def spI {ι : Type} (args : Mt → ι → List Rp) (pre : ι → Prop) (C : Addr) (ns : List Str) (res : Mt → ι → List Rp) : Sp := fun vs H Q _ => ∃ (m : Mt) (B0 H0 B : Hp) (i : ι) (x dx : Addr) (us : List V), vs = .ref x :: us ∧ Pre m B0 H0 ∧ Step m B0 H0 B H ∧ H0 x = none ∧ B x = none ∧
  H x = some (.ins C dx []) ∧ pre i ∧ AllR (args m i) B us ∧ ∀ B' H', Step m B0 H0 B' H' → (rO C ns (res m i)).p B' (.ref x) → Q .non H'
section
variable {P : Program} {w : World} {K : PySem.W.Frag} {mg : Str → Option Value} {base : Heap} {m : Mt} {Γ : Gm} {C : Addr} {ns : List Str} {ι : Type} {args : Mt → ι → List Rp} {pre : ι → Prop} {res : Mt → ι → List Rp} {t : TS} {N : List Str}
theorem ini_run (hl : ∀ m i, (args m i).length + 1 ≤ N.length) (hb : ∀ (m : Mt) (B0 H0 : Hp) (i : ι) (x : Addr) (Q : VK) (hp : Pre m B0 H0), pre i → Rt (iIns (I0 m B0 H0 hp) x C ns (res m i)) Q dN → StG m t (gam N (rV (.ref x) :: args m i)) (iIns (I0 m B0 H0 hp) x C [] []) { nx := fun _ H' => Q .non H', rt := Q })
    {vs : List V} {H : Hp} {Q : VK} {E : XK} (h : spI args pre C ns res vs H Q E) : t { nx := fun _ H' => Q .non H', rt := Q } (L2.start N vs) H := by
  obtain ⟨m, B0, H0, B, i, x, dx, us, rfl, hp, s, hx, bx, hH, hpre, ha, q⟩ := h
  refine hb m B0 H0 i x Q hp hpre (fun v B' H' p r => ?_) _ B H (sl_start (Rs := rV (.ref x) :: args m i) ⟨_, _, rfl, rfl, ha⟩ (by rw [List.length_cons]; exact hl m i)) ⟨⟨hp.step s, s⟩, hx, bx, _, hH, dx, [], rfl, rfl⟩
  obtain ⟨p1, p2, p3, o, p4, dx', vs', e, p5⟩ := p
  obtain rfl : v = .non := r
  subst e
  have fz := (I0 m B0 H0 hp).frz p1 p2 p4
  have sb : Sub B' (upd B' x (.ins C dx' (ns.zip vs'))) := fun b u q => by
    have ne : b ≠ x := fun z => by rw [z, p3] at q; cases q
    rw [upd_ne ne]
    exact q
  exact q _ H' fz.2 ⟨x, dx', vs', rfl, upd_same, p5.mono sb⟩
structure Ini (P : Program) (w : World) (K : PySem.W.Frag) (mg : Str → Option Value) (base : Heap) (k : Nat) (C : Addr) (sp : Sp) : Prop where
  ex : ∃ f, Mk K C f ∧ FnR P w K mg base CX0 k f sp
theorem Ini.mono {j k : Nat} {C : Addr} {sp : Sp} (c : Ini P w K mg base j C sp) (h : j ≤ k) : Ini P w K mg base k C sp := by
  obtain ⟨f, h1, h2⟩ := c.ex
  exact ⟨f, h1, h2.mono h⟩
/-- the class at C has an __init__ with this text -/
structure DfI (K : PySem.W.Frag) (C : Addr) (qual : Str) (st : Stmt) : Prop where
  ex : ∃ (f : Addr) (fd : FuncData), Mk K C f ∧ Fun K "__init__" qual st f fd
theorem ini_of {qual : Str} {st : Stmt} {ps : List Str} {k : Nat} (D : DfI K C qual st) (S : FnScope N ps (defScope st))
    (hb : ∀ (kV doc pm : Value) (an : Option Addr) (cdv ct : Value) (us : List Value), us.length = ps.length → bindArgs (PySem.W.fnOf "__init__" qual (defArgs st) (defBody st) (defScope st) .none kV doc pm an cdv ct) ⟨us, []⟩ = pure (ps.zip us))
    (hl : ∀ m i, (args m i).length + 1 = ps.length) (hN : ps.length ≤ N.length)
    (hbody : ∀ (f : Addr) (cdv : Value) (A : Around) (outer : List Env) (s : Shared) (H : Hp) (E : XK), Room k (A.deeper (envOfC qual (defScope st) s.heap.objs.size f cdv)) →
      ∃ t, PSs (cxOf CX0 P w K mg base N qual (defScope st) f cdv A outer s H E).nox (defBody st) t ∧
        ∀ (m : Mt) (B0 H0 : Hp) (i : ι) (x : Addr) (Q : VK) (hp : Pre m B0 H0), pre i → Rt (iIns (I0 m B0 H0 hp) x C ns (res m i)) Q dN → StG m t (gam N (rV (.ref x) :: args m i)) (iIns (I0 m B0 H0 hp) x C [] []) { nx := fun _ H' => Q .non H', rt := Q }) : Ini P w K mg base (k + 1) C (spI args pre C ns res) := by
  obtain ⟨f, fd, M, F⟩ := D.ex
  have G : FnOk P w K mg base CX0 (k + 1) f fd ps (spI args pre C ns res) := F.ok S (fun vs H Q E h => by
    obtain ⟨m, B0, H0, B, i, x, dx, us, rfl, hp, s, hx, bx, hH, hpre, ha, q⟩ := h
    rw [List.length_cons, ha.len]
    exact hl m i) (fun cdv A outer s H vs Q E hr h => by
    obtain ⟨t, h1, h2⟩ := hbody f cdv A outer s H E hr
    exact ⟨t, h1, ini_run (fun m i => by rw [hl]; exact hN) h2 h⟩)
  exact ⟨f, M, (G.raw (F.binds hb) .nil).imp fun vs H Q E h => by rw [List.append_nil]; exact h⟩
/-- C(..) -/
theorem pe_new {X : Cx} {k j : Nat} {C : Addr} {sp : Sp} {x : Str} {p pos : Pos} {e : Expr} {es : List Expr} {t : TA} (c : Ini X.prog X.w X.K X.mg X.base k C sp) {A : Around} (hr : Room j A) (hk : k + 1 ≤ j) (hm : X.mg x = some (.ref C)) (hg : Gl X x) (ha : PA X (e :: es) t) (hA : X.A = A := by rfl)
    (hdb : (x == ("__debug__" : Str)) = false := by decide) (he : starEach (e :: es) X.env = (false, eval e X.env) :: starEach es X.env := by rfl) (hpl : (backTo pos (starEach es X.env)).any (·.1) = false := by rfl) :
    PE X (.Call (.Name x p) (e :: es) [] pos) (StX.tMakeR C sp E0 t) := by
  obtain ⟨f, h1, h2⟩ := c.ex
  exact StX.pe_makeR h1 h2 (show Room (k + 1) X.A by rw [hA]; exact hr.mono hk) hg hm pass0 ha hdb he hpl
/-- C(e, .., *y) -/
theorem pe_newS {X : Cx} {k j : Nat} {C : Addr} {sp : Sp} {x : Str} {p pos : Pos} {e : Expr} {es : List Expr} {t : TA} (c : Ini X.prog X.w X.K X.mg X.base k C sp) {A : Around} (hr : Room j A) (hk : k + 1 ≤ j) (hm : X.mg x = some (.ref C)) (hg : Gl X x) (ha : PA X (e :: es) t) (hA : X.A = A := by rfl)
    (hdb : (x == ("__debug__" : Str)) = false := by decide) (he : starEach (e :: es) X.env = (false, eval e X.env) :: starEach es X.env := by rfl) (hpl : (backTo pos (starEach (e :: es) X.env)).any (·.1) = true := by rfl) :
    PE X (.Call (.Name x p) (e :: es) [] pos) (StX.tMakeR C sp E0 t) := by
  obtain ⟨f, M, F⟩ := c.ex
  refine ⟨fun pins s σ H Q I h => ?_⟩
  refine wpAny_Call_Name_kw (ld_glob I hg hm ?_ hdb)
  refine PySem.W.ks_call (P := fun h => X.K.In h) hpl (PySem.W.keeps_K M.kp) ?_
  have z := thn (ha.run pos pins s σ H _ I h) fun us s1 ⟨vs, H1, I1, r, q⟩ => (show X.K.In s1.heap ∧ wpAny (model X.prog X.w) X.A (call (.ref C) ([] ++ us)) (EP X pins σ Q) X.xe s1 from ⟨I1.kIn, StX.run_makeR M F (show Room (k + 1) X.A by rw [hA]; exact hr.mono hk) pass0 I1 r q⟩)
  rw [he] at z ⊢
  exact Calls.evalArgs_plain z
/-- cls(..), cls a name of one's own -/
def tLoc (i : Nat) (C : Addr) (t : TE) : TE := fun σ H Q => σ[i]? = some (some (.ref C)) ∧ t σ H Q
theorem pe_newL {X : Cx} {k j i : Nat} {C : Addr} {sp : Sp} {x : Str} {p pos : Pos} {e : Expr} {es : List Expr} {t : TA} (c : Ini X.prog X.w X.K X.mg X.base k C sp) {A : Around} (hr : Room j A) (hk : k + 1 ≤ j) (hN : X.N[i]? = some x) (hv : Vis X.env.scope x) (ha : PA X (e :: es) t) (hA : X.A = A := by rfl)
    (hdb : (x == ("__debug__" : Str)) = false := by decide) (hcd : (x == ("__classdict__" : Str)) = false := by decide) (he : starEach (e :: es) X.env = (false, eval e X.env) :: starEach es X.env := by rfl) (hpl : (backTo pos (starEach es X.env)).any (·.1) = false := by rfl) :
    PE X (.Call (.Name x p) (e :: es) [] pos) (tLoc i C (StX.tMakeR C sp E0 t)) := by
  obtain ⟨f, M, F⟩ := c.ex
  refine ⟨fun pins s σ H Q I h => ?_⟩
  obtain ⟨hs, ht⟩ := h
  refine wpAny_Call_Name_kw (thn ((pe_var (pos := p) hN hv hdb hcd).run pins s σ H (fun v H1 => v = .ref C ∧ H1 = H) I ⟨.ref C, hs, rfl, rfl⟩) fun u s1 ⟨v, H1, I1, r1, q1⟩ => ?_)
  obtain ⟨rfl, rfl⟩ := q1
  obtain rfl : u = .ref C := r1
  refine PySem.W.callWith_K (h₀ := X.base) I.ok.mod.kin M.kp (thn (ha.run pos pins s1 σ _ _ I1 ht) fun us s2 ⟨vs, H2, I2, r, q⟩ => ⟨I2.kIn, ?_⟩) he hpl
  exact StX.run_makeR M F (show Room (k + 1) X.A by rw [hA]; exact hr.mono hk) pass0 I2 r q
/-- cls( *y) -/
theorem pe_newLS {X : Cx} {k j i : Nat} {C : Addr} {sp : Sp} {x : Str} {p p2 pos : Pos} {e : Expr} {te : TE} (c : Ini X.prog X.w X.K X.mg X.base k C sp) {A : Around} (hr : Room j A) (hk : k + 1 ≤ j) (hN : X.N[i]? = some x) (hv : Vis X.env.scope x) (he : PE X e te) (hA : X.A = A := by rfl)
    (hdb : (x == ("__debug__" : Str)) = false := by decide) (hcd : (x == ("__classdict__" : Str)) = false := by decide) (hst : starEach [.Starred e p2] X.env = [(true, eval e X.env)] := by rfl) :
    PE X (.Call (.Name x p) [.Starred e p2] [] pos) (tLoc i C (StX.tMakeR C sp E0 (StX.tStar X.K te tNil))) := by
  obtain ⟨f, M, F⟩ := c.ex
  refine ⟨fun pins s σ H Q I h => ?_⟩
  obtain ⟨hs, ht⟩ := h
  refine wpAny_Call_Name_kw (thn ((pe_var (pos := p) hN hv hdb hcd).run pins s σ H (fun v H1 => v = .ref C ∧ H1 = H) I ⟨.ref C, hs, rfl, rfl⟩) fun u s1 ⟨v, H1, I1, r1, q1⟩ => ?_)
  obtain ⟨rfl, rfl⟩ := q1
  obtain rfl : u = .ref C := r1
  rw [hst]
  refine PySem.W.ks_call (P := fun h => X.K.In h) rfl (PySem.W.keeps_K M.kp) (PySem.W.ks_lone ?_)
  refine thn (he.run pins s1 σ _ _ I1 ht) fun v s2 ⟨y, H2, I2, ry, a, xs, ey, hx, q⟩ => ?_
  subst ey
  obtain rfl : v = Value.ref a := ry
  refine StX.star_any I2 hx fun us s3 I3 rv => ⟨I3.kIn, ?_⟩
  have q' : ∀ x dx, H2 x = none → H2 dx = none → dx ≠ x → sp (V.ref x :: (xs ++ [])) (upd (upd H2 dx (.own x)) x (.ins C dx [])) (fun v H2 => v = .non ∧ Q (.ref x) H2) E0 := q
  rw [List.append_nil] at q'
  exact StX.run_makeR M F (show Room (k + 1) X.A by rw [hA]; exact hr.mono hk) pass0 I3 rv q'
theorem new_pre {m : Mt} {B H : Hp} {x dx : Addr} {o o' : HO} (hp : Pre m B H) (hx : H x = none) (hd : H dx = none) (ne : dx ≠ x) : Step m B H B (upd (upd H dx o') x o) := by
  have s1 := hp.new (o := o') hd
  have s1' : Step m B H B (upd H dx o') := s1.less (Sub.refl _) s1.sub
  have p1 := hp.step s1'
  have s2 := p1.new (o := o) (p := x) (by rw [upd_ne ne.symm]; exact hx)
  exact Step.trans hp s1' (s2.less (Sub.refl _) s2.sub)
theorem ev_new {t : TA} (i : ι) (hp : pre i) (ha : EvA m t Γ (args m i)) : EvG m (StX.tMakeR C (spI args pre C ns res) E0 t) Γ (rO C ns (res m i)) := fun σ B H hs hB Q q =>
  ha σ B H hs hB _ fun vs B1 H1 s1 r1 => fun x dx hx hd ne => by
    have hp1 := hB.step s1
    have hb : B1 x = none := by
      cases e : B1 x with
      | none => rfl
      | some o => rw [hp1.sub x o e] at hx; cases hx
    exact ⟨m, B1, H1, B1, i, x, dx, vs, rfl, hp1, new_pre hp1 hx hd ne, hx, hb, upd_same, hp, r1, fun B' H' s2 r2 => ⟨rfl, q _ B' H' (Step.trans hB s1 s2) r2⟩⟩
theorem ev_loc {te : TE} {j : Nat} {R : Rp} (hj : Γ[j]? = some (some (rV (.ref C)))) (h : EvG m te Γ R) : EvG m (tLoc j C te) Γ R := fun σ B H hs hB Q q => by
  obtain ⟨v, hv, rv⟩ := hs.2 j _ hj
  obtain rfl : v = .ref C := rv
  exact ⟨hv, h σ B H hs hB Q q⟩
end
end Sq
/-! Sq, part Z: dict(zip(a tuple, a list)). -/
namespace Sq
open PySem PySem.Spec PyProof.Rows L2
/-- the places of such a zip: the zip, its tuple of iterators, its tuple that it gives out, the two iterators, the tuple, the list -/
structure Zc where
  z : Addr
  ti : Addr
  to : Addr
  i : Addr
  j : Addr
  a : Addr
  b : Addr
  xs : Array Value
  ys : Array Value
def Zc.D (c : Zc) : Prop := ZipApart c.z c.ti c.to c.i c.j c.a c.b
/-- both iterators stand at k -/
def Zc.At (c : Zc) (h : Heap) (k : Nat) : Prop := h.IsTupleIter c.i c.a k ∧ h.IsListIter c.j c.b k ∧ h.IsTuple c.a c.xs ∧ h.IsList c.b c.ys ∧ IsPair h c.ti (.ref c.i) (.ref c.j)
/-- the zip has given nothing yet; it has given T -/
def Zc.New (c : Zc) (h : Heap) : Prop := IsZip h c.z c.ti c.to .none ∧ ∃ u v, IsPair h c.to u v
def Zc.Out (c : Zc) (h : Heap) (T : Addr) (f : Bool) : Prop := IsZipHeld h c.z c.ti c.to T f ∧ ∃ o, h.get? T = some o
section
variable {prog : Program} {w : World} {A : Around} {E : Value → Shared → Prop} {s : Shared} {c : Zc} {k : Nat}
theorem Zc.keep {h h' : Heap} (x : c.At h k) (e : ∀ p o, h.get? p = some o → p = c.i ∨ p = c.j ∨ p = c.a ∨ p = c.b ∨ p = c.ti → h'.get? p = some o) : c.At h' k := by
  obtain ⟨x1, x2, x3, x4, x5⟩ := x
  exact ⟨x1.at fun o q => e _ o q (.inl rfl), x2.at fun o q => e _ o q (.inr (.inl rfl)), x3.at fun o q => e _ o q (.inr (.inr (.inl rfl))), x4.at fun o q => e _ o q (.inr (.inr (.inr (.inl rfl)))), e _ _ x5 (.inr (.inr (.inr (.inr rfl))))⟩
/-- what is kept by a turn -/
def Zc.Kept (c : Zc) (h h' : Heap) : Prop := ∀ p o, p ≠ c.z → p ≠ c.to → p ≠ c.i → p ≠ c.j → h.get? p = some o → h'.get? p = some o
theorem Zc.turn1 (D : c.D) {x y : Value} {Q : Value → Shared → Prop} (hn : c.New s.heap) (ha : c.At s.heap k) (hx : c.xs[k]? = some x) (hy : c.ys[k]? = some y)
    (hQ : ∀ h', c.At h' (k + 1) → IsZip h' c.z c.ti c.to (rawInt s.heap.objs.size) → IsPair h' s.heap.objs.size x y → c.Kept s.heap h' → Q (.ref s.heap.objs.size) { s with heap := h' }) :
    wpAny (model prog w) A (Builtin.«zip.__next__» ⟨[.ref c.z], []⟩) (fun r s' => ∃ v, r = .done (.ret v) ∧ Q v s') E s := by
  obtain ⟨hz, u, v, hO⟩ := hn
  obtain ⟨hi, hj, hA, hB, hI⟩ := ha
  show wpAny _ _ (field (.ref c.z) 2 >>= _) _ _ _
  refine wpAny_bind (wpAny_field hz rfl (x := .bool false) rfl ?_)
  show wpAny _ _ (field (.ref c.z) 3 >>= _) _ _ _
  refine wpAny_bind (wpAny_field hz rfl (x := .ref c.ti) rfl (wpAny_bind (wpAny_seqItems hI rfl ?_)))
  show wpAny _ _ (Builtin.SmallTypes.ownedTupleIsFree (.ref c.z) >>= _) _ _ _
  refine wpAny_bind ?_
  unfold Builtin.SmallTypes.ownedTupleIsFree
  refine wpAny_bind (wpAny_field hz rfl (x := .none) rfl (wpAny_pure ?_))
  simp only [if_true]
  refine wpAny_bind (wpAny_rule (wpAny_bind (wpAny_field hz rfl (x := .ref c.to) rfl (wpAny_bind (wpAny_setField_rec hz (by simp) fun g1 z1 b1 => ?_)))))
  replace z1 : IsZip g1 c.z c.ti c.to .ellipsis := z1
  refine wpAny_bind ?_
  simp only [List.zipIdx_cons, List.zipIdx_nil, List.forIn_cons, List.forIn_nil]
  refine wpAny_bind (wpAny_bind (wpAny_onRaise ?_))
  show wpAny _ _ (Builtin.SmallTypes.nextOf (.ref c.i) >>= _) _ _ _
  refine wpAny_bind (RZ.nextOf_tuple_item (hi.extBut b1.extBut D.i1z) (hA.extBut b1.extBut D.l1z) hx fun g2 i2 b2 => wpAny_pure ?_)
  have o2 : IsPair g2 c.to u v := b2.extBut _ _ D.TOi1 (b1.extBut _ _ D.TOz hO)
  refine wpAny_bind (wpAny_seqItems o2 rfl (wpAny_bind (wpAny_updateSeq_pair o2 fun g3 o3 b3 => ?_)))
  replace o3 : IsPair g3 c.to x v := o3
  refine wpAny_bind (wpAny_letGo (wpAny_pure (wpAny_bind (wpAny_bind (wpAny_onRaise ?_)))))
  show wpAny _ _ (Builtin.SmallTypes.nextOf (.ref c.j) >>= _) _ _ _
  refine wpAny_bind (wpAny_nextOf_list_item (s := { s with heap := g3 }) (((hj.extBut b1.extBut D.i2z).extBut b2.extBut D.i12.symm).extBut b3.extBut D.TOi2.symm) (((hB.extBut b1.extBut D.l2z).extBut b2.extBut D.l2i1).extBut b3.extBut D.l2TO) hy fun g4 j4 b4 => wpAny_pure ?_)
  have o4 : IsPair g4 c.to x v := b4.extBut _ _ D.TOi2 o3
  refine wpAny_bind (wpAny_seqItems o4 rfl (wpAny_bind (wpAny_updateSeq_pair o4 fun g5 o5 b5 => ?_)))
  replace o5 : IsPair g5 c.to x y := o5
  refine wpAny_bind (wpAny_letGo (wpAny_pure (wpAny_pure ?_)))
  refine wpAny_bind (wpAny_seqItems o5 rfl (wpAny_bind (wpAny_newTuple ?_)))
  have sz : g5.objs.size = s.heap.objs.size := by rw [b5.1, b4.1, b3.1, b2.1, b1.1]
  have z5 : IsZip g5 c.z c.ti c.to .ellipsis := b5.extBut _ _ D.TOz.symm (b4.extBut _ _ D.i2z.symm (b3.extBut _ _ D.TOz.symm (b2.extBut _ _ D.i1z.symm z1)))
  have k5 : c.Kept s.heap g5 := fun p o p1 p2 p3 p4 q => b5.extBut _ _ p2 (b4.extBut _ _ p4 (b3.extBut _ _ p2 (b2.extBut _ _ p3 (b1.extBut _ _ p1 q))))
  have i5 : g5.IsTupleIter c.i c.a (k + 1) := ((i2.extBut b3.extBut D.TOi1.symm).extBut b4.extBut D.i12).extBut b5.extBut D.TOi1.symm
  have j5 : g5.IsListIter c.j c.b (k + 1) := j4.extBut b5.extBut D.TOi2.symm
  have lz : c.z < g5.objs.size := Heap.lt_size z5
  show wpAny _ _ (Builtin.SmallTypes.ownedTupleHandOut (.ref c.z) (.ref g5.objs.size) >>= _) _ _ _
  refine wpAny_bind ?_
  unfold Builtin.SmallTypes.ownedTupleHandOut
  have z6 : IsZip (g5.push { cls := .type "tuple", data := .seq #[x, y] }) c.z c.ti c.to .ellipsis := Heap.get?_push_of_some _ z5
  refine wpAny_bind (wpAny_setField_rec z6 (by simp) fun g7 z7 b7 => ?_)
  replace z7 : IsZip g7 c.z c.ti c.to (rawInt g5.objs.size) := z7
  refine wpAny_setField_rec z7 (by simp) fun g8 z8 b8 => ?_
  replace z8 : IsZip g8 c.z c.ti c.to (rawInt g5.objs.size) := z8
  have up : ∀ p o, p ≠ c.z → g5.get? p = some o → g8.get? p = some o := fun p o p1 q => b8.extBut _ _ p1 (b7.extBut _ _ p1 (Heap.get?_push_of_some _ q))
  have t8 : IsPair g8 g5.objs.size x y := b8.extBut _ _ (Nat.ne_of_gt lz) (b7.extBut _ _ (Nat.ne_of_gt lz) (Heap.get?_push_size _ rfl))
  have k8 : c.Kept s.heap g8 := fun p o p1 p2 p3 p4 q => up p o p1 (k5 p o p1 p2 p3 p4 q)
  rw [sz] at z8 t8
  refine wpAny_pure ⟨_, rfl, ?_⟩
  show Q (.ref g5.objs.size) _
  rw [sz]
  refine hQ g8 ⟨i5.at fun o q => up _ o D.i1z q, j5.at fun o q => up _ o D.i2z q, hA.at fun o q => k8 _ o D.l1z D.l1TO D.l1i1 D.l1i2 q, hB.at fun o q => k8 _ o D.l2z D.l2TO D.l2i1 D.l2i2 q, k8 _ _ D.TIz D.TITO D.TIi1 D.TIi2 hI⟩ z8 t8 k8
theorem Zc.turn2 (D : c.D) {T : Addr} {f : Bool} {x y : Value} {Q : Value → Shared → Prop} (hn : c.Out s.heap T f) (ha : c.At s.heap k) (hx : c.xs[k]? = some x) (hy : c.ys[k]? = some y)
    (hQ : ∀ h', c.At h' (k + 1) → IsZipHeld h' c.z c.ti c.to T true → IsPair h' s.heap.objs.size x y → (∀ p o, p ≠ c.z → p ≠ c.i → p ≠ c.j → s.heap.get? p = some o → h'.get? p = some o) → Q (.ref s.heap.objs.size) { s with heap := h' }) :
    wpAny (model prog w) A (Builtin.«zip.__next__» ⟨[.ref c.z], []⟩) (fun r s' => ∃ v, r = .done (.ret v) ∧ Q v s') E s := by
  obtain ⟨hz, oT, hT⟩ := hn
  obtain ⟨hi, hj, hA, hB, hI⟩ := ha
  show wpAny _ _ (field (.ref c.z) 2 >>= _) _ _ _
  refine wpAny_bind (wpAny_field hz rfl (x := .bool false) rfl ?_)
  show wpAny _ _ (field (.ref c.z) 3 >>= _) _ _ _
  refine wpAny_bind (wpAny_field hz rfl (x := .ref c.ti) rfl (wpAny_bind (wpAny_seqItems hI rfl ?_)))
  show wpAny _ _ (Builtin.SmallTypes.ownedTupleIsFree (.ref c.z) >>= _) _ _ _
  refine wpAny_bind (wpAny_tupleHeld_zip hz hT fun g1 z1 b1 => ?_)
  simp only [Bool.false_eq_true, if_false]
  refine wpAny_bind ?_
  rw [← Array.forIn_toList]
  simp only [List.forIn_cons, List.forIn_nil]
  refine wpAny_bind (wpAny_bind (wpAny_holding ?_))
  show wpAny _ _ (Builtin.SmallTypes.nextOf (.ref c.i) >>= _) _ _ _
  refine wpAny_bind (RZ.nextOf_tuple_item (s := { s with heap := g1 }) (hi.extBut b1.extBut D.i1z) (hA.extBut b1.extBut D.l1z) hx fun g2 i2 b2 => wpAny_pure ?_)
  refine wpAny_pure (wpAny_bind (wpAny_bind (wpAny_holding ?_)))
  show wpAny _ _ (Builtin.SmallTypes.nextOf (.ref c.j) >>= _) _ _ _
  refine wpAny_bind (wpAny_nextOf_list_item (s := { s with heap := g2 }) ((hj.extBut b1.extBut D.i2z).extBut b2.extBut D.i12.symm) ((hB.extBut b1.extBut D.l2z).extBut b2.extBut D.l2i1) hy fun g3 j3 b3 => wpAny_pure ?_)
  refine wpAny_pure (wpAny_pure ?_)
  show wpAny _ _ (newTuple [x, y] >>= _) _ _ _
  refine wpAny_bind (wpAny_newTuple ?_)
  have sz : g3.objs.size = s.heap.objs.size := by rw [b3.1, b2.1, b1.1]
  have z3 : IsZipHeld g3 c.z c.ti c.to T true := b3.extBut _ _ D.i2z.symm (b2.extBut _ _ D.i1z.symm z1)
  have k3 : ∀ p o, p ≠ c.z → p ≠ c.i → p ≠ c.j → s.heap.get? p = some o → g3.get? p = some o := fun p o p1 p2 p3 q => b3.extBut _ _ p3 (b2.extBut _ _ p2 (b1.extBut _ _ p1 q))
  refine wpAny_pure ⟨_, rfl, ?_⟩
  show Q (.ref g3.objs.size) _
  have t4 : IsPair (g3.push { cls := .type "tuple", data := .seq #[x, y] }) g3.objs.size x y := Heap.get?_push_size _ rfl
  rw [sz] at t4 ⊢
  refine hQ _ ⟨(i2.extBut b3.extBut D.i12).at fun o q => Heap.get?_push_of_some _ q, j3.at fun o q => Heap.get?_push_of_some _ q, hA.at fun o q => Heap.get?_push_of_some _ (k3 _ o D.l1z D.l1i1 D.l1i2 q), hB.at fun o q => Heap.get?_push_of_some _ (k3 _ o D.l2z D.l2i1 D.l2i2 q), Heap.get?_push_of_some _ (k3 _ _ D.TIz D.TIi1 D.TIi2 hI)⟩
    (Heap.get?_push_of_some _ z3) t4 fun p o p1 p2 p3 q => Heap.get?_push_of_some _ (k3 p o p1 p2 p3 q)
/-- its end: only the case that the tuple is at its end is needed, there are as many items in both -/
theorem Zc.end2 (hh : A.handled = none) (D : c.D) {T : Addr} {f : Bool} {Q : Fin → Shared → Prop} (hn : c.Out s.heap T f) (ha : c.At s.heap k) (hx : c.xs[k]? = none)
    (hE : ∀ h' e, (∀ p o, p ≠ c.z → p ≠ c.i → p ≠ c.j → s.heap.get? p = some o → h'.get? p = some o) → (∃ o, h'.get? e = some o ∧ o.cls = .type "StopIteration") → E (.ref e) { s with heap := h' }) :
    wpAny (model prog w) A (Builtin.«zip.__next__» ⟨[.ref c.z], []⟩) Q E s := by
  obtain ⟨hz, oT, hT⟩ := hn
  obtain ⟨hi, hj, hA, hB, hI⟩ := ha
  show wpAny _ _ (field (.ref c.z) 2 >>= _) _ _ _
  refine wpAny_bind (wpAny_field hz rfl (x := .bool false) rfl ?_)
  show wpAny _ _ (field (.ref c.z) 3 >>= _) _ _ _
  refine wpAny_bind (wpAny_field hz rfl (x := .ref c.ti) rfl (wpAny_bind (wpAny_seqItems hI rfl ?_)))
  show wpAny _ _ (Builtin.SmallTypes.ownedTupleIsFree (.ref c.z) >>= _) _ _ _
  refine wpAny_bind (wpAny_tupleHeld_zip hz hT fun g1 z1 b1 => ?_)
  simp only [Bool.false_eq_true, if_false]
  refine wpAny_bind ?_
  rw [← Array.forIn_toList]
  simp only [List.forIn_cons, List.forIn_nil]
  refine wpAny_bind (wpAny_bind (wpAny_holding ?_))
  show wpAny _ _ (Builtin.SmallTypes.nextOf (.ref c.i) >>= _) _ _ _
  refine wpAny_bind (RZ.nextOf_tuple_end (s := { s with heap := g1 }) hh (hi.extBut b1.extBut D.i1z) (hA.extBut b1.extBut D.l1z) hx fun g2 e b2 he => ?_)
  exact hE g2 e (fun p o p1 p2 _ q => b2 _ _ p2 (b1.extBut _ _ p1 q)) he
theorem Zc.pyNext_of {Q : Option Value → Shared → Prop} (hz : s.TypeIs (.ref c.z) "zip") (h : wpAny (model prog w) A.in1 (Builtin.«zip.__next__» ⟨[.ref c.z], []⟩) (fun r s' => ∃ v, r = .done (.ret v) ∧ Q (some v) s') (fun e s' => (∃ o, s'.heap.get? (match e with | .ref a => a | _ => 0) = some o ∧ o.cls = .type "StopIteration" ∧ ∃ a, e = .ref a) ∧ Q none s') s) :
    wpAny (model prog w) A (pyNext (.ref c.z)) Q E s := by
  unfold pyNext
  refine wpAny_bind (wpAny_attempt (wpAny_callSpecial?_slot (name := Str.ofString "__next__") hz F.slot_zip_next (wpAny_call_entry F.slot_zip_next hz F.entry_zip_next (wpAny_mono h (fun r s' ⟨v, e, q⟩ => ⟨v, e, wpAny_pure q⟩) fun e s' ⟨⟨o, ho, hc, a, ea⟩, q⟩ => ?_) (F.args_zip_next_1 _))))
  subst ea
  refine wpAny_bind (wpAny_isInstance (T := "StopIteration") (b := true) ⟨o, ho, hc⟩ isSubtype_stop ?_)
  exact wpAny_pure q
theorem Zc.arg (c : Zc) (D : c.D) (h0 : 0 < c.xs.size) (hs : c.ys.size = c.xs.size) : PairArg prog w "zip" c.z [c.z, c.ti, c.to, c.i, c.j, c.a, c.b] [c.z, c.to, c.i, c.j] c.xs.size (fun k u v => c.xs[k]? = some u ∧ c.ys[k]? = some v) (fun h => c.At h 0 ∧ c.New h) where
  type := fun s ok => ⟨_, ok.2.1, rfl⟩
  notDict := by decide
  keep := fun h h' ok hk => by
    obtain ⟨h1, hz, u, v, hO⟩ := ok
    exact ⟨Zc.keep h1 fun p o q _ => hk p o q, hk _ _ hz, u, v, hk _ _ hO⟩
  there := fun h ok p hp => by
    obtain ⟨⟨⟨o1, e1, _⟩, ⟨o2, e2, _⟩, ⟨o3, e3, _⟩, ⟨o4, e4, _⟩, e5⟩, e6, u, v, e7⟩ := ok
    simp only [List.mem_cons, List.not_mem_nil, or_false] at hp
    rcases hp with e | e | e | e | e | e | e <;> rw [e] <;> first | exact ⟨_, e6⟩ | exact ⟨_, e5⟩ | exact ⟨_, e7⟩ | exact ⟨_, e1⟩ | exact ⟨_, e2⟩ | exact ⟨_, e3⟩ | exact ⟨_, e4⟩
  sub := fun p hp => by
    simp only [List.mem_cons, List.not_mem_nil, or_false] at hp ⊢
    rcases hp with e | e | e | e <;> simp [e]
  noKeys := fun A s Q E hA ok h => getAttrOr_miss_zip ok.2.1 rfl rfl rfl zip_no_keys (by decide +kernel) hA h
  iter := fun A s d Q E hA ok hd hdf h => by
    obtain ⟨h1, hz, u, v, hO⟩ := ok
    simp only [List.mem_cons, List.not_mem_nil, or_false, not_or] at hdf
    obtain ⟨dz, dt, dO, di, dj, da, db⟩ := hdf
    refine wpAny_pyIter_zip hz (h c.z [c.z, c.to, c.i, c.j] (fun k h => c.At h k ∧ ((k = 0 ∧ c.New h) ∨ ∃ T f, c.Out h T f ∧ T ≠ c.z ∧ T ≠ c.i ∧ T ≠ c.j ∧ T ≠ d)) s.heap s.toks ?_ ⟨h1, .inl ⟨rfl, hz, u, v, hO⟩⟩ (fun _ _ q => q) fun b hb => .inl hb)
    have wrz : ∀ {p : Addr}, p ∉ [c.z, c.to, c.i, c.j] → p ≠ c.z ∧ p ≠ c.to ∧ p ≠ c.i ∧ p ≠ c.j := fun {p} hp => by
      simp only [List.mem_cons, List.not_mem_nil, or_false, not_or] at hp
      exact hp
    exact {
      off := fun hm => by
        simp only [List.mem_cons, List.not_mem_nil, or_false] at hm
        rcases hm with e | e | e | e <;> first | exact dz e | exact dO e | exact di e | exact dj e
      frame := fun k g g' st hk => by
        obtain ⟨a1, a2⟩ := st
        refine ⟨Zc.keep a1 fun p o q hp => hk p o (fun e => by subst e; rcases hp with e | e | e | e | e <;> first | exact di e | exact dj e | exact da e | exact db e | exact dt e) q, ?_⟩
        rcases a2 with ⟨e, z1, u, v, o1⟩ | ⟨T, f, ⟨z1, o, t1⟩, r1, r2, r3, r4⟩
        · exact .inl ⟨e, hk _ _ (Ne.symm dz) z1, u, v, hk _ _ (Ne.symm dO) o1⟩
        · exact .inr ⟨T, f, ⟨hk _ _ (Ne.symm dz) z1, o, hk _ _ r4 t1⟩, r1, r2, r3, r4⟩
      item := fun k s₁ Q₁ E₁ hi st hds hQ => by
        obtain ⟨a1, a2⟩ := st
        have ex := Array.getElem?_eq_getElem hi
        have ey := Array.getElem?_eq_getElem (show k < c.ys.size by rw [hs]; exact hi)
        have n1 : s₁.heap.objs.size ≠ c.i := by obtain ⟨⟨o, e, _⟩, _⟩ := a1; exact Nat.ne_of_gt (Heap.lt_size e)
        have n2 : s₁.heap.objs.size ≠ c.j := by obtain ⟨_, ⟨o, e, _⟩, _⟩ := a1; exact Nat.ne_of_gt (Heap.lt_size e)
        rcases a2 with ⟨e, hn⟩ | ⟨T, f, hn, r1, r2, r3, r4⟩
        · refine Zc.pyNext_of ⟨_, hn.1, rfl⟩ (Zc.turn1 D hn a1 ex ey fun h' b1 b2 b3 b4 => ?_)
          exact hQ s₁.heap.objs.size _ _ h' s₁.toks ⟨ex, ey⟩ (.inl ⟨_, b3, rfl, _, rfl⟩) ⟨b1, .inr ⟨s₁.heap.objs.size, false, ⟨b2, _, b3⟩, Nat.ne_of_gt (Heap.lt_size hn.1), n1, n2, Nat.ne_of_gt hds⟩⟩
            fun p o hp q => let z := wrz hp; b4 p o z.1 z.2.1 z.2.2.1 z.2.2.2 q
        · refine Zc.pyNext_of ⟨_, hn.1, rfl⟩ (Zc.turn2 D hn a1 ex ey fun h' b1 b2 b3 b4 => ?_)
          obtain ⟨o, ho⟩ := hn.2
          exact hQ s₁.heap.objs.size _ _ h' s₁.toks ⟨ex, ey⟩ (.inl ⟨_, b3, rfl, _, rfl⟩) ⟨b1, .inr ⟨T, true, ⟨b2, o, b4 _ _ r1 r2 r3 ho⟩, r1, r2, r3, r4⟩⟩
            fun p o hp q => let z := wrz hp; b4 p o z.1 z.2.2.1 z.2.2.2 q
      done := fun s₁ Q₁ E₁ st hQ => by
        obtain ⟨a1, a2⟩ := st
        rcases a2 with ⟨e, _⟩ | ⟨T, f, hn, r1, r2, r3, r4⟩
        · omega
        · refine Zc.pyNext_of ⟨_, hn.1, rfl⟩ (Zc.end2 (A := A.in1) (show A.in1.handled = none from hA) D hn a1 (Array.getElem?_eq_none (Nat.le_refl _)) fun h' e b1 ⟨o, b2, b3⟩ => ⟨⟨o, b2, b3, e, rfl⟩, ?_⟩)
          exact hQ h' s₁.toks fun p o hp q => let z := wrz hp; b1 p o z.1 z.2.2.1 z.2.2.2 q }
/-! zip(..) itself -/
abbrev zm1 (h : Heap) (a : Addr) : Heap := h.push { cls := .type "tuple_iterator", data := .fields #[.ref a, .int 0 0] }
abbrev zm2 (h : Heap) (a b : Addr) : Heap := (zm1 h a).push { cls := .type "list_iterator", data := .fields #[.ref b, .int 0 0] }
abbrev zm3 (h : Heap) (a b : Addr) : Heap := (zm2 h a b).push { cls := .type "tuple", data := .seq #[.ref h.objs.size, .ref (zm1 h a).objs.size] }
abbrev zm4 (h : Heap) (a b : Addr) : Heap := (zm3 h a b).push { cls := .type "tuple", data := .seq #[.none, .none] }
abbrev zm5 (h : Heap) (a b : Addr) : Heap := (zm4 h a b).push { cls := .type "zip", data := .fields #[.none, .bool false, .bool false, .ref (zm2 h a b).objs.size, .ref (zm3 h a b).objs.size] }
theorem meets_zm (a b : Addr) (xs ys : Array Value) : Meets (Builtin.«zip.__new__» ⟨[.type "zip", .ref a, .ref b], []⟩) (fun _ R s => s.heap.IsTuple a xs ∧ s.heap.IsList b ys ∧ R (.ok (.ret (.ref (zm4 s.heap a b).objs.size))) { s with heap := zm5 s.heap a b }) :=
  .of_wp fun prog w A R s h => by
    obtain ⟨hp, g, d, tk, os⟩ := s
    obtain ⟨h1, h2, h⟩ := h
    have hsub := sub_zip
    have t1 : Heap.IsTuple (Shared.heap ⟨hp, g, d, tk, os⟩) a xs := h1
    have t2 : Heap.IsList (Shared.heap ⟨hp.push { cls := .type "tuple_iterator", data := .fields #[.ref a, .int 0 0] }, g, d, tk, os⟩) b ys := h2.at fun o e => Heap.get?_push_of_some _ e
    wp_walk using wpAny_pyIter_tuple t1, wpAny_pyIter_list t2
    exact ⟨_, rfl, h⟩
theorem call_zm {a b : Addr} {xs ys : Array Value} {Q : Value → Shared → Prop} (h1 : s.heap.IsTuple a xs) (h2 : s.heap.IsList b ys)
    (h : ∀ (c : Zc) (h' : Heap), c.D → c.xs = xs → c.ys = ys → c.At h' 0 → c.New h' → (∀ p o, s.heap.get? p = some o → h'.get? p = some o) → s.heap.get? c.z = none ∧ s.heap.get? c.to = none ∧ s.heap.get? c.i = none ∧ s.heap.get? c.j = none → s.heap.objs.size ≤ h'.objs.size → Q (.ref c.z) { s with heap := h' }) :
    wpAny (model prog w) A (call (.type "zip") [.ref a, .ref b]) Q E s := by
  refine callType_new F.called_zip (by decide) (F.typeCall_zip_2 _ _) (F.newCall_zip_2 _ _) (fun obj => F.args_object_init_3 obj _ _) F.entry_zip_new (meets_zm a b xs ys) ⟨h1, h2, ?_⟩
  have z1 : (zm1 s.heap a).objs.size = s.heap.objs.size + 1 := Heap.size_push ..
  have z2 : (zm2 s.heap a b).objs.size = s.heap.objs.size + 2 := by rw [Heap.size_push, z1]
  have z3 : (zm3 s.heap a b).objs.size = s.heap.objs.size + 3 := by rw [Heap.size_push, z2]
  have z4 : (zm4 s.heap a b).objs.size = s.heap.objs.size + 4 := by rw [Heap.size_push, z3]
  have up : ∀ p o, s.heap.get? p = some o → (zm5 s.heap a b).get? p = some o := fun p o x => Heap.get?_push_of_some _ (Heap.get?_push_of_some _ (Heap.get?_push_of_some _ (Heap.get?_push_of_some _ (Heap.get?_push_of_some _ x))))
  have g5 : (zm5 s.heap a b).get? (zm4 s.heap a b).objs.size = some _ := Heap.get?_push_size _ rfl
  have g4 : (zm5 s.heap a b).get? (zm3 s.heap a b).objs.size = some _ := Heap.get?_push_of_some _ (Heap.get?_push_size _ rfl)
  have g3 : (zm5 s.heap a b).get? (zm2 s.heap a b).objs.size = some _ := Heap.get?_push_of_some _ (Heap.get?_push_of_some _ (Heap.get?_push_size _ rfl))
  have g2 : (zm5 s.heap a b).get? (zm1 s.heap a).objs.size = some _ := Heap.get?_push_of_some _ (Heap.get?_push_of_some _ (Heap.get?_push_of_some _ (Heap.get?_push_size _ rfl)))
  have g1 : (zm5 s.heap a b).get? s.heap.objs.size = some _ := Heap.get?_push_of_some _ (Heap.get?_push_of_some _ (Heap.get?_push_of_some _ (Heap.get?_push_of_some _ (Heap.get?_push_size _ rfl))))
  have la : a < s.heap.objs.size := by obtain ⟨o, e, _⟩ := h1; exact Heap.lt_size e
  have lb : b < s.heap.objs.size := by obtain ⟨o, e, _⟩ := h2; exact Heap.lt_size e
  show _ ∧ _
  rw [z2, z3, z4] at g5
  rw [z1, z2] at g3
  rw [z3] at g4
  rw [z1] at g2
  rw [z4]
  refine ⟨⟨_, g5, rfl⟩, h ⟨s.heap.objs.size + 4, s.heap.objs.size + 2, s.heap.objs.size + 3, s.heap.objs.size, s.heap.objs.size + 1, a, b, xs, ys⟩ _ ?_ rfl rfl ⟨⟨_, g1, rfl, rfl⟩, ⟨_, g2, rfl, rfl⟩, h1.at fun o q => up _ o q, h2.at fun o q => up _ o q, g3⟩ ⟨g5, _, _, g4⟩ up ?_ (by rw [Heap.size_push, z4]; omega)⟩
  · have ne : ∀ i j : Nat, i ≠ j → s.heap.objs.size + i ≠ s.heap.objs.size + j := fun i j h => by omega
    have na : ∀ i : Nat, a ≠ s.heap.objs.size + i := fun i => Nat.ne_of_lt (Nat.lt_of_lt_of_le la (Nat.le_add_right _ _))
    have nb : ∀ i : Nat, b ≠ s.heap.objs.size + i := fun i => Nat.ne_of_lt (Nat.lt_of_lt_of_le lb (Nat.le_add_right _ _))
    exact ⟨ne 2 4 (by decide), ne 3 4 (by decide), ne 0 4 (by decide), ne 1 4 (by decide), ne 2 3 (by decide), ne 2 0 (by decide), ne 2 1 (by decide), ne 3 0 (by decide), ne 3 1 (by decide), ne 0 1 (by decide), na 4, na 3, na 0, na 1, nb 4, nb 3, nb 0, nb 1⟩
  · exact ⟨Heap.get?_none_of_le (Nat.le_add_right _ _), Heap.get?_none_of_le (Nat.le_add_right _ _), Heap.get?_none_of_le (Nat.le_refl _), Heap.get?_none_of_le (Nat.le_add_right _ _)⟩
end
end Sq
/-! Sq, part Y: dicts of cells. -/
namespace Sq
open PySem PySem.Spec PyProof.Rows L2
theorem atKey_app {α : Type} [DecidableEq α] {xs : List (α × Addr × Value)} {k : α} (h : k ∉ xs.map (·.1)) : atKey xs k = none := by
  unfold atKey
  rw [List.find?_eq_none.mpr fun x hx => by
    simp only [decide_eq_true_eq]
    exact fun e => h (List.mem_map.mpr ⟨x, hx, e⟩)]
  rfl
theorem storedAll_nodup {α : Type} [DecidableEq α] : ∀ (ps xs : List (α × Addr × Value)), ((xs ++ ps).map (·.1)).Nodup → storedAllH xs ps = xs ++ ps
  | [], xs, _ => by rw [List.append_nil] <;> rfl
  | p :: ps, xs, h => by
    show storedAllH (storedH xs p.1 p.2.1 p.2.2) ps = _
    have hp : p.1 ∉ xs.map (·.1) := fun hm => by
      rw [List.map_append, List.map_cons] at h
      exact (List.nodup_append.mp h).2.2 _ hm _ List.mem_cons_self rfl
    rw [storedH_new (atKey_app hp), storedAll_nodup ps _ (by rw [List.append_assoc]; exact h), List.append_assoc]
    rfl
/-- dict(zip(a, b)), a a tuple of tuples of ints and texts that differ, b a list of as many -/
def tDZ (K : PySem.W.Frag) (ta tb : TE) : TE := fun σ H Q => ta σ H fun x H1 => tb σ H1 fun y H2 => ∃ (a b : Addr) (ks : List (Addr × List Key)) (vs : List V), x = .ref a ∧ y = .ref b ∧ SqT K H2 a (ks.map fun p => .ref p.1) ∧ SqL K H2 b vs ∧ 0 < ks.length ∧ ks.length ≤ 100 ∧
  vs.length = ks.length ∧ (∀ p ∈ ks, H2 p.1 = some (.tup (p.2.map kV))) ∧ (ks.map (·.2)).Nodup ∧ ∀ d, H2 d = none → Q (.ref d) (upd H2 d (.dT ((ks.map (·.2)).zip vs)))
theorem vals_get : ∀ {vs : List V} {us : List Value} {i : Nat} {u : Value}, Vals vs us → us[i]? = some u → ∃ v, vs[i]? = some v ∧ RelV v u
  | _, _, _, _, .nil, e => by simp at e
  | _, _, 0, _, .cons h t, e => by simp at e; subst e; exact ⟨_, rfl, h⟩
  | _, _, i + 1, _, .cons h t, e => by simp at e; obtain ⟨v, h1, h2⟩ := vals_get t e; exact ⟨v, by simpa using h1, h2⟩
theorem pe_dictzip {X : Cx} {k : Nat} {A : Around} {ea eb : Expr} {ta tb : TE} {p p2 pos pos2 : Pos} (hr : Room k A) (hA : X.A = A) (hc : X.calm = true) (hg : Gl X "dict") (hm : X.mg "dict" = none) (hg2 : Gl X "zip") (hm2 : X.mg "zip" = none) (ha : PE X ea ta) (hb : PE X eb tb)
    (n1 : starEach [ea, eb] X.env = (false, eval ea X.env) :: starEach [eb] X.env := by rfl) (n2 : starEach [eb] X.env = (false, eval eb X.env) :: starEach [] X.env := by rfl) : PE X (.Call (.Name "dict" p) [.Call (.Name "zip" p2) [ea, eb] [] pos2] [] pos) (tDZ X.K ta tb) := by
  refine ⟨fun pins s σ H Q I h => ?_⟩
  refine Call_ (ld_blt I hg hm PyProof.Rows.boot_dict ?_)
  refine PyProof.Rows.callWith_type1 (PyProof.Rows.args_cons ?_ rfl) rfl rfl
  refine Call_ (ld_blt I hg2 hm2 PyProof.Rows.boot_zip ?_)
  refine PyProof.Rows.callWith_type1 (PyProof.Rows.args_cons (thn (ha.run pins s σ H _ I h) fun v s1 ⟨x, H1, I1, r1, q1⟩ => ?_) n1) n1 (by rw [n2] <;> rfl)
  refine PyProof.Rows.args_cons (thn (hb.run pins s1 σ H1 _ I1 q1) fun u s2 ⟨y, H2, I2, r2, q2⟩ => PyProof.Rows.args_nil ?_) n2
  obtain ⟨a, b, ks, vs, ex, ey, hT, hL, h0, h100, hl, hk, hnd, q⟩ := q2
  subst ex ey
  obtain rfl : v = Value.ref a := r1
  obtain rfl : u = Value.ref b := r2
  obtain ⟨ia, ra, pa, za⟩ := I2.tuple hT
  obtain ⟨ib, rb, pb, zb⟩ := I2.list hL
  have la := ra.length
  have lb := rb.length
  rw [List.length_map] at la
  refine call_zm pa pb.isList fun c h1 D ex ey hAt hNew hk1 hold hle => ?_
  refine PyProof.Rows.args_nil ?_
  have hz : c.xs.size = ks.length := by rw [ex, List.size_toArray, la]
  have hy : c.ys.size = c.xs.size := by rw [hz, ey, List.size_toArray, ← lb, hl]
  -- the pairs
  have hd : X.A.handled = none := I2.ok.hd hc
  let ps : List (List Key × Addr × Value) := (ks.zip ib).map fun z => (z.1.2, z.1.1, z.2)
  have hlp : (ks.zip ib).length = ks.length := by rw [List.length_zip, ← lb, hl, Nat.min_self]
  have hps : ps.length = c.xs.size := by show ((ks.zip ib).map _).length = _; rw [List.length_map, hlp, hz]
  have hkeys : ps.map (·.1) = ks.map (·.2) := by
    show ((ks.zip ib).map _).map _ = _
    rw [List.map_map]
    show (ks.zip ib).map (fun z => z.1.2) = _
    rw [show (fun z : (Addr × List Key) × Value => z.1.2) = (fun p : Addr × List Key => p.2) ∘ Prod.fst from rfl, ← List.map_map, List.map_fst_zip (by rw [← lb, hl] <;> exact Nat.le_refl _)]
  have hmem : ∀ x ∈ ps, H2 x.2.1 = some (.tup (x.1.map kV)) := fun x hx => by
    obtain ⟨z, hz, rfl⟩ := List.mem_map.mp hx
    exact hk z.1 (List.of_mem_zip (a := z.1) (b := z.2) hz).1
  have hsize : h1.objs.size = h1.objs.size := rfl
  refine call_dict_pairsH (knd := tupleKind (mixKind X.prog X.w)) (ps := ps) (s := { s2 with heap := h1 }) (c.arg D (by rw [hz]; exact h0) hy) hd (show X.A.in1.in1.units < cLine by
    have := hr.units
    have e : X.A.in1.in1.units ≤ A.units + 2 := by rw [hA] <;> exact Nat.le_refl _
    omega) ⟨hAt, hNew⟩ ⟨hps, fun i key val hrel => ?_⟩ (fun h' hkeep x hx => ?_) (by rw [hz]; exact Nat.le_trans h100 (by decide)) fun h' tk hD hkeep => ?_
  · obtain ⟨e1, e2⟩ := hrel
    rw [ex] at e1
    rw [ey] at e2
    have e1' : ia[i]? = some key := by simpa using e1
    have e2' : ib[i]? = some val := by simpa using e2
    obtain ⟨w, hw, rw'⟩ := vals_get ra e1'
    rw [List.getElem?_map] at hw
    cases hq : ks[i]? with
    | none => rw [hq] at hw; cases hw
    | some kp =>
      rw [hq] at hw
      obtain rfl : V.ref kp.1 = w := Option.some.inj hw
      refine ⟨kp.2, kp.1, ?_, rw'⟩
      show ((ks.zip ib).map _)[i]? = _
      rw [List.getElem?_map, (List.getElem?_zip_eq_some (z := (kp, val))).mpr ⟨hq, e2'⟩] <;> rfl
  · obtain ⟨o, arr, n, e1, e2, e3, e4⟩ := key_of I2.hok (hmem x hx)
    have e5 := hk1 _ _ e1
    refine ⟨o, arr, n, hkeep _ _ (Nat.ne_of_lt (Heap.lt_size e5)) (fun hm => ?_) e5, e2, e3, e4⟩
    simp only [List.mem_cons, List.not_mem_nil, or_false] at hm
    rcases hm with e | e | e | e
    · rw [e, hold.1] at e1; cases e1
    · rw [e, hold.2.1] at e1; cases e1
    · rw [e, hold.2.2.1] at e1; cases e1
    · rw [e, hold.2.2.2] at e1; cases e1
  · rw [storedAll_nodup ps [] (by rw [List.nil_append, hkeys]; exact hnd), List.nil_append] at hD
    have keep : ∀ p o, s2.heap.get? p = some o → h'.get? p = some o := fun p o e => hkeep p o (fun hm => by
      simp only [List.mem_cons, List.not_mem_nil, or_false] at hm
      rcases hm with z | z | z | z
      · rw [z, hold.1] at e; cases e
      · rw [z, hold.2.1] at e; cases e
      · rw [z, hold.2.2.1] at e; cases e
      · rw [z, hold.2.2.2] at e; cases e) (hk1 p o e)
    have hn : H2 h1.objs.size = none := I2.hok.fresh hle
    refine ⟨.ref h1.objs.size, upd H2 h1.objs.size (.dT ((ks.map (·.2)).zip vs)), I2.laid (t' := tk) keep hle ?_, rfl, q _ hn⟩
    obtain ⟨o, es, ep, d1, d2, d3, d4, d5, d6⟩ := hD
    refine ⟨by rw [List.length_zip, List.length_map, hl, Nat.min_self]; exact Nat.le_trans h100 (by decide), ?_, ps, ?_, o, es, ep, d1, d2, d3, d4, d6⟩
    · exact beq_eq_false_iff_ne.mpr (Nat.ne_of_gt (Nat.lt_of_lt_of_le I2.big hle))
    · have go : ∀ (ks : List (Addr × List Key)) (vs : List V) (us : List Value), vs.length = ks.length → Vals vs us → (∀ p ∈ ks, H2 p.1 = some (.tup (p.2.map kV))) → KT (upd H2 h1.objs.size (.dT ((ks.map (·.2)).zip vs))) ((ks.map (·.2)).zip vs) ((ks.zip us).map fun z => (z.1.2, z.1.1, z.2)) → True := fun _ _ _ _ _ _ _ => trivial
      have go2 : ∀ (H3 : Hp) (ks : List (Addr × List Key)) (vs : List V) (us : List Value), vs.length = ks.length → Vals vs us → (∀ p ∈ ks, H3 p.1 = some (.tup (p.2.map kV))) → KT H3 ((ks.map (·.2)).zip vs) ((ks.zip us).map fun z => (z.1.2, z.1.1, z.2)) := fun H3 ks => by
        induction ks with
        | nil => intro vs us _ _ _; exact .nil
        | cons kp ks ih =>
          intro vs us hl hv hk
          match vs, us, hl, hv with
          | v :: vs, u :: us, hl, .cons h t => exact .cons ⟨rfl, hk kp List.mem_cons_self, h⟩ (ih vs us (by simpa using hl) t fun p hp => hk p (List.mem_cons_of_mem _ hp))
      refine go2 _ ks vs ib hl rb fun p hp => ?_
      rw [upd_ne (ne_of_none (hk p hp) hn)]
      exact hk p hp
end Sq
/-! Sq, part X: a dict by a comprehension, its keys tuples that stay (those of a written tuple, too). -/
namespace Sq
open PySem PySem.Spec PyProof.Rows L2
/-- such a dict at D: keys, where they stand, what they lead to -/
abbrev Ent := List (List Key × Addr × Value)
def MvO (P : Program) (w : World) (D : Addr) (xs : Ent) : HO := .ext fun h => ∃ o es ep, h.get? D = some o ∧ o.ExactDict ∧ o.data = .dict es ep ∧ es.toList = xs.map (entryOfKey (tupleKind (mixKind P w)))
def KeysAt (K : PySem.W.Frag) (H : Hp) (xs : Ent) : Prop := ∀ x ∈ xs, SqT K H x.2.1 (x.1.map kV)
theorem mvO_ok {P : Program} {w : World} {H : Hp} {h : Heap} {D : Addr} {xs : Ent} (e : ∃ o es ep, h.get? D = some o ∧ o.ExactDict ∧ o.data = .dict es ep ∧ es.toList = xs.map (entryOfKey (tupleKind (mixKind P w)))) : ObjOk P w H h D (MvO P w D xs) :=
  ⟨e, let ⟨o, _, _, ho, _⟩ := e; ⟨o, ho⟩, fun _ _ ⟨o, es, ep, ho, r⟩ k => ⟨o, es, ep, k _ ho, r⟩⟩
section
variable {X : Cx} {pins : List (Addr × Obj)} {σ : L2.St} {H : Hp} {s : Shared}
theorem key_at {k : List Key} {a : Addr} (I : Inv X pins σ H s) (h : SqT X.K H a (k.map kV)) : (tupleKind (mixKind X.prog X.w)).is s.heap k a := by
  obtain ⟨its, r, ⟨o, h1, h2, n, h3⟩, _⟩ := I.tuple h
  exact ⟨o, its.toArray, n, h1, h2, h3, by simpa using items_are r⟩
theorem mv_dict {D : Addr} {xs : Ent} (I : Inv X pins σ H s) (h : H D = some (MvO X.prog X.w D xs)) (hk : KeysAt X.K H xs) (nd : (xs.map (·.1)).Nodup) : s.heap.DictOfH (tupleKind (mixKind X.prog X.w)) D xs := by
  obtain ⟨⟨o, es, ep, h1, h2, h3, h4⟩, _⟩ := I.hok D _ h
  exact ⟨o, es, ep, h1, h2, h3, h4, fun x hx => key_at I (hk x hx), nd⟩
/-- a key is stored -/
theorem mv_set {E : Value → Shared → Prop} {D ka b : Addr} {xs : Ent} {k : List Key} {u r : Value} {Q : Unit → Shared → Prop} {kk : Nat} {A : Around} (hr : Room kk A) (hA : X.A = A) (I : Inv X pins σ H s) (hD : H D = some (MvO X.prog X.w D xs)) (hz : xs.length ≤ 100) (hk : KeysAt X.K H xs) (nd : (xs.map (·.1)).Nodup)
    (hka : SqT X.K H ka (k.map kV)) (hnew : k ∉ xs.map (·.1)) (ru : u = .ref ka) (rr : r = .ref b) (h : ∀ s', Inv X pins σ (upd H D (MvO X.prog X.w D (xs ++ [(k, ka, .ref b)]))) s' → Q () s') : wpAny (model X.prog X.w) X.A (dictSet D u r) Q E s := by
  subst ru rr
  refine wpAny_dictSet_heap (hsz := Nat.le_trans hz (by decide)) (show X.A.units < cLine by rw [hA]; have := hr.units; omega) (key_at I hka) (mv_dict I hD hk nd) fun h' dd hs => h _ ?_
  rw [storedH_new (atKey_app hnew)] at dd
  obtain ⟨o, es, ep, h1, h2, h3, h4, _, _⟩ := dd
  exact d_write I (by rw [hD]; exact True.intro) hs ⟨o, h1⟩ (mvO_ok ⟨o, es, ep, h1, h2, h3, h4⟩)
/-- a key is looked up -/
theorem mv_get {E : Value → Shared → Prop} {D ka : Addr} {xs : Ent} {k : List Key} {Q : Value → Shared → Prop} {kk : Nat} {A : Around} (hr : Room kk A) (I : Inv X pins σ H s) (hD : H D = some (MvO X.prog X.w D xs)) (hk : KeysAt X.K H xs) (nd : (xs.map (·.1)).Nodup)
    (hka : SqT X.K H ka (k.map kV)) {p : Addr × Value} (hp : atKey xs k = some p) (h : ∀ s', Inv X pins σ H s' → Q p.2 s') : wpAny (model X.prog X.w) A (getItem (.ref D) (.ref ka)) Q E s :=
  wpAny_getItem_heap (show A.in1.units < cLine by have := hr.units; have e : A.in1.units ≤ A.units + 1 := Nat.le_refl _; omega) (key_at I hka) (mv_dict I hD hk nd) hp (h _ (I.tok _))
/-- {k: v for target in iter} -/
def tDcT (K : PySem.W.Frag) (P : Program) (w : World) (wi : TI) (g : TG) (tk tv : TE) (vs : List Nat) : TE := fun σ H Q => wi σ H fun J H1 => ∀ D, H1 D = none → ∃ W : Nat → Nat → Hp → Prop, (∃ m, W 0 m (upd H1 D (MvO P w D []))) ∧ ∀ i m H, W i m H →
  (J.stop i H ∧ Q (.ref D) H) ∨ (J.go i H ∧ ∃ Nx : Hp → Prop, (∀ H', Nx H' → ∃ m', m' < m ∧ W (i + 1) m' H') ∧ ∀ x H', J.yld i H x H' → g x (L2.wipe σ vs) H' fun σ2 H2 => L2.wipe σ2 vs = L2.wipe σ vs ∧
    tk σ2 H2 fun y H4 => tv σ2 H4 fun z H5 => ∃ (xs : Ent) (ka b : Addr) (k : List Key), y = .ref ka ∧ z = .ref b ∧ SqT K H5 ka (k.map kV) ∧ H5 D = some (MvO P w D xs) ∧ xs.length ≤ 100 ∧ KeysAt K H5 xs ∧ (xs.map (·.1)).Nodup ∧ k ∉ xs.map (·.1) ∧
      Nx (upd H5 D (MvO P w D (xs ++ [(k, ka, .ref b)]))))
theorem dct_core {Q : VK} {kx vx tg iter : Expr} {scope : Scope} {own : List (Str × Nat)} {pos pos' : Pos} {wi : TI} {g : TG} {tk tv : TE} {use : Option (Value → Sem Unit)} {Qf : Value → Shared → Prop} {kk : Nat} {A : Around} (hr : Room kk A) (hA : X.A = A)
    (hc : X.calm = true) (hN : X.N.Nodup) (I : Inv X pins σ H s) (hi : PI X tg iter wi) (ok : BlkOk X.N X.env.scope scope own)
    (hg : ∀ (s : Shared) (H : Hp) (C : Addr) (cl : List (Str × Addr)) (fp : List Addr), PG (X.blk s H scope (compEnvC scope cl C X.env) fp) tg g)
    (hk : ∀ (s : Shared) (H : Hp) (C : Addr) (cl : List (Str × Addr)) (fp : List Addr), PE (X.blk s H scope (compEnvC scope cl C X.env) fp) kx tk)
    (he : ∀ (s : Shared) (H : Hp) (C : Addr) (cl : List (Str × Addr)) (fp : List Addr), PE (X.blk s H scope (compEnvC scope cl C X.env) fp) vx tv) (hs : ∀ x, foldedSetIterable iter X.env x = pure x)
    (h : tDcT X.K X.prog X.w wi g tk tv (own.map (·.2)) σ H Q)
    (hRR : ∀ D C s' m H', Inv X pins σ H' s' → Q (.ref D) H' → s'.heap.Ns C m → FpOk X pins H' C → compPost (model X.prog X.w) X.A X.xe use Qf (.ref D) C (.ok .next) s') :
    wpAny (model X.prog X.w) X.A (comprehension (.DictComp kx vx [⟨tg, iter, [], 0⟩] scope pos) scope X.env pos' newDict false (eval iter X.env) use) Qf X.xe s := by
  have fr : ∀ y ∈ scope.names, y.2 = .free → ∃ c, X.env.cells.lookup y.1 = some c := fun y hy e => (ok.free y hy e).elim (fun k => I.ok.has _ (.inl k)) fun k => I.ok.has _ (.inr k)
  refine wpAny_comprehension_free (use := use) rfl hs (closure_ok fr) ok.kind (fun y hy e => by rw [ok.uniq y hy, e]) (thn (hi.run pins s σ H _ I h) fun xv s1 hx => thn hx fun itv s2 h2 => ?_)
  obtain ⟨it, fp, tn, J, H2, rfl, I2, T, st2, f2, q⟩ := h2
  refine wpAny_newObj_type (newEnv_comp ?_)
  generalize eD : s2.heap.objs.size = D
  have nD : H2 D = none := I2.hok.fresh (Nat.le_of_eq eD)
  obtain ⟨W, ⟨m0, w0⟩, turn⟩ := q D nD
  generalize e3 : ({ s2 with heap := s2.heap.push { cls := .type "dict", data := .dict #[] } } : Shared) = s3
  have I3 : Inv X pins σ (upd H2 D (MvO X.prog X.w D [])) s3 := by
    rw [← e3]
    refine I2.laid (t' := s2.toks) (fun b o e => Heap.get?_push_of_some _ e) (Nat.le_of_eq eD) (mvO_ok ?_)
    rw [← eD]
    have dd := Heap.DictOfH.new (knd := tupleKind (mixKind X.prog X.w)) s2.heap
    obtain ⟨o, es, ep, h1, h2, h3, h4, _, _⟩ := dd
    exact ⟨o, es, ep, h1, h2, h3, h4⟩
  have g3 : s3.heap = s2.heap.push { cls := .type "dict", data := .dict #[] } := by rw [← e3]
  have f3 : ∀ b ∈ fp, FpOk X pins (upd H2 D (MvO X.prog X.w D [])) b ∧ b < s3.heap.objs.size := fun b hb => by
    obtain ⟨o, e, _⟩ := T.obj _ _ st2 b hb
    have lt := Heap.lt_size e
    refine ⟨⟨?_, (f2 b hb).2⟩, by rw [g3, Heap.size_push]; exact Nat.lt_succ_of_lt lt⟩
    rw [upd_ne (by rw [← eD]; exact Nat.ne_of_lt lt)]
    exact (f2 b hb).1
  have st3 : tn 0 s3.heap := T.keep _ _ _ st2 fun b _ o e => by rw [g3]; exact Heap.get?_push_of_some _ e
  have I4 := block_start I3 ok hN f3
  generalize eC : cellsFrom (s3.heap.objs.size + 1) scope.names (cloFrom X.env.cells scope.names []) = cc at I4
  have pg := hg s3 (upd H2 D (MvO X.prog X.w D [])) s3.heap.objs.size cc fp
  have pk := hk s3 (upd H2 D (MvO X.prog X.w D [])) s3.heap.objs.size cc fp
  have pe := he s3 (upd H2 D (MvO X.prog X.w D [])) s3.heap.objs.size cc fp
  show codeAny _ _ (.compStart (.DictComp kx vx [⟨tg, iter, [], 0⟩] scope pos) 0 (.ref it) (.ref D) (compEnvC scope cc s3.heap.objs.size X.env)) (compPost (model X.prog X.w) X.A X.xe use Qf (.ref D) s3.heap.objs.size) { s3 with heap := pushCells (s3.heap.push { cls := .type "dict", data := .dict #[] }) scope.names }
  have nfp : ∀ b ∈ fp, (upd H2 D (MvO X.prog X.w D [])) b = none := fun b hb => (f3 b hb).1.1
  generalize ece : compEnvC scope cc s3.heap.objs.size X.env = ce at I4 pg pk pe ⊢
  have cL : ce.locals = s3.heap.objs.size := by subst ece; rfl
  generalize eH3 : upd H2 D (MvO X.prog X.w D []) = H3 at I3 I4 pg pk pe w0 nfp f3
  generalize es4 : ({ s3 with heap := pushCells (s3.heap.push { cls := .type "dict", data := .dict #[] }) scope.names } : Shared) = s4 at I4 ⊢
  have st4 : tn 0 s4.heap := T.keep _ _ _ st3 fun b _ o e => by rw [← es4]; exact pushCells_keeps _ _ _ _ (Heap.get?_push_of_some _ e)
  have stat : ∀ {σ' : L2.St} {H' : Hp} {s' : Shared}, Inv (X.blk s3 H3 scope ce fp) [] σ' H' s' → (∀ b ∈ fp, H' b = none) → ∀ b ∈ fp, FpOk (X.blk s3 H3 scope ce fp) [] H' b := fun {σ' H' s'} I' hn b hb =>
    ⟨hn b hb, (I'.ok.exf b hb).1, I'.ok.exfs b hb, .inl hb, fun x c e => (I'.ok.exf b hb).2 x c e, fun p hp => nomatch (show p ∈ ([] : List (Addr × Obj)) ++ [] from hp)⟩
  have loop : codeAny (model X.prog X.w) X.A (.compLoop (.DictComp kx vx [⟨tg, iter, [], 0⟩] scope pos) 0 (.ref it) (.ref D) ce) (compPost (model X.prog X.w) X.A X.xe use Qf (.ref D) s3.heap.objs.size) s4 := by
    refine compLoop_anyD (fun n s' => ∃ i H', Inv (X.blk s3 H3 scope ce fp) [] (L2.wipe σ (own.map (·.2))) H' s' ∧ tn i s'.heap ∧ (∀ b ∈ fp, H' b = none) ∧ W i n H') ?_ m0 ⟨0, H3, I4, st4, nfp, w0⟩
    rintro n s5 ⟨i, H5, I5, st5, n5, w5⟩
    rcases turn i n H5 w5 with ⟨stop, qq⟩ | ⟨go, Nx, hNx, step⟩
    · refine thnF (T.done (X.blk s3 H3 scope ce fp) rfl rfl rfl hc i [] s5 _ H5 (fun _ _ => False) I5 (stat I5 n5) st5 stop) fun r s6 ⟨er, I6⟩ => ?_
      subst er
      have I7 : Inv X pins σ H5 s6 := I3.call' (ch := fp) I6.os I6.base I6.hok I6.bare fun b hb => ⟨(f3 b hb).1.2.2.2.1, (f3 b hb).1.2.1, (f3 b hb).1.2.2.2.2.1, (f3 b hb).1.2.2.2.2.2⟩
      have nC : H5 s3.heap.objs.size = none := by
        have z : H5 ce.locals = none := I6.free
        rwa [cL] at z
      obtain ⟨m, hn, _⟩ := I6.loc
      have hn' : s6.heap.Ns ce.locals m := hn
      rw [cL] at hn'
      exact hRR D s3.heap.objs.size s6 m H5 I7 qq hn' (I3.fpOk (Nat.le_refl _) nC)
    · refine thnF (T.item (X.blk s3 H3 scope ce fp) rfl rfl rfl hc i [] s5 _ H5 (fun _ _ => False) I5 (stat I5 n5) st5 go) fun r s6 ⟨u, er, h6⟩ => ?_
      subst er
      refine thnF h6 fun _ s7 ⟨x, H7, I7, r7, y7, st7, n7⟩ => ?_
      refine thnF (pg.run _ s7 _ H7 x u _ (I7.pinned (stat I7 n7) (T.obj _ _ st7)) r7 (step x H7 y7)) fun _ s8 ⟨σ8, H8, I8, hw8, q8⟩ => ?_
      refine wpAny_pure ?_
      simp only [if_true]
      refine thnF (pk.run _ s8 σ8 H8 _ I8 q8) fun z s10 ⟨yk, H10, I10, r10, q10⟩ => ?_
      refine thnF (pe.run _ s10 σ8 H10 _ I10 q10) fun z2 s11 ⟨yv, H11, I11, r11, xs, ka, b, k, ek, ev, hka, hD11, hz11, hks, nd, hnew, nx⟩ => ?_
      subst ek ev
      refine mv_set (X := X.blk s3 H3 scope ce fp) hr hA I11 hD11 hz11 hks nd hka hnew r10 r11 fun s12 I12 => ?_
      obtain ⟨m', hm, w'⟩ := hNx _ nx
      have pin' : ∀ c ∈ fp, ∀ o, s7.heap.get? c = some o → s12.heap.get? c = some o ∧ (upd H11 D (MvO X.prog X.w D (xs ++ [(k, ka, .ref b)]))) c = none := fun c hcm o e => by
        have z := I12.pin (c, o) (List.mem_append_right _ (List.mem_append_right _ (mem_pinsAt hcm e)))
        exact ⟨z.1, z.2.1⟩
      refine ⟨m', hm, i + 1, _, (I12.unpinned (pins := [])).weak (by rw [← hw8, L2.wipe_length]) (fun j v e => ?_), T.keep _ _ _ st7 fun c hcm o e => (pin' c hcm o e).1, fun c hcm => ?_, w'⟩
      · rw [← hw8] at e
        exact (wipe_some e).1
      · obtain ⟨o, e, _⟩ := T.obj _ _ st7 c hcm
        exact (pin' c hcm o e).2
  exact codeAny_compStart_dict loop (T.self X.A 0 _ _ _ st4 loop)
theorem pe_dcT {kx vx tg iter : Expr} {scope : Scope} {own : List (Str × Nat)} {pos : Pos} {wi : TI} {g : TG} {tk tv : TE} {kk : Nat} {A : Around} (hr : Room kk A) (hA : X.A = A) (hc : X.calm = true) (hN : X.N.Nodup) (hi : PI X tg iter wi) (ok : BlkOk X.N X.env.scope scope own)
    (hg : ∀ (s : Shared) (H : Hp) (C : Addr) (cl : List (Str × Addr)) (fp : List Addr), PG (X.blk s H scope (compEnvC scope cl C X.env) fp) tg g)
    (hk : ∀ (s : Shared) (H : Hp) (C : Addr) (cl : List (Str × Addr)) (fp : List Addr), PE (X.blk s H scope (compEnvC scope cl C X.env) fp) kx tk)
    (he : ∀ (s : Shared) (H : Hp) (C : Addr) (cl : List (Str × Addr)) (fp : List Addr), PE (X.blk s H scope (compEnvC scope cl C X.env) fp) vx tv) (hs : ∀ x, foldedSetIterable iter X.env x = pure x) :
    PE X (.DictComp kx vx [⟨tg, iter, [], 0⟩] scope pos) (tDcT X.K X.prog X.w wi g tk tv (own.map (·.2))) := by
  refine ⟨fun pins s σ H Q I h => ?_⟩
  rw [arm_eval_DictComp]
  refine dct_core hr hA hc hN I hi ok hg hk he hs h fun D C s' m H' I' q hn f => ⟨m, hn, fun h'' sb => ?_⟩
  obtain ⟨f0, f1, f2, f3, f4, f5⟩ := f
  exact ⟨.ref D, H', I'.turned (t' := s'.toks) (fun b o hb e => (sb.2 b hb).trans e) f0 f1 f3 f4 f5, rfl, q⟩
theorem swd_true {kx vx : Expr} {gs : List Comprehension} {scope : Scope} {pos py : Pos} {y : Str} {l : Nat} {env : Env} (hk : env.scope.kind = .function) (hy : env.scope.names.lookup y = some .local) (hl : (py.line == pos.line) = true)
    (ha : (scope.names.any fun (n, k) => n == y && (k == .local || k == .cell)) = false) : swapsWith (.DictComp kx vx gs scope pos) (some (.Name y py)) l env = pure true := by
  have ky : env.kindOf y = some .local := hy
  have hb : env.blockKind = .function := by unfold Env.blockKind; rw [hk] <;> rfl
  unfold swapsWith
  simp only [hb, ky, ha, Expr.pos, hl]
  rfl
/-- name = {..} on one line, the name a local -/
theorem ps_setDcT {i : Nat} {y : Str} {py : Pos} {kx vx tg iter : Expr} {scope : Scope} {own : List (Str × Nat)} {pos spos : Pos} {wi : TI} {g : TG} {tk tv : TE} {kk : Nat} {A : Around} (hr : Room kk A) (hA : X.A = A) (hc : X.calm = true) (hN : X.N.Nodup) (hy : X.N[i]? = some y) (hyl : X.env.scope.names.lookup y = some .local)
    (hsw : swapsWith (.DictComp kx vx [⟨tg, iter, [], 0⟩] scope pos) (some (.Name y py)) spos.line X.env = pure true) (hi : PI X tg iter wi) (ok : BlkOk X.N X.env.scope scope own)
    (hg : ∀ (s : Shared) (H : Hp) (C : Addr) (cl : List (Str × Addr)) (fp : List Addr), PG (X.blk s H scope (compEnvC scope cl C X.env) fp) tg g)
    (hk : ∀ (s : Shared) (H : Hp) (C : Addr) (cl : List (Str × Addr)) (fp : List Addr), PE (X.blk s H scope (compEnvC scope cl C X.env) fp) kx tk)
    (he : ∀ (s : Shared) (H : Hp) (C : Addr) (cl : List (Str × Addr)) (fp : List Addr), PE (X.blk s H scope (compEnvC scope cl C X.env) fp) vx tv) (hs : ∀ x, foldedSetIterable iter X.env x = pure x) :
    PS X (.Assign [.Name y py] (.DictComp kx vx [⟨tg, iter, [], 0⟩] scope pos) spos) (tAsg (tDcT X.K X.prog X.w wi g tk tv (own.map (·.2))) (gName i)) := by
  refine ⟨fun pins s σ H D I h => ?_⟩
  rw [exec_Assign_Name_used _ _ _ _ hsw]
  refine wpAny_bind (wpAny_standAt (wpAny_bind ?_))
  show wpAny _ X.A (do let _ ← comprehension (.DictComp kx vx [⟨tg, iter, [], 0⟩] scope pos) scope X.env (firstIterPos [⟨tg, iter, [], 0⟩] pos) newDict false (eval iter X.env) (some (assign (.Name y py) X.env))) _ _ s
  have h' : tDcT X.K X.prog X.w wi g tk tv (own.map (·.2)) σ H (fun x H1 => gName i x σ H1 D.nx) := h
  refine wpAny_bind (thn (dct_core (Qf := fun _ s' => SP X pins D .next s') hr hA hc hN I hi ok hg hk he hs h' fun L C s' m H' I' q hn f => ?_) fun _ s' hq => wpAny_pure (wpAny_pure hq))
  show wpAny _ _ (assign (.Name y py) X.env (.ref L)) _ _ _
  refine wpAny_assign_Name (store_ok2 (v := V.ref L) I' hN hy (.inl hyl) rfl (fun s2 I2 ⟨a, sb, ha⟩ => ?_) (.inr hyl))
  obtain ⟨f0, f1, f2, f3, f4, f5⟩ := f
  have ne : C ≠ a := by
    rcases ha with z | z
    · rw [z]; exact f1
    · exact fun e => f4 y a z e.symm
  exact ⟨m, hn.sameBut sb ne, fun h3 sb3 => ⟨_, H', I2.turned (t' := s2.toks) (fun b o hb e => (sb3.2 b hb).trans e) f0 f1 f3 f4 f5, q⟩⟩
end
end Sq
/-! Sq, part W: the moves by kinds. -/
namespace Sq
open PySem PySem.Spec PyProof.Rows L2
def rKd (K : PySem.W.Frag) (k : Kd) : Rp := rT K [dI k.1, dI k.2.1, dI k.2.2]
def kdKey (k : Kd) : List Key := [.inl k.1, .inl k.2.1, .inl k.2.2]
theorem kdKey_inj {a b : Kd} (h : kdKey a = kdKey b) : a = b := by
  obtain ⟨a1, a2, a3⟩ := a
  obtain ⟨b1, b2, b3⟩ := b
  unfold kdKey at h
  simp only [List.cons.injEq, Sum.inl.injEq, and_true] at h
  rw [h.1, h.2.1, h.2.2]
theorem kd_at {K : PySem.W.Frag} {B : Hp} {v : V} {k : Kd} (h : (rKd K k).p B v) : ∃ a, v = .ref a ∧ SqT K B a ((kdKey k).map kV) := by
  obtain ⟨a, xs, e, ea, x, r, e1, hx, y, r', e2, hy, z, r2, e3, hz, hr⟩ := h
  obtain rfl : x = .int k.1 := hx
  obtain rfl : y = .int k.2.1 := hy
  obtain rfl : z = .int k.2.2 := hz
  obtain rfl : r2 = [] := hr
  subst e1 e2 e3
  exact ⟨a, e, ea⟩
theorem atKey_get {α : Type} [DecidableEq α] {k : α} {p : Addr × Value} : ∀ {xs : List (α × Addr × Value)} {j : Nat}, (xs.map (·.1)).Nodup → xs[j]? = some (k, p) → atKey xs k = some p
  | [], _, _, e => by simp at e
  | x :: xs, 0, _, e => by
    simp at e
    subst e
    unfold atKey
    rw [List.find?_cons_of_pos (by simp)] <;> rfl
  | x :: xs, j + 1, nd, e => by
    simp at e
    rw [List.map_cons, List.nodup_cons] at nd
    have ne : x.1 ≠ k := fun z => nd.1 (by rw [z]; exact List.mem_map.mpr ⟨_, List.mem_of_getElem? e, rfl⟩)
    have := atKey_get nd.2 e
    unfold atKey at this ⊢
    rw [List.find?_cons_of_neg (by simpa using ne)]
    exact this
/-- a dict from the kinds ks to what R says -/
def rMv (K : PySem.W.Frag) (P : Program) (w : World) (ks : List Kd) (R : Kd → Rp) : Rp := ⟨fun B v => ∃ (D : Addr) (xs : Ent), v = .ref D ∧ B D = some (MvO P w D xs) ∧ KeysAt K B xs ∧ (xs.map fun x : List Key × Addr × Value => x.1).Nodup ∧ ∀ k ∈ ks, ∃ ka b, atKey xs (kdKey k) = some (ka, .ref b) ∧ (R k).p B (.ref b),
  fun s ⟨D, xs, e, h, hk, nd, t⟩ => ⟨D, xs, e, s _ _ h, fun x hx => s.sqT (hk x hx), nd, fun k hm => let ⟨ka, b, h1, h2⟩ := t k hm; ⟨ka, b, h1, (R k).mono s h2⟩⟩⟩
/-- d[k] -/
def tMvG (K : PySem.W.Frag) (P : Program) (w : World) (td ty : TE) : TE := fun σ H Q => td σ H fun x H1 => ty σ H1 fun y H2 => ∃ (D : Addr) (xs : Ent) (ka : Addr) (k : List Key) (kb b : Addr), x = .ref D ∧ y = .ref ka ∧ H2 D = some (MvO P w D xs) ∧ KeysAt K H2 xs ∧ (xs.map fun x : List Key × Addr × Value => x.1).Nodup ∧
  SqT K H2 ka (k.map kV) ∧ atKey xs k = some (kb, .ref b) ∧ Q (.ref b) H2
theorem pe_mvget {X : Cx} {kk : Nat} {A : Around} {o i : Expr} {pos : Pos} {td ty : TE} (hr : Room kk A) (hA : X.A = A) (ho : PE X o td) (hi : PE X i ty) (hs : NoSl i) : PE X (.Subscript o i pos) (tMvG X.K X.prog X.w td ty) := by
  refine ⟨fun pins s σ H Q I h => ?_⟩
  refine subD_of PySem.F.slot_dict_getitem.lookup hs (thn (ho.run pins s σ H _ I h) fun u s1 ⟨x, H1, I1, rx, q1⟩ => thn (hi.run pins s1 σ H1 _ I1 q1) fun iv s2 ⟨y, H2, I2, ry, D, xs, ka, k, kb, b, ex, ey, hD, hk, nd, hka, hp, q⟩ => ?_)
  subst ex ey
  obtain rfl : u = Value.ref D := rx
  obtain rfl : iv = Value.ref ka := ry
  have dd := mv_dict I2 hD hk nd
  refine ⟨?_, mv_get (show Room kk X.A by rw [hA]; exact hr) I2 hD hk nd hka hp fun s3 I3 => ⟨.ref b, H2, I3, rfl, q⟩⟩
  obtain ⟨o, _, _, h1, h2, _⟩ := dd
  exact ⟨o, h1, h2.1⟩
section
variable {m : Mt} {Γ Δ : Gm} {td ty tk tv : TE} {K : PySem.W.Frag} {P : Program} {w : World} {wi : TI} {g : TG} {vs : List Nat} {ks : List Kd} {R : Kd → Rp}
theorem ev_mvget {k : Kd} (ha : EvG m td Γ (rMv K P w ks R)) (hb : EvG m ty Γ (rKd K k)) (hk : k ∈ ks) : EvG m (tMvG K P w td ty) Γ (R k) := fun σ B H hs hp Q q =>
  ha σ B H hs hp _ fun x B1 H1 s1 r1 => hb σ B1 H1 (hs.mono s1.sub) (hp.step s1) _ fun y B2 H2 s2 r2 => by
    obtain ⟨D, xs, e, h, hka, nd, t⟩ := (rMv K P w ks R).mono s2.sub r1
    obtain ⟨a, ea, hT⟩ := kd_at r2
    obtain ⟨kb, b, h1, h2⟩ := t k hk
    have hp2 := (hp.step s1).step s2
    exact ⟨D, xs, a, _, kb, b, e, ea, hp2.sub _ _ h, fun z hz => hp2.sub.sqT (hka z hz), nd, hp2.sub.sqT hT, h1, q _ _ _ (Step.trans hp s1 s2) h2⟩
/-- the entries that are laid -/
def Laid (K : PySem.W.Frag) (R : Kd → Rp) (ks : List Kd) (B : Hp) (n : Nat) (xs : Ent) : Prop := KeysAt K B xs ∧ xs.map (·.1) = (ks.take n).map kdKey ∧ ∀ (j : Nat) (k : Kd), j < n → ks[j]? = some k → ∃ ka b, xs[j]? = some (kdKey k, ka, .ref b) ∧ (R k).p B (.ref b)
theorem Laid.mono {B B' : Hp} {n : Nat} {xs : Ent} (s : Sub B B') (h : Laid K R ks B n xs) : Laid K R ks B' n xs := ⟨fun x hx => s.sqT (h.1 x hx), h.2.1, fun j k hj e => by
  obtain ⟨ka, b, h1, h2⟩ := h.2.2 j k hj e
  exact ⟨ka, b, h1, (R k).mono s h2⟩⟩
theorem ev_dcT (hnd : ks.Nodup) (hz : ks.length ≤ 100) (hR : ∀ k B v, (R k).p B v → ∃ b, v = .ref b) (hw : EvI m wi Γ (ks.map (rKd K)).length (fun i => (ks.map (rKd K))[i]?))
    (hb : ∀ k ∈ ks, ∃ Δ js, TgG m g (wipeG Γ vs) (rKd K k) Δ js ∧ (∀ j ∈ js, j ∈ vs) ∧ EvG m tk Δ (rKd K k) ∧ EvG m tv Δ (R k)) : EvG m (tDcT K P w wi g tk tv vs) Γ (rMv K P w ks R) := fun σ B H hs hp Q q => by
  refine hw σ B H hs hp _ fun J B1 H1 s1 src => ?_
  rw [List.length_map] at src
  intro D nD
  have hp1 := hp.step s1
  have ndm : ¬ m.dom D := fun z => (hp1.po D z).some nD
  have nB1 : B1 D = none := by
    cases e : B1 D with
    | none => rfl
    | some o => rw [hp1.sub D o e] at nD; cases nD
  have none_of : ∀ {B3 H3 B4 H4 : Hp} {o : HO}, Step m B3 H3 B4 H4 → H3 D = some o → B3 D = none → H4 D = some o ∧ B4 D = none := fun {B3 H3 B4 H4 o} t h3 b3 => ⟨t.keep D _ ndm h3, by
    cases e : B4 D with
    | none => rfl
    | some u =>
      rcases t.new D u e with z | z
      · rw [b3] at z; cases z
      · rw [h3] at z; cases z⟩
  have nodup_take : ∀ n, ((ks.take n).map kdKey).Nodup := fun n => by
    exact List.pairwise_map.mpr (List.Pairwise.imp (fun h e => h (kdKey_inj e)) (hnd.sublist (List.take_sublist n ks)))
  refine ⟨fun n c H => c = ks.length - n ∧ n ≤ ks.length ∧ ∃ B2 xs, Step m B1 H1 B2 H ∧ B2 D = none ∧ H D = some (MvO P w D xs) ∧ Laid K R ks B2 n xs, ⟨ks.length, rfl, Nat.zero_le _, B1, [], ?_, nB1, upd_same, ⟨fun x hx => absurd hx (List.not_mem_nil), rfl, fun j k hj => absurd hj (Nat.not_lt_zero _)⟩⟩, ?_⟩
  · exact (hp1.new nD).less (Sub.refl _) (hp1.new nD).sub
  rintro n c H2 ⟨rfl, hn, B2, xs, s2, nB2, hD, hL⟩
  have hp2 := hp1.step s2
  obtain ⟨go, stop⟩ := src B2 H2 s2.sub hp2
  by_cases hlt : n < ks.length
  · refine .inr ⟨(go n hlt).1, fun H' => ∃ B3 xs, Step m B1 H1 B3 H' ∧ B3 D = none ∧ H' D = some (MvO P w D xs) ∧ Laid K R ks B3 (n + 1) xs, fun H' h' => ⟨ks.length - (n + 1), by omega, rfl, hlt, h'⟩, fun x H3 y => ?_⟩
    obtain ⟨B3, R0, sy, eR, rx⟩ := (go n hlt).2 x H3 y
    have ek : ks[n]? = some ks[n] := List.getElem?_eq_getElem hlt
    have eR' : R0 = rKd K ks[n] := by
      have eR2 : (ks.map (rKd K))[n]? = some R0 := eR
      rw [List.getElem?_map, ek] at eR2
      exact (Option.some.inj eR2).symm
    subst eR'
    obtain ⟨Δ, js, h1, h2, h3, h4⟩ := hb ks[n] (List.getElem_mem hlt)
    obtain ⟨a1, a2⟩ := none_of sy hD nB2
    have a3 := Step.trans hp1 s2 sy
    refine h1 _ B3 H3 x (((hs.mono s1.sub).mono s2.sub).wipe vs |>.mono sy.sub) (hp1.step a3) rx _ fun σ4 hs4 w4 => ⟨by rw [w4 vs h2, wipe_self], ?_⟩
    refine h3 σ4 B3 H3 hs4 (hp1.step a3) _ fun y4 B4 H4 s4 r4 => ?_
    obtain ⟨b1, b2⟩ := none_of s4 a1 a2
    have b3 := Step.trans hp1 a3 s4
    refine h4 σ4 B4 H4 (hs4.mono s4.sub) (hp1.step b3) _ fun z5 B5 H5 s5 r5 => ?_
    obtain ⟨c1, c2⟩ := none_of s5 b1 b2
    have c3 := Step.trans hp1 b3 s5
    obtain ⟨ka, rfl, hka⟩ := kd_at r4
    obtain ⟨b, rfl⟩ := hR _ _ _ r5
    have hL5 := hL.mono ((sy.sub.trans s4.sub).trans s5.sub)
    have hp5 := hp1.step c3
    have hlen : xs.length = n := by
      have := congrArg List.length hL.2.1
      rw [List.length_map, List.length_map, List.length_take, Nat.min_eq_left hn] at this
      exact this
    have hka5 : SqT K B5 ka ((kdKey ks[n]).map kV) := s5.sub.sqT hka
    have hmapn : (xs ++ [(kdKey ks[n], ka, Value.ref b)]).map (·.1) = (ks.take (n + 1)).map kdKey := by
      rw [List.map_append, hL.2.1, List.take_add_one, ek, List.map_append] <;> rfl
    have hnew : kdKey ks[n] ∉ xs.map (·.1) := fun hm => by
      have nd2 := nodup_take (n + 1)
      rw [← hmapn, List.map_append] at nd2
      exact (List.nodup_append.mp nd2).2.2 _ hm _ (List.mem_singleton.mpr rfl) rfl
    refine ⟨xs, ka, b, kdKey ks[n], rfl, rfl, hp5.sub.sqT hka5, c1, by omega, fun z hz => hp5.sub.sqT (hL5.1 z hz), by rw [hL.2.1]; exact nodup_take n, hnew, B5, _, ⟨fun a o na e => ?_, fun a da => ?_, c3.sub, fun a o e => ?_, c3.new⟩, c2, upd_same, ⟨?_, hmapn, fun j k hj e => ?_⟩⟩
    · have ne : a ≠ D := fun z => by rw [z, nD] at e; cases e
      rw [upd_ne ne]
      exact c3.keep a o na e
    · have ne : a ≠ D := fun z => ndm (z ▸ da)
      rw [upd_ne ne]
      exact c3.po a da
    · have ne : a ≠ D := fun z => by rw [z, c2] at e; cases e
      rw [upd_ne ne]
      exact c3.sub' a o e
    · intro z hz
      rcases List.mem_append.mp hz with hz | hz
      · exact hL5.1 z hz
      · rw [List.mem_singleton.mp hz]; exact hka5
    · by_cases hjn : j < n
      · obtain ⟨ka', b', e1, e2⟩ := hL5.2.2 j k hjn e
        exact ⟨ka', b', by rw [List.getElem?_append_left (by omega)]; exact e1, e2⟩
      · have ej : j = n := by omega
        subst ej
        rw [ek] at e
        obtain rfl := Option.some.inj e
        exact ⟨ka, b, by rw [List.getElem?_append_right (by omega), hlen, Nat.sub_self] <;> rfl, r5⟩
  · have e : n = ks.length := by omega
    subst e
    have hp2' : Step m B1 H1 (upd B2 D (MvO P w D xs)) H2 := ⟨s2.keep, s2.po, fun a o e => by
      have ne : a ≠ D := fun z => by rw [z, nB1] at e; cases e
      rw [upd_ne ne]
      exact s2.sub a o e, fun a o e => by
      by_cases z : a = D
      · subst z; rw [upd_same] at e; rw [hD]; exact e
      · rw [upd_ne z] at e; exact s2.sub' a o e, fun a o e => by
      by_cases z : a = D
      · subst z; exact .inr nD
      · rw [upd_ne z] at e; exact s2.new a o e⟩
    have sb : Sub B2 (upd B2 D (MvO P w D xs)) := fun a o e => by
      have ne : a ≠ D := fun z => by rw [z, nB2] at e; cases e
      rw [upd_ne ne]
      exact e
    have hL2 := hL.mono sb
    refine .inl ⟨stop, q (.ref D) _ H2 (Step.trans hp s1 hp2') ⟨D, xs, rfl, upd_same, hL2.1, by rw [hL.2.1]; exact nodup_take _, fun k hk => ?_⟩⟩
    obtain ⟨j, hj⟩ := List.getElem?_of_mem hk
    have hjl : j < ks.length := (List.getElem?_eq_some_iff.mp hj).1
    obtain ⟨ka, b, e1, e2⟩ := hL2.2.2 j k hjl hj
    exact ⟨ka, b, atKey_get (by rw [hL.2.1]; exact nodup_take _) e1, e2⟩
end
end Sq
/-! Sq, part V: in by one's own __contains__; methods, classmethods; promises that know the place. -/
namespace Sq
open PySem PySem.Spec PyProof.Rows L2
/-- the class at C has a method of this name that promises sp -/
structure Own (P : Program) (w : World) (K : PySem.W.Frag) (mg : Str → Option Value) (base : Heap) (k : Nat) (C : Addr) (name : Str) (sp : Sp) : Prop where
  ex : ∃ f, Meth K C name f ∧ FnR P w K mg base CX0 k f sp
theorem Own.mono {P : Program} {w : World} {K : PySem.W.Frag} {mg : Str → Option Value} {base : Heap} {j k : Nat} {C : Addr} {name : Str} {sp : Sp} (c : Own P w K mg base j C name sp) (h : j ≤ k) : Own P w K mg base k C name sp := by
  obtain ⟨f, h1, h2⟩ := c.ex
  exact ⟨f, h1, h2.mono h⟩
def rOwnIn (C : Addr) (sp : Sp) : R2 := fun x y H Q => ∃ (a dx : Addr) (fs : List (Str × V)), y = .ref a ∧ H a = some (.ins C dx fs) ∧ sp [.ref a, x] H (fun v H' => ∃ b, v = .bl b ∧ Q (.bl b) H') E0
theorem op_own_in {X : Cx} {j k : Nat} {C : Addr} {sp : Sp} {A : Around} (c : Own X.prog X.w X.K X.mg X.base k C "__contains__" sp) (hr : Room j A) (hk : k ≤ j) (hA : X.A = A) : OpR X (compareOp .In) (rOwnIn C sp) := by
  intro pins s σ H x y v u Q I rx ry h
  obtain ⟨a, dx, fs, ey, ha, hsp⟩ := h
  obtain ⟨f, M, F⟩ := c.ex
  subst ey
  obtain rfl : u = Value.ref a := ry
  obtain ⟨mA, J, _⟩ := ins_get I.hok ha
  obtain ⟨od, J, _⟩ := J.look
  obtain ⟨m, hF⟩ := I.fr
  refine PySem.W.in_K hF I.ok.mod.kin J M.at_ M.fn ?_
  refine wpAny_call (codeAny_mono (run_fnR (us := [.ref a, v]) (vs := [.ref a, x]) F (show Room k X.A by rw [hA]; exact hr.mono hk) pass0 I (.cons rfl (.cons rx .nil)) hsp) fun r s' hq => ?_)
  cases r with
  | error e => exact hq
  | ok fl =>
    cases fl with
    | ret z =>
      obtain ⟨y', H', I', rz, b, eb, q⟩ := hq
      subst eb
      cases rz
      exact wpAny_truthy_bool ⟨.bl b, H', I', rfl, q⟩
    | next => exact hq
    | brk => exact hq
    | cont => exact hq
/-! ### promises whose condition knows the objects that may change -/
def spM {ι : Type} (args : Mt → ι → List Rp) (pre : Mt → ι → Prop) (res : Mt → ι → Rp) : Sp := fun vs H Q _ => ∃ (m : Mt) (B : Hp) (i : ι), Pre m B H ∧ pre m i ∧ AllR (args m i) B vs ∧ ∀ v B' H', Step m B H B' H' → (res m i).p B' v → Q v H'
section
variable {P : Program} {w : World} {K : PySem.W.Frag} {mg : Str → Option Value} {base : Heap} {m : Mt} {Γ Δ : Gm} {ta tb te : TE} {t : TA} {R S : Rp} {C : Addr} {name : Str}
variable {ι : Type} {args : Mt → ι → List Rp} {pre : Mt → ι → Prop} {res : Mt → ι → Rp}
theorem ev_callM (i : ι) (hp : pre m i) (ha : EvA m t Γ (args m i)) : EvG m (tCl (spM args pre res) t) Γ (res m i) := fun σ B H hs hB Q q =>
  ha σ B H hs hB _ fun vs B1 H1 s1 r1 => ⟨m, B1, i, hB.step s1, hp, r1, fun v B2 H2 s2 r2 => q v B2 H2 (Step.trans hB s1 s2) r2⟩
theorem fn_body {N ps : List Str} {k : Nat} {qual y : Str} {st : Stmt} {f : Addr} {fd : FuncData} (F : Fun K y qual st f fd) (S : FnScope N ps (defScope st)) (hl : ∀ m i, (args m i).length = ps.length) (hN : ps.length ≤ N.length)
    (hbody : ∀ (f : Addr) (cdv : Value) (A : Around) (outer : List Env) (s : Shared) (H : Hp) (E : XK), Room k (A.deeper (envOfC qual (defScope st) s.heap.objs.size f cdv)) →
      ∃ t, PSs (cxOf CX0 P w K mg base N qual (defScope st) f cdv A outer s H E).nox (defBody st) t ∧
        ∀ (m : Mt) (B0 H0 : Hp) (i : ι) (Q : VK) (hp : Pre m B0 H0), pre m i → Rt (I0 m B0 H0 hp) Q (res m i) → StG m t (gam N (args m i)) (I0 m B0 H0 hp) { nx := fun _ H' => Q .non H', rt := Q }) : FnOk P w K mg base CX0 (k + 1) f fd ps (spM args pre res) :=
  F.ok S (fun vs H Q E h => by
    obtain ⟨m, B, i, _, _, h, _⟩ := h
    rw [h.len]
    exact hl m i) (fun cdv A outer s H vs Q E hr h => by
    obtain ⟨t, h1, h2⟩ := hbody f cdv A outer s H E hr
    obtain ⟨m, B, i, hp, hpre, ha, q⟩ := h
    exact ⟨t, h1, h2 m B H i Q hp hpre (fun v B' H' p r => q v B' H' p.2 r) _ B H (sl_start ha (by rw [hl]; exact hN)) ⟨hp, hp.refl⟩⟩)
theorem cal_ofM {y x : Str} {st : Stmt} {N ps : List Str} {k : Nat} (D : Df K mg y x st) (S : FnScope N ps (defScope st))
    (hb : ∀ (kV doc pm : Value) (an : Option Addr) (cdv ct : Value) (us : List Value), us.length = ps.length → bindArgs (PySem.W.fnOf x x (defArgs st) (defBody st) (defScope st) .none kV doc pm an cdv ct) ⟨us, []⟩ = pure (ps.zip us))
    (hl : ∀ m i, (args m i).length = ps.length) (hN : ps.length ≤ N.length)
    (hbody : ∀ (f : Addr) (cdv : Value) (A : Around) (outer : List Env) (s : Shared) (H : Hp) (E : XK), Room k (A.deeper (envOfC x (defScope st) s.heap.objs.size f cdv)) →
      ∃ t, PSs (cxOf CX0 P w K mg base N x (defScope st) f cdv A outer s H E).nox (defBody st) t ∧
        ∀ (m : Mt) (B0 H0 : Hp) (i : ι) (Q : VK) (hp : Pre m B0 H0), pre m i → Rt (I0 m B0 H0 hp) Q (res m i) → StG m t (gam N (args m i)) (I0 m B0 H0 hp) { nx := fun _ H' => Q .non H', rt := Q }) : Cal P w K mg base (k + 1) y (spM args pre res) := by
  obtain ⟨f, fd, F, hm⟩ := D.ex
  exact ⟨f, fd, ps, fn_body F S hl hN hbody, hm, F.kp, F.binds hb⟩
/-- a method of the class at C has this text -/
structure DfO (K : PySem.W.Frag) (C : Addr) (name qual : Str) (st : Stmt) : Prop where
  ex : ∃ (f : Addr) (fd : FuncData), Meth K C name f ∧ Fun K name qual st f fd
theorem own_of {qual : Str} {st : Stmt} {N ps : List Str} {k : Nat} (D : DfO K C name qual st) (S : FnScope N ps (defScope st))
    (hb : ∀ (kV doc pm : Value) (an : Option Addr) (cdv ct : Value) (us : List Value), us.length = ps.length → bindArgs (PySem.W.fnOf name qual (defArgs st) (defBody st) (defScope st) .none kV doc pm an cdv ct) ⟨us, []⟩ = pure (ps.zip us))
    (hl : ∀ m i, (args m i).length = ps.length) (hN : ps.length ≤ N.length)
    (hbody : ∀ (f : Addr) (cdv : Value) (A : Around) (outer : List Env) (s : Shared) (H : Hp) (E : XK), Room k (A.deeper (envOfC qual (defScope st) s.heap.objs.size f cdv)) →
      ∃ t, PSs (cxOf CX0 P w K mg base N qual (defScope st) f cdv A outer s H E).nox (defBody st) t ∧
        ∀ (m : Mt) (B0 H0 : Hp) (i : ι) (Q : VK) (hp : Pre m B0 H0), pre m i → Rt (I0 m B0 H0 hp) Q (res m i) → StG m t (gam N (args m i)) (I0 m B0 H0 hp) { nx := fun _ H' => Q .non H', rt := Q }) : Own P w K mg base (k + 1) C name (spM args pre res) := by
  obtain ⟨f, fd, M, F⟩ := D.ex
  exact ⟨f, M, ((fn_body F S hl hN hbody).raw (F.binds hb) .nil).imp fun vs H Q E h => by rw [List.append_nil]; exact h⟩
/-- o.m(..) -/
theorem pe_own {X : Cx} {k j : Nat} {m : Str} {sp : Sp} {o e : Expr} {es : List Expr} {apos pos : Pos} {pl : Sem Bool} {A : Around} (c : Own X.prog X.w X.K X.mg X.base k C m sp) (cl : Cls X.K C) (hr : Room j A) (hk : k ≤ j) (hA : X.A = A) (he : PE X o ta) (ha : PA X (e :: es) t)
    (hst : starEach (e :: es) X.env = (false, eval e X.env) :: starEach es X.env) (hpl : (backTo pos (starEach es X.env)).any (·.1) = false)
    (ht : eval (.Call (.Attribute o m apos) (e :: es) [] pos) X.env = (do
      let ov ← eval o X.env
      standAt apos.atName
      let (f, first) ← holding [ov] (getMethod ov m pl)
      callWith pos f first (backTo pos (starEach (e :: es) X.env)) (backToKw pos (keywordEach [] X.env)))) : PE X (.Call (.Attribute o m apos) (e :: es) [] pos) (tMethR C m sp E0 ta t) := by
  obtain ⟨f, h1, h2⟩ := c.ex
  exact pe_methR he cl h1 h2 (show Room k X.A by rw [hA]; exact hr.mono hk) pass0 ha hst hpl ht
theorem ev_own {sp : Sp} {ns : List Str} {Rs : List Rp} (i : ι) (hm : name ∉ ns) (hp : pre m i) (ho : EvG m ta Γ (rO C ns Rs)) {Ra : List Rp} (ha : EvA m t Γ Ra) (hargs : args m i = rO C ns Rs :: Ra) : EvG m (tMethR C name (spM args pre res) E0 ta t) Γ (res m i) := fun σ B H hs hB Q q =>
  ho σ B H hs hB _ fun x B1 H1 s1 r1 => by
    obtain ⟨a, dx, vs, e, h, hv⟩ := id r1
    refine ⟨a, dx, _, e, (hB.step s1).sub _ _ h, ?_, ha σ B1 H1 (hs.mono s1.sub) (hB.step s1) _ fun us B2 H2 s2 r2 => ⟨m, B2, i, (hB.step s1).step s2, hp, ?_, fun v B3 H3 s3 r3 => q v B3 H3 (Step.trans hB (Step.trans hB s1 s2) s3) r3⟩⟩
    · refine List.lookup_eq_none_iff.mpr fun p hp => ?_
      have := zip_names p hp
      exact bne_iff_ne.mpr fun (z : name = p.1) => hm (by rw [z]; exact this)
    · rw [hargs]
      exact ⟨x, us, rfl, (rO C ns Rs).mono s2.sub r1, r2⟩
theorem ev_ownin {ns : List Str} {Rs : List Rp} {b : Bool} (i : ι) (hp : pre m i) (hx : EvG m ta Γ R) (ho : EvG m tb Γ (rO C ns Rs)) (hargs : args m i = [rO C ns Rs, R]) (hres : res m i = dB b) : EvG m (tOp (rOwnIn C (spM args pre res)) ta tb) Γ (dB b) :=
  ev_op hx ho fun B H x y hB hx hy Q q => by
    obtain ⟨a, dx, vs, e, h, hv⟩ := id hy
    subst e
    refine ⟨a, dx, _, rfl, hB.sub _ _ h, m, B, i, hB, hp, ?_, fun v B' H' s r => ?_⟩
    · rw [hargs]
      exact ⟨_, _, rfl, hy, x, [], rfl, hx, rfl⟩
    · rw [hres] at r
      exact ⟨b, r, q (.bl b) B' H' s rfl⟩
end
end Sq
/-! Sq, part U: enumerate over a tuple; index in a tuple of data; len(set(..)) of a few texts. -/
namespace Sq
open PySem PySem.Spec PyProof.Rows L2
section
variable {prog : Program} {w : World} {A : Around} {E : Value → Shared → Prop} {s : Shared} {e it l : Addr} {i : Nat} {items : Array Value} {x old : Value}
/-- one turn of such an enumerate -/
theorem enT_item {Q : Option Value → Shared → Prop} (he : IsEnum s.heap e it i old) (hit : s.heap.IsTupleIter it l i) (hl : s.heap.IsTuple l items) (hx : items[i]? = some x) (hne : e ≠ it)
    (hQ : ∀ h', IsEnumOut h' e it ((i : Int) + 1) x s.heap.objs.size → h'.IsTupleIter it l (i + 1) → h'.get? s.heap.objs.size = some { cls := .type "tuple", data := .seq #[.int i s.toks, x] } →
      (∀ b o, b ≠ e → b ≠ it → s.heap.get? b = some o → h'.get? b = some o) → Q (some (.ref s.heap.objs.size)) { s with heap := h', toks := s.toks + 1 }) : wpAny (model prog w) A (pyNext (.ref e)) Q E s := by
  have hT : s.TypeIs (.ref e) "enumerate" := ⟨_, he, rfl⟩
  unfold pyNext
  refine wpAny_bind (wpAny_attempt (wpAny_callSpecial?_slot (name := Str.ofString "__next__") hT F.slot_enumerate_next (wpAny_call_entry F.slot_enumerate_next hT F.entry_enumerate_next ?_ (F.args_enumerate_next_1 _))))
  obtain ⟨hp, g, d, tk, os⟩ := s
  show wpAny _ _ (field (.ref e) 2 >>= _) _ _ _
  refine wpAny_bind (wpAny_field he rfl (x := .ref it) rfl (wpAny_bind (RZ.nextOf_tuple_item hit hl hx fun g1 i1 b1 => ?_)))
  replace b1 : Heap.SameBut it hp g1 := b1
  have e1 : IsEnum g1 e it i old := (b1.2 e hne).trans he
  show wpAny _ _ (field (.ref e) 3 >>= _) _ _ ⟨g1, g, d, tk, os⟩
  refine wpAny_bind (wpAny_field e1 rfl (x := rawInt i) rfl ?_)
  show wpAny _ _ (field (.ref e) 4 >>= _) _ _ ⟨g1, g, d, tk, os⟩
  refine wpAny_bind (wpAny_field e1 rfl (x := .none) rfl ?_)
  show wpAny _ _ (mkInt i >>= _) _ _ ⟨g1, g, d, tk, os⟩
  refine wpAny_bind (wpAny_mkInt ?_)
  show wpAny _ _ (setField (.ref e) 3 (rawInt ((i : Int) + 1)) >>= _) _ _ ⟨g1, g, d, tk + 1, os⟩
  refine wpAny_bind (wpAny_setField_rec e1 (by simp) fun g2 e2 b2 => ?_)
  replace b2 : Heap.SameBut e g1 g2 := b2
  replace e2 : IsEnum g2 e it ((i : Int) + 1) old := e2
  show wpAny _ _ (setField (.ref e) 4 .none >>= _) _ _ ⟨g2, g, d, tk + 1, os⟩
  refine wpAny_bind (wpAny_setField_rec e2 (by simp) fun g3 e3 b3 => ?_)
  replace b3 : Heap.SameBut e g2 g3 := b3
  replace e3 : IsEnum g3 e it ((i : Int) + 1) old := e3
  show wpAny _ _ (newTuple [.int i tk, x] >>= _) _ _ ⟨g3, g, d, tk + 1, os⟩
  refine wpAny_bind (wpAny_newTuple ?_)
  have e4 : IsEnum (g3.push { cls := .type "tuple", data := .seq #[.int i tk, x] }) e it ((i : Int) + 1) old := Heap.get?_push_of_some _ e3
  generalize eg4 : g3.push { cls := .type "tuple", data := .seq #[.int i tk, x] } = g4 at e4
  have sz : g3.objs.size = hp.objs.size := by rw [b3.1, b2.1, b1.1]
  have le : e < hp.objs.size := Heap.lt_size he
  have t4 : g4.get? hp.objs.size = some { cls := .type "tuple", data := .seq #[.int i tk, x] } := by rw [← eg4, ← sz]; exact Heap.get?_push_size _ rfl
  have k4 : ∀ b o, b ≠ e → b ≠ it → hp.get? b = some o → g4.get? b = some o := fun b o n1 n2 q => by
    rw [← eg4]; exact Heap.get?_push_of_some _ (b3.extBut b o n1 (b2.extBut b o n1 (b1.extBut b o n2 q)))
  have i4 : g4.IsTupleIter it l (i + 1) := by
    rw [← eg4]
    exact ((i1.extBut b2.extBut (Ne.symm hne)).extBut b3.extBut (Ne.symm hne)).at fun o q => Heap.get?_push_of_some _ q
  show wpAny _ _ (Builtin.SmallTypes.ownedTupleIsFree (.ref e) >>= _) _ _ ⟨g4, g, d, tk + 1, os⟩
  rw [sz]
  refine wpAny_bind ?_
  unfold Builtin.SmallTypes.ownedTupleIsFree
  refine wpAny_bind (wpAny_field e4 rfl (x := .none) rfl (wpAny_pure ?_))
  simp only [if_true]
  refine wpAny_bind (wpAny_rule (wpAny_bind (wpAny_field e4 rfl (x := old) rfl (wpAny_bind (wpAny_setField_rec e4 (by simp) fun g5 e5 b5 => ?_)))))
  replace b5 : Heap.SameBut e g4 g5 := b5
  replace e5 : IsEnum g5 e it ((i : Int) + 1) x := e5
  show wpAny _ _ (Builtin.SmallTypes.ownedTupleHandOut (.ref e) (.ref hp.objs.size) >>= _) _ _ ⟨g5, g, d, tk + 1, os⟩
  refine wpAny_bind ?_
  unfold Builtin.SmallTypes.ownedTupleHandOut
  refine wpAny_bind (wpAny_setField_rec e5 (by simp) fun g6 e6 b6 => ?_)
  replace b6 : Heap.SameBut e g5 g6 := b6
  replace e6 : IsEnumOut g6 e it ((i : Int) + 1) x hp.objs.size := e6
  refine wpAny_setField_rec e6 (by simp) fun g7 e7 b7 => ?_
  replace b7 : Heap.SameBut e g6 g7 := b7
  replace e7 : IsEnumOut g7 e it ((i : Int) + 1) x hp.objs.size := e7
  refine wpAny_bind (wpAny_letGo (wpAny_pure ⟨_, rfl, wpAny_pure (hQ g7 e7 ?_ ?_ ?_)⟩))
  · exact ((i4.extBut b5.extBut (Ne.symm hne)).extBut b6.extBut (Ne.symm hne)).extBut b7.extBut (Ne.symm hne)
  · exact b7.extBut _ _ (Nat.ne_of_gt le) (b6.extBut _ _ (Nat.ne_of_gt le) (b5.extBut _ _ (Nat.ne_of_gt le) t4))
  · exact fun b o n1 n2 q => b7.extBut b o n1 (b6.extBut b o n1 (b5.extBut b o n1 (k4 b o n1 n2 q)))
theorem enT_end {Q : Option Value → Shared → Prop} (hh : A.handled = none) (he : IsEnum s.heap e it i old) (hit : s.heap.IsTupleIter it l i) (hl : s.heap.IsTuple l items) (hx : items[i]? = none)
    (hQ : ∀ h', Heap.ExtBut it s.heap h' → Q none { s with heap := h' }) : wpAny (model prog w) A (pyNext (.ref e)) Q E s := by
  have hT : s.TypeIs (.ref e) "enumerate" := ⟨_, he, rfl⟩
  unfold pyNext
  refine wpAny_bind (wpAny_attempt (wpAny_callSpecial?_slot (name := Str.ofString "__next__") hT F.slot_enumerate_next (wpAny_call_entry F.slot_enumerate_next hT F.entry_enumerate_next ?_ (F.args_enumerate_next_1 _))))
  show wpAny _ _ (field (.ref e) 2 >>= _) _ _ _
  refine wpAny_bind (wpAny_field he rfl (x := .ref it) rfl (wpAny_bind (RZ.nextOf_tuple_end hh hit hl hx fun h' x he' ⟨o, ho, hc⟩ => ?_)))
  exact wpAny_bind (wpAny_isInstance (T := "StopIteration") (b := true) ⟨o, ho, hc⟩ isSubtype_stop (wpAny_pure (hQ _ he')))
theorem meets_enT (l : Addr) (items : Array Value) (n : Nat) (dct : Option Addr) (sl : Array (Option Value)) :
    Meets (Builtin.«enumerate.__new__» ⟨[.type "enumerate", .ref l], []⟩) (fun _ R s => s.heap.get? l = some { cls := .type "tuple", dict := dct, data := .seq items n, slots := sl } ∧
      R (.ok (.ret (.ref (s.heap.push { cls := .type "tuple_iterator", data := .fields #[.ref l, .int 0 0] }).objs.size)))
        { s with heap := (s.heap.push { cls := .type "tuple_iterator", data := .fields #[.ref l, .int 0 0] }).push { cls := .type "enumerate", data := .fields #[.none, .bool false, .ref s.heap.objs.size, rawInt 0, .none, .none] } }) :=
  .of_wp fun prog w A R s h => by
    obtain ⟨hp, g, d, tk, os⟩ := s
    obtain ⟨hl, h⟩ := h
    have hsub := sub_enumerate
    have hL : Heap.IsTuple (Shared.heap ⟨hp, g, d, tk, os⟩) l items := ⟨_, hl, rfl, n, rfl⟩
    wp_walk using AutoSeq1.wpAny_loadPart' hl
    refine wpAny_stack_any fun st => wpAny_pure ?_
    split
    · rename_i c _ _ _ _ _
      cases (c == Value.type "enumerate") <;> (wp_walk using AutoSeq1.wpAny_loadPart' hl, wpAny_pyIter_tuple hL; exact ⟨_, rfl, h⟩)
    · wp_walk using AutoSeq1.wpAny_loadPart' hl, wpAny_pyIter_tuple hL
      exact ⟨_, rfl, h⟩
theorem call_enT {Q : Value → Shared → Prop} (hL : s.heap.IsTuple l items)
    (h : ∀ h', IsEnum h' (s.heap.objs.size + 1) s.heap.objs.size 0 .none → h'.IsTupleIter s.heap.objs.size l 0 → (∀ b o, s.heap.get? b = some o → h'.get? b = some o) → Q (.ref (s.heap.objs.size + 1)) { s with heap := h' }) :
    wpAny (model prog w) A (call (.type "enumerate") [.ref l]) Q E s := by
  obtain ⟨⟨c, dct, dt, sl⟩, hl, hc, n, hd⟩ := hL
  replace hc : c = .type "tuple" := hc
  replace hd : dt = .seq items n := hd
  subst hc hd
  refine callType_new F.called_enumerate (by decide) (F.typeCall_enumerate_1 _) (F.newCall_enumerate_1 _) (fun obj => F.args_object_init_2 obj _) F.entry_enumerate_new (meets_enT l items n dct sl) ⟨hl, ?_⟩
  have hz : (s.heap.push { cls := .type "tuple_iterator", data := .fields #[.ref l, .int 0 0] }).objs.size = s.heap.objs.size + 1 := Heap.size_push ..
  show _ ∧ _
  rw [hz]
  have q := Heap.get?_push_size (s.heap.push { cls := .type "tuple_iterator", data := .fields #[.ref l, .int 0 0] }) (o := { cls := .type "enumerate", data := .fields #[.none, .bool false, .ref s.heap.objs.size, rawInt 0, .none, .none] }) rfl
  rw [hz] at q
  exact ⟨⟨_, q, rfl⟩, h _ q ⟨_, Heap.get?_push_of_some _ (Heap.get?_push_size _ rfl), rfl, rfl⟩ fun b o x => Heap.get?_push_of_some _ (Heap.get?_push_of_some _ x)⟩
end
/-- the tuple at a, each item in a new pair -/
def ItenT (K : PySem.W.Frag) (a : Addr) : It :=
  ⟨fun i H => ∃ (xs : List V) (x : V), SqT K H a xs ∧ xs[i]? = some x, fun i H v H' => ∃ T x, v = .ref T ∧ H T = none ∧ H' = upd H T (.tup [.int (i : Nat), x]) ∧ ∀ xs, SqT K H a xs → xs[i]? = some x, fun i H => ∃ xs : List V, SqT K H a xs ∧ xs.length ≤ i⟩
theorem turn_enT {P : Program} {w : World} {K : PySem.W.Frag} {elts : List Expr} {kk : Nat} {tpos : Pos} (a e it : Addr) :
    Turn P w K (.Tuple elts kk tpos) (ItenT K a) [e, it] e (fun i h => (∃ old, IsEnum h e it ((i : Nat) : Int) old) ∧ h.IsTupleIter it a i ∧ e ≠ it) where
  mem := by simp
  obj := fun i h st b hb => by
    obtain ⟨⟨old, he⟩, ⟨o, ho, hc, hd⟩, _⟩ := st
    rcases (show b = e ∨ b = it by simpa using hb) with z | z <;> rw [z]
    · exact ⟨_, he, fun v q => nomatch q⟩
    · exact ⟨o, ho, fun v q => by rw [hd] at q; cases q⟩
  keep := fun i h h' st k => let ⟨⟨old, he⟩, hi, hne⟩ := st; ⟨⟨old, k e (by simp) _ he⟩, hi.at fun o q => k it (by simp) o q, hne⟩
  item := by
    intro X hP hw hK hc i pins s σ H E I hf st hg
    subst hP hw hK
    obtain ⟨⟨old, he⟩, hit, hne⟩ := st
    obtain ⟨xs, x, hq, hx⟩ := hg
    obtain ⟨its, rv, p, hz⟩ := I.tuple hq
    obtain ⟨u, hu, ru⟩ := rv.get hx
    have hel : e < s.heap.objs.size := Heap.lt_size he
    have hil : it < s.heap.objs.size := by obtain ⟨_, q, _⟩ := hit; exact Heap.lt_size q
    refine enT_item he hit p (x := u) (by simpa using hu) hne fun h' ho hit' hT hk => ?_
    refine ⟨_, rfl, wpAny_letOwnedTupleGo_enum (s := { s with heap := h', toks := s.toks + 1 }) ho fun h'' he' sb => ?_⟩
    have hT2 : h''.get? s.heap.objs.size = some { cls := .type "tuple", data := .seq #[.int i s.toks, u] } := (sb.2 _ (Nat.ne_of_gt hel)).trans hT
    have new : ObjOk X.prog X.w (upd H s.heap.objs.size (.tup [.int (i : Nat), x])) h'' s.heap.objs.size (.tup [.int (i : Nat), x]) := ⟨by show 2 ≤ sizeLine; decide, [.int i s.toks, u], .cons ⟨_, rfl⟩ (.cons ru .nil), ⟨_, hT2, rfl, _, rfl⟩⟩
    have I1 : Inv X pins σ (upd H s.heap.objs.size (.tup [.int (i : Nat), x])) { s with heap := h'', toks := s.toks + 1 } :=
      I.turnedNew (ch := [e, it]) (fun b ob hb q => (sb.2 b (fun z => hb (by simp [z]))).trans (hk b ob (fun z => hb (by simp [z])) (fun z => hb (by simp [z])) q)) hf (Nat.le_refl _) new
    refine ⟨.ref s.heap.objs.size, _, I1, rfl, ⟨_, x, rfl, I.hok.fresh (Nat.le_refl _), rfl, fun ys hy => by rw [I.tuple_inj hy hq]; exact hx⟩, ⟨⟨u, ?_⟩, hit'.at fun o q => (sb.2 it (Ne.symm hne)).trans q, hne⟩, fun b hb => ?_⟩
    · have e1 : ((i + 1 : Nat) : Int) = (i : Int) + 1 := by omega
      rw [e1]; exact he'
    · have hb' : b < s.heap.objs.size := by
        rcases (show b = e ∨ b = it by simpa using hb) with z | z <;> rw [z]
        · exact hel
        · exact hil
      rw [upd_ne (Nat.ne_of_lt hb')]
      exact (hf b hb).1
  done := by
    intro X hP hw hK hc i pins s σ H E I hf st hg
    subst hP hw hK
    obtain ⟨⟨old, he⟩, hit, hne⟩ := st
    obtain ⟨xs, hq, hx⟩ := hg
    obtain ⟨its, rv, p, hz⟩ := I.tuple hq
    obtain ⟨f0, f1, f2, f3, f4, f5⟩ := hf it (by simp)
    have hl := rv.length
    exact enT_end (I.ok.hd hc) he hit p (by simp; omega) fun h' eb => ⟨rfl, I.turned (t' := s.toks) (fun b o hb q => eb b o hb q) f0 f1 f3 f4 f5⟩
  self := fun A i s Q E st h => let ⟨⟨_, he⟩, _⟩ := st; wpAny_pyIter_enum he h
def iEnT (K : PySem.W.Frag) (ta : TA) : TI := fun σ H R => ta σ H fun vs H1 => ∃ a xs, vs = [.ref a] ∧ SqT K H1 a xs ∧ R (ItenT K a) H1
theorem pi_enumT {X : Cx} {e : Expr} {ta : TA} {p pos tpos : Pos} {elts : List Expr} {kk : Nat} (hg : Gl X "enumerate") (hm : X.mg "enumerate" = none) (ha : PA X [e] ta) (hs : starEach [e] X.env = [(false, eval e X.env)] := by rfl) :
    PI X (.Tuple elts kk tpos) (.Call (.Name "enumerate" p) [e] [] pos) (iEnT X.K ta) := by
  refine ⟨fun pins s σ H R I h => ?_⟩
  refine Call_ (ld_blt I hg hm boot_enumerate (PyProof.Rows.callWith_type1 (thn (ha.run pos pins s σ H _ I h) fun us s1 ⟨vs, H1, I1, r1, q1⟩ => ?_) hs rfl))
  obtain ⟨a, xs, ex, hq, q⟩ := q1
  subst ex
  cases r1 with
  | cons r rr =>
    cases rr
    cases r
    obtain ⟨its, rv, p', hz⟩ := I1.tuple hq
    refine call_enT p' fun h' he hit hk => wpAny_pyIter_enum he ?_
    have I2 : Inv X pins σ H1 { s1 with heap := h' } := I1.kept (t' := s1.toks) hk
    refine ⟨s1.heap.objs.size + 1, [s1.heap.objs.size + 1, s1.heap.objs.size], _, _, H1, rfl, I2, turn_enT a (s1.heap.objs.size + 1) s1.heap.objs.size, ⟨⟨.none, he⟩, hit, Nat.succ_ne_self _⟩, fun b hb => ?_, q⟩
    have hle : s1.heap.objs.size ≤ b := by
      rcases (show b = s1.heap.objs.size + 1 ∨ b = s1.heap.objs.size by simpa using hb) with z | z <;> rw [z]
      · exact Nat.le_add_right _ _
      · exact Nat.le_refl _
    exact I1.fpOk hle (I1.hok.fresh hle)
theorem ei_enT {m : Mt} {Γ : Gm} {K : PySem.W.Frag} {ta : TE} {Rs : List Rp} (h : EvG m ta Γ (rT K Rs)) : EvI m (iEnT K (tCons ta tNil)) Γ Rs.length (fun i => (Rs[i]?).map fun R => rT K [dI (i : Int), R]) := fun σ B H hs hp C c => h σ B H hs hp _ fun v B1 H1 s1 ⟨a, xs, e, ha, r⟩ => by
  subst e
  have q : ∀ H', Sub B1 H' → SqT K H' a xs := fun H' sb => sb.sqT ha
  refine ⟨a, xs, rfl, q H1 (hp.step s1).sub, c _ B1 H1 s1 fun B2 H2 sb hp2 => ⟨fun i hi => ?_, ⟨xs, q H2 (sb.trans hp2.sub), by rw [r.len] <;> exact Nat.le_refl _⟩⟩⟩
  have hi' : i < xs.length := by rw [r.len]; exact hi
  refine ⟨⟨xs, xs[i], q H2 (sb.trans hp2.sub), List.getElem?_eq_getElem hi'⟩, fun x H' y => ?_⟩
  obtain ⟨T, z, rfl, nT, rfl, f⟩ := y
  obtain ⟨R, e2, e3⟩ := r.get (f xs (q _ (sb.trans hp2.sub)))
  refine ⟨_, rT K [dI (i : Int), R], hp2.new nT, by show (Rs[i]?).map _ = _; rw [e2] <;> rfl, T, _, rfl, SqT.of upd_same, _, _, rfl, rfl, _, _, rfl, R.mono (sb.trans (hp2.new nT).sub) e3, rfl⟩
/-! ### index -/
def rTIndexD (K : PySem.W.Frag) : V → List V → Hp → VK → Prop := fun x xs H Q => ∃ (a : Addr) (y : V) (d : PyData) (ds : List PyData) (j : Nat) (z : PyData), x = V.ref a ∧ xs = [y] ∧ Dp K H (V.ref a) (.tuple ds) ∧ Dp K H y d ∧
  SeqAt.shaped (.tuple ds) = true ∧ SeqAt.shaped d = true ∧ ds[j]? = some z ∧ PyData.eqv z d = true ∧ (∀ (m : Nat) (z' : PyData), m < j → ds[m]? = some z' → PyData.eqv z' d = false) ∧ Q (.int (j : Nat)) H
theorem mt_tindexD {X : Cx} (hu : X.A.units + 65 < cLine) : MtR X "tuple.index" (rTIndexD X.K) := by
  intro pins s σ H x xs v us Q I rx rxs h
  obtain ⟨a, y, d, ds, j, z, rfl, rfl, hl, hy, sl, sd, hz, hzj, hno, q⟩ := h
  obtain ⟨uy, rfl, ry⟩ := vals1 rxs
  cases rx
  obtain ⟨bs, r1⟩ := Dp.reads I d y uy hy ry
  have lay : PyData.canLayAll0 ds = true := SeqAt.canLay_of_shaped sl
  cases hl with
  | tup hs ha =>
    obtain ⟨its, rv, ⟨⟨cls, dd, data, sls⟩, ho, hc, n, hdt⟩, hlen⟩ := I.tuple hs
    simp only at hc hdt
    subst hc hdt
    obtain ⟨as, h4⟩ := Dp.readsAll I ds _ its ha rv
    have hn : its.length = ds.length := SeqAt.ReadsAll.length ds its as h4
    have hmap : its.map (SeqAt.readOf s.heap) = ds := SeqAt.readsAll_map ds its as lay h4
    obtain ⟨hjd, _⟩ := List.getElem?_eq_some_iff.mp hz
    have hjl : j < its.length := by omega
    have hj : j < its.toArray.size := by simpa using hjl
    have at_ : ∀ (m : Nat) (hm : m < its.toArray.size) (z' : PyData), ds[m]? = some z' → SeqAt.readOf s.heap its.toArray[m] = z' := fun m hm z' hz' => by
      have hml : m < its.length := by simpa using hm
      rw [← hmap, List.getElem?_map, List.getElem?_eq_getElem hml] at hz'
      have e1 := Option.some.inj (show some (SeqAt.readOf s.heap its[m]) = some z' from hz')
      simpa using e1
    refine call_meets PySem.F.slot_tuple_index ⟨_, ho, rfl⟩ PySem.F.entry_tuple_index (PySem.F.args_tuple_index_2 _ _)
      (TI.tuple_indexAt a its.toArray n dd sls uy (fun u => PyData.eqv (SeqAt.readOf s.heap u) d) j hj ?_ ?_) ⟨ho, SeqAt.items_eqAt (vs := its.toArray) (show ReadsAll s.heap its.toArray.toList ds as from h4) r1 lay (SeqAt.canLay_of_shaped sd) (room_in_shaped sd hu), ?_⟩
    · show PyData.eqv (SeqAt.readOf s.heap its.toArray[j]) d = true
      rw [at_ j hj z hz]
      exact hzj
    · intro m hm hmj
      have hz' : ds[m]? = some ds[m] := List.getElem?_eq_getElem (by omega)
      show PyData.eqv (SeqAt.readOf s.heap its.toArray[m]) d = false
      rw [at_ m hm _ hz']
      exact hno m _ hmj hz'
    · exact ⟨.int (j : Nat), H, I.tok _, ⟨_, rfl⟩, q⟩
/-! ### a tuple that is known as an object -/
def rTf (Rs : List Rp) : Rp := ⟨fun B v => ∃ a xs o, v = .ref a ∧ B a = some (.frz o (.tup xs)) ∧ o.cls = .type "tuple" ∧ o.dict = none ∧ AllR Rs B xs, fun s ⟨a, xs, o, e, h, h1, h2, t⟩ => ⟨a, xs, o, e, s _ _ h, h1, h2, t.mono s⟩⟩
theorem le_Tf {K : PySem.W.Frag} {Rs : List Rp} : Le (rTf Rs) (rT K Rs) := fun B v ⟨a, xs, o, e, h, _, _, t⟩ => ⟨a, xs, e, .inl (.inr ⟨o, h⟩), t⟩
abbrev rTupF (K : PySem.W.Frag) : List V → Hp → VK → Prop := fun xs H Q => ∃ p ys, xs = [.ref p] ∧ SqL K H p ys ∧ ∀ l o, H l = none → o.cls = .type "tuple" → o.dict = none → Q (.ref l) (upd H l (.frz o (.tup ys)))
theorem call_tupleF {X : Cx} {K : PySem.W.Frag} (hK : X.K = K) : CallR X (.type "tuple") (rTupF K) := by
  subst hK
  intro pins s σ H xs us Q I r h
  obtain ⟨p, ys, rfl, hq, q⟩ := h
  obtain ⟨u, rfl, rx⟩ := vals1 r
  cases rx
  obtain ⟨its, r', pl, hz⟩ := I.list hq
  have hlen := r'.length
  refine call_tuple_list pl.isList (fun h' kp => ?_) (by simp only [List.size_toArray] <;> omega)
  have I1 : Inv X pins σ H { s with heap := h' } := I.kept (t' := s.toks) kp
  have I2 := I1.laid (o := .frz { cls := .type "tuple", data := .seq its.toArray } (.tup ys)) (h' := h'.push { cls := .type "tuple", data := .seq its.toArray }) (t' := s.toks) (fun b o e => Heap.get?_push_of_some _ e) (Nat.le_refl _) ⟨Heap.get?_push_size _ rfl, hz, its, r', IsTup.new _ _⟩
  exact ⟨.ref h'.objs.size, _, I2, rfl, q _ _ (I1.hok.fresh (Nat.le_refl _)) rfl rfl⟩
def tTI (K : PySem.W.Frag) (to : TE) (t : TA) : TE := fun σ H Q => to σ H fun x H1 => (∃ a xs o, x = .ref a ∧ H1 a = some (.frz o (.tup xs)) ∧ o.cls = .type "tuple" ∧ o.dict = none) ∧ t σ H1 fun xs H2 => rTIndexD K x xs H2 Q
theorem pe_tindexF {X : Cx} {K : PySem.W.Frag} {A : Around} {k : Nat} {o e : Expr} {es : List Expr} {to : TE} {t : TA} {apos cpos : Pos} (hr : Room k A) (hA : X.A = A) (hK : X.K = K) (ho : PE X o to) (ha : PA X (e :: es) t) (hbase : attributeBase o "index" X.env (eval o X.env) = eval o X.env)
    (hfew : ((backTo cpos (starEach (e :: es) X.env)).all (fun x => !x.1) && (backToKw cpos (keywordEach [] X.env)).all (fun x => x.1.isSome) && decide ((e :: es).length + ([] : List Keyword).length + (if ([] : List Keyword).isEmpty then 0 else 1) < 30)) = true)
    (hline : (apos.endLine == cpos.line) = true) (hs : starEach (e :: es) X.env = (false, eval e X.env) :: starEach es X.env) (hplain : (backTo cpos (starEach es X.env)).any (·.1) = false) : PE X (.Call (.Attribute o "index" apos) (e :: es) [] cpos) (tTI K to t) := by
  subst hK
  refine ⟨fun pins s σ H Q I h => ?_⟩
  refine wpAny_Call_method_late hbase hfew hline rfl (thn (ho.run pins s σ H _ I h) fun v s1 ⟨x, H1, I1, r1, ⟨a, xs, ob, ex, hx, hc, hd⟩, q1⟩ => ?_)
  subst ex
  obtain rfl : v = Value.ref a := r1
  have hg : s1.heap.get? a = some ob := (I1.hok a _ hx).1
  refine ⟨"tuple", "tuple.index", PySem.F.plainAttrs_tuple, PySem.F.slot_tuple_index, PySem.F.type_tuple_index, ⟨ob, hg, hc⟩, fun b e => by cases e; exact ⟨ob, hg, hd⟩, ?_⟩
  have hB := ha.run cpos pins s1 σ H1 _ I1 q1
  rw [hs] at hB ⊢
  refine Calls.callWith_builtin (by show (false || (backTo cpos (starEach es X.env)).any (·.1)) = false; rw [hplain] <;> rfl) (Calls.evalArgs_plain ?_)
  exact thn hB fun us s2 ⟨vs, H2, I2, r2, q2⟩ => mt_tindexD (by rw [hA]; exact units65 hr) pins s2 σ H2 (.ref a) vs (.ref a) us Q I2 rfl r2 q2
theorem cell_eqv (a b : Cell) : PyData.eqv (cellD a) (cellD b) = decide (a = b) := by
  show (a.1 == b.1 && (a.2 == b.2 && true)) = _
  by_cases h : a = b
  · rw [decide_eq_true h, h]; simp
  · rw [decide_eq_false h]
    by_cases h1 : a.1 = b.1
    · have h2 : a.2 ≠ b.2 := fun e => h (Prod.ext h1 e)
      simp [h1, h2]
    · simp [h1]
section
variable {m : Mt} {Γ : Gm} {ta tb : TE} {K : PySem.W.Frag}
theorem cells_dp {B : Hp} : ∀ {cs : List Cell} {xs : List V}, AllR (cs.map rCellN) B xs → DpAll K B xs (cs.map cellD)
  | [], _, h => by rw [show _ = [] from h]; exact .nil
  | c :: cs, _, ⟨x, r, e, h, t⟩ => by rw [e]; exact .cons (Le.trans le_Tn le_cd B x h) (cells_dp t)
theorem cells_lay : ∀ cs : List Cell, PyData.canLayAll0 (cs.map cellD) = true ∧ PyData.depthAll (cs.map cellD) ≤ 5
  | [] => ⟨rfl, Nat.zero_le _⟩
  | c :: cs => by
    obtain ⟨h1, h2⟩ := cells_lay cs
    refine ⟨?_, ?_⟩
    · show (PyData.canLay0 (cellD c) && PyData.canLayAll0 (cs.map cellD)) = true
      rw [h1] <;> rfl
    · have h3 : (cellD c).depth ≤ 5 := by unfold cellD; simp [PyData.depth, PyData.depthAll]
      rw [List.map_cons]
      simp only [PyData.depthAll]
      omega
theorem cells_shaped (cs : List Cell) : SeqAt.shaped (.tuple (cs.map cellD)) = true := by
  obtain ⟨h1, h2⟩ := cells_lay cs
  unfold SeqAt.shaped
  have h3 : (PyData.tuple (cs.map cellD)).depth ≤ 64 := by simp only [PyData.depth]; omega
  rw [decide_eq_true h3, Bool.and_true]
  exact h1
theorem ev_tindex {cs : List Cell} {c : Cell} {k : Nat} (ha : EvG m ta Γ (rTf (cs.map rCellN))) (hb : EvG m tb Γ (rCell K c)) (hk : cs[k]? = some c) (hf : ∀ n, n < k → cs[n]? ≠ some c) : EvG m (tTI K ta (tCons tb tNil)) Γ (dI (k : Int)) := fun σ B H hs hp Q q =>
  ha σ B H hs hp _ fun x B1 H1 s1 ⟨a, xs, o, e, hx, h1, h2, r⟩ => by
    have hp1 := hp.step s1
    refine ⟨⟨a, xs, o, e, hp1.sub _ _ hx, h1, h2⟩, ea1 hb σ B1 H1 (hs.mono s1.sub) hp1 _ fun vs B2 H2 s2 r2 => ?_⟩
    obtain ⟨v, rfl, rv⟩ := all1 r2
    have hp2 := hp1.step s2
    refine ⟨a, v, cellD c, cs.map cellD, k, cellD c, e, rfl, .tup (.inl (.inr ⟨o, hp2.sub _ _ (s2.sub _ _ hx)⟩)) (Sub.dpAll hp2.sub (cells_dp (r.mono s2.sub))), hp2.sub.dp (le_cd B2 v rv), cells_shaped cs, by rfl, by rw [List.getElem?_map, hk] <;> rfl, by rw [cell_eqv]; exact decide_eq_true rfl, fun n z' hn hz => ?_, q _ _ _ (Step.trans hp s1 s2) rfl⟩
    rw [List.getElem?_map] at hz
    cases hc : cs[n]? with
    | none => rw [hc] at hz; cases hz
    | some d =>
      rw [hc] at hz
      obtain rfl := Option.some.inj hz
      rw [cell_eqv]
      exact decide_eq_false fun e => hf n hn (by rw [hc, e])
theorem ev_tupleF {Rs : List Rp} (h : EvG m ta Γ (rL Rs)) : EvG m (tCB (rTupF K) (tCons ta tNil)) Γ (rTf Rs) := ev_cb (ea1 h) fun B H vs hp hv Q q => by
  obtain ⟨v, rfl, a, xs, rfl, ea, ra⟩ := all1 hv
  exact ⟨a, xs, rfl, SqL.of (hp.sub a _ ea), fun l o nl h1 h2 => q _ _ _ (hp.new nl) ⟨l, xs, o, rfl, upd_same, h1, h2, ra.mono (hp.new nl).sub⟩⟩
end
end Sq
/-! Sq, part S: len(set(..)) of texts that differ. -/
namespace Sq
open PySem PySem.Spec PyProof.Rows L2
section
variable {prog : Program} {w : World} {A : Around} {E : Value → Shared → Prop} {s : Shared} {R : Result → Shared → Prop}
/-- the first i of the texts -/
def inFst (ys : List Str) (i : Nat) : Str → Bool := fun k => (ys.take i).any (· == k)
/-- the loop that fills the set -/
theorem strs_loop {I : Addr} {fp wr : List Addr} {G : Array GenState → Array GenState → Prop} {n : Nat} {P : Nat → Value → Prop} {St : Nat → Shared → Prop} (W : WalksS prog w A.in1 I fp wr G n P St) (S : Addr) (off : S ∉ fp) {ys : List Str} (hn : ys.length = n) (nd : ys.Nodup)
    (hv : ∀ i v, P i v → ∃ y t, ys[i]? = some y ∧ v = .str y t) (hb : n + 1 < scanBound) : ∀ (k i : Nat) (s : Shared), n - i = k → i ≤ n → St i s → s.heap.SetOf (strKind prog w) S (inFst ys i) i →
      (∀ s', Moved (S :: wr) G s s' → s'.heap.SetOf (strKind prog w) S (inFst ys n) n → R (.ok (.ret .none)) s') → codeAny (model prog w) A (.builtin "set.update.loop" ⟨[.ref S, .ref I], []⟩) R s := by
  have offw : S ∉ wr := fun h => off (W.sub _ h)
  have up : ∀ b ∈ wr, b ∈ S :: wr := fun b hb => List.mem_cons_of_mem _ hb
  intro k
  induction k with
  | zero =>
    intro i s hk hi st hS hR
    obtain rfl : i = n := by omega
    refine codeAny_builtin F.entry_set_update_loop ?_
    rw [Around.under_plainId F.plain_set_update_loop _]
    show wpAny _ A.in1 (pyNext (.ref I) >>= _) _ _ s
    refine wpAny_bind (W.done s _ _ st fun s' hm => ?_)
    show wpAny _ A.in1 (ret Value.none) _ _ s'
    obtain ⟨o, es, ep, t, ho, rest⟩ := hS
    exact wpAny_pure (hR s' (hm.mono up) ⟨o, es, ep, t, hm.heap S _ offw ho, rest⟩)
  | succ k ih =>
    intro i s hk hi st hS hR
    have hlt : i < n := by omega
    refine codeAny_builtin F.entry_set_update_loop ?_
    rw [Around.under_plainId F.plain_set_update_loop _]
    show wpAny _ A.in1 (pyNext (.ref I) >>= _) _ _ s
    refine wpAny_bind (W.item i s _ _ hlt st fun v s' hP st' hm => ?_)
    obtain ⟨y, t, hy, rfl⟩ := hv i v hP
    have hS' : s'.heap.SetOf (strKind prog w) S (inFst ys i) i := by
      obtain ⟨o, es, ep, tb, ho, rest⟩ := hS
      exact ⟨o, es, ep, tb, hm.heap S _ offw ho, rest⟩
    have hkey : (strKind prog w).is y (.str y t) = true := by
      show Value.isStrOf y (.str y t) = true
      simp [Value.isStrOf]
    show wpAny _ A.in1 (holding [Value.str y t] (setAdd S (.str y t)) >>= _) _ _ s'
    refine wpAny_bind (wpAny_holding ?_)
    unfold setAdd
    refine wpAny_holding (wpAny_bind ((strKind prog w).pyHash (k := y) hkey ?_))
    refine wpAny_setAddHashed_of (knd := strKind prog w) (s := { s' with toks := s'.toks + 1 }) hkey rfl hS' (by omega) fun h' hsb hS2 => ?_
    have hil : i < ys.length := by omega
    have hyi : ys[i] = y := by rw [List.getElem?_eq_getElem hil] at hy; exact Option.some.inj hy
    have hnot : inFst ys i y = false := by
      unfold inFst
      rw [List.any_eq_false]
      intro z hz e
      obtain rfl : z = y := by simpa using e
      obtain ⟨j, hj, ej⟩ := List.getElem_of_mem hz
      rw [List.length_take] at hj
      rw [List.getElem_take] at ej
      have := (List.getElem_inj nd).mp (ej.trans hyi.symm)
      omega
    have hSi : h'.SetOf (strKind prog w) S (inFst ys (i + 1)) (i + 1) := SetOf_congr hS2 (fun k' => by
      unfold inFst
      rw [List.take_add_one, hy, List.any_append]
      show _ = ((ys.take i).any (· == k') || ((y == k') || false))
      rw [Bool.or_false]
      congr 1
      by_cases e : k' = y
      · rw [decide_eq_true e, e]; exact (beq_self_eq_true y).symm
      · rw [decide_eq_false e]; exact (beq_false_of_ne (Ne.symm e)).symm) (by rw [hnot] <;> rfl)
    refine wpAny_pure ⟨plainId_quiet F.plain_set_update_loop _, ih (i + 1) _ (by omega) hlt (W.frame _ s' _ _ st' (Nat.le_succ _) fun b hb o e => ?_) hSi fun s'' hm'' hS'' => ?_⟩
    · rw [hsb.2 b (fun h : b = S => off (by rw [← h]; exact hb))]; exact e
    · refine hR s'' (Moved.trans W.gtrans ((hm.mono up).then_heap (Nat.le_succ _) fun b o hb e => ?_) hm'') hS''
      rw [hsb.2 b (fun h : b = S => hb (by rw [h]; exact List.mem_cons_self))]; exact e
/-- set(l), l a list of texts that differ -/
theorem call_strs {l : Addr} {items : Array Value} {ys : List Str} {Q : Value → Shared → Prop} (hh : A.handled = none) (hl : s.heap.IsList l items) (hi : ∀ (i : Nat) (v : Value), items[i]? = some v → ∃ y t, ys[i]? = some y ∧ v = Value.str y t) (hn : ys.length = items.size) (nd : ys.Nodup) (hb : items.size + 1 < scanBound)
    (h : ∀ (h' : Heap) (tk : Nat), h'.SetOf (strKind prog w) s.heap.objs.size (inFst ys items.size) items.size → (∀ b o, b < s.heap.objs.size → s.heap.get? b = some o → h'.get? b = some o) → Q (.ref s.heap.objs.size) { s with heap := h', toks := tk }) :
    wpAny (model prog w) A (call (.type "set") [.ref l]) Q E s := by
  obtain ⟨c, tl, hmro⟩ := F.called_set.mro
  have hmade := F.called_set.made
  have hsub := F.called_set.sub
  refine wpAny_call (codeAny_of_tree ?_)
  show wpAny _ _ (callAny (.type "set") _) _ _ _
  refine wpAny_pure ⟨Code.quiet_builtin _ (by decide +kernel), codeAny_builtin F.entry_type_call ?_⟩
  rw [Around.under_plain (weight_type_call_type "set" [.ref l] []) rfl]
  have h1 := F.called_set.notType
  have h2 := F.called_set.canCreate
  have hct := F.typeCall_set_1 (.ref l)
  repeat (any_goals (first | assumption | wp_step))
  refine codeAny_mono (code_set_new_1 (.ref l) (E := E) (Q₁ := fun obj s₁ => ∃ led : Bool, obj = .ref s.heap.objs.size ∧ s₁ = { s with heap := s.heap.push { cls := .type "set", dict := none, data := .set #[] 0 (.fresh 0 0 led) } }) fun led => ⟨led, rfl, rfl⟩) fun r s₁ hr => ?_
  cases r with
  | error e => exact hr
  | ok fl =>
    cases fl with
    | next => exact hr.elim
    | brk => exact hr.elim
    | cont => exact hr.elim
    | ret obj =>
      obtain ⟨led, rfl, rfl⟩ := hr
      have hS : (s.heap.push { cls := .type "set", dict := none, data := .set #[] 0 (.fresh 0 0 led) }).get? s.heap.objs.size = some { cls := .type "set", dict := none, data := .set #[] 0 (.fresh 0 0 led) } := Heap.get?_push_size _ rfl
      have hT : Shared.TypeIs { s with heap := s.heap.push { cls := .type "set", dict := none, data := .set #[] 0 (.fresh 0 0 led) } } (.ref s.heap.objs.size) "set" := ⟨_, hS, rfl⟩
      have hli := F.called_set.init.lookup
      have hbi := F.called_set.init.bind (.ref s.heap.objs.size)
      repeat (any_goals (first | assumption | wp_step))
      refine codeAny_mono (codeAny_call_builtin (R := wants (fun r s₂ => r = .none ∧ ∃ h' tk, s₂ = { s with heap := h', toks := tk } ∧ h'.SetOf (strKind prog w) s.heap.objs.size (inFst ys items.size) items.size ∧
        (∀ b o, b < s.heap.objs.size → s.heap.get? b = some o → h'.get? b = some o)) E) F.called_set.init.plain F.entry_set_init (check_set_init_1 hT ?_)) fun r₂ s₂ hr₂ => ?_
      · obtain ⟨⟨cl, dc, dt, sl⟩, ho, hc, nl, hd⟩ := hl
        simp only at hc hd
        subst hc hd
        have ho' : (s.heap.push { cls := .type "set", dict := none, data := .set #[] 0 (.fresh 0 0 led) }).get? l = some { cls := .type "list", dict := dc, data := .seq items nl, slots := sl } := Heap.get?_push_of_some _ ho
        have q1 := F.sub_list_set
        have q2 := F.sub_list_frozenset
        have q3 : (Value.type "list" == Value.type "dict") = false := by decide
        have hl1 : (s.heap.push { cls := .type "set", dict := none, data := .set #[] 0 (.fresh 0 0 led) }).IsList l items := ⟨_, ho', rfl, nl, rfl⟩
        unfold Builtin.«set.__init__» noKeywords Builtin.Frozenset.updateFrom
        generalize hPI : pyIter = PI
        wp_walk
        subst hPI
        refine wpAny_pyIter_list hl1 ?_
        refine wpAny_bind (wpAny_runValue ?_)
        have lt : l < s.heap.objs.size := Heap.lt_size ho
        have z : (s.heap.push { cls := .type "set", dict := none, data := .set #[] 0 (.fresh 0 0 led) }).objs.size = s.heap.objs.size + 1 := Heap.size_push ..
        have hh3 : A.in1.in1.in1.handled = none := by simp [hh]
        have ne1 : l ≠ (s.heap.push { cls := .type "set", dict := none, data := .set #[] 0 (.fresh 0 0 led) }).objs.size := by rw [z]; exact Nat.ne_of_lt (Nat.lt_succ_of_lt lt)
        have off : s.heap.objs.size ∉ [(s.heap.push { cls := .type "set", dict := none, data := .set #[] 0 (.fresh 0 0 led) }).objs.size, l] := by
          rw [z]
          simp only [List.mem_cons, List.not_mem_nil, or_false, not_or]
          exact ⟨Nat.ne_of_lt (Nat.lt_succ_self _), Nat.ne_of_gt lt⟩
        refine strs_loop ((Walks.list hh3 _ l ne1 items).toS) s.heap.objs.size off hn nd hi hb (items.size - 0) 0 _ (by omega) (Nat.zero_le _) ⟨⟨_, Heap.get?_push_size _ rfl, rfl, rfl⟩, (hl1.push _)⟩ ?hS0 ?hR
        case hS0 =>
          have g : ((s.heap.push { cls := .type "set", dict := none, data := .set #[] 0 (.fresh 0 0 led) }).push { cls := .type "list_iterator", data := .fields #[.ref l, .int 0 0] }).get? s.heap.objs.size = some { cls := .type "set", dict := none, data := .set #[] 0 (.fresh 0 0 led) } := Heap.get?_push_of_some _ hS
          exact SetOf_congr ((setObjOf_fresh (knd := strKind prog w) led).setOf g (by unfold scanBound; omega)) (fun _ => rfl) rfl
        case hR =>
          intro s' hm hS'
          obtain ⟨h', g', d', tk', os'⟩ := s'
          have eg : g' = s.gens := hm.gens
          have ed : d' = s.drawn := hm.drawn
          have eos : os' = s.os := hm.os
          subst eg ed eos
          show wpAny _ _ _ _ _ _
          refine wpAny_pure ?_
          show wpAny _ _ (ret Value.none) _ _ _
          refine wpAny_pure ⟨rfl, h', tk', rfl, hS', fun b o hb e => hm.heap b o ?_ (Heap.get?_push_of_some _ (Heap.get?_push_of_some _ e))⟩
          rw [z]
          simp only [List.mem_cons, List.not_mem_nil, or_false, not_or]
          exact ⟨Nat.ne_of_lt hb, Nat.ne_of_lt (Nat.lt_succ_of_lt hb)⟩
      · cases r₂ with
        | error e => exact hr₂
        | ok fl₂ =>
          cases fl₂ with
          | ret r =>
            obtain ⟨rfl, h', tk, rfl, hS', hk'⟩ := hr₂
            repeat (any_goals (first | assumption | wp_step))
            exact h _ _ hS' hk'
          | _ => exact hr₂.elim
end
def tLenSetS (K : PySem.W.Frag) (ta : TE) : TE := fun σ H Q => ta σ H fun x H1 => ∃ (l : Addr) (ys : List Str), x = .ref l ∧ SqL K H1 l (ys.map V.str) ∧ ys.Nodup ∧ ys.length ≤ 100 ∧ Q (.int (ys.length : Nat)) H1
theorem pe_lenSetS {X : Cx} {a : Expr} {ta : TE} {p p2 q pos : Pos} (hc : X.calm = true) (hg : Gl X "len") (hm : X.mg "len" = none) (hg2 : Gl X "set") (hm2 : X.mg "set" = none) (ha : PE X a ta)
    (na : starEach [a] X.env = (false, eval a X.env) :: starEach [] X.env := by rfl) : PE X (.Call (.Name "len" p) [.Call (.Name "set" p2) [a] [] q] [] pos) (tLenSetS X.K ta) := by
  refine ⟨fun pins s σ H Q I h => ?_⟩
  refine Call_ (ld_blt I hg hm boot_len (PyProof.Rows.callWith_builtin1 (PyProof.Rows.args_cons ?_ rfl) rfl rfl))
  refine Call_ (ld_blt I hg2 hm2 PyProof.Rows.boot_set (PyProof.Rows.callWith_type1 (PyProof.Rows.args_cons (thn (ha.run pins s σ H _ I h) fun v s1 ⟨x, H1, I1, r1, l, ys, ex, hq, nd, hl, q1⟩ => PyProof.Rows.args_nil ?_) na) na rfl))
  subst ex
  cases r1
  obtain ⟨its, r, pl, hz⟩ := I1.list hq
  have hlen : ys.length = its.toArray.size := by rw [List.size_toArray, ← r.length, List.length_map]
  refine call_strs (I1.ok.hd hc) pl.isList (fun i v hv => ?_) hlen nd (by rw [← hlen]; unfold scanBound; omega) fun h' tk hS hk => PyProof.Rows.args_nil ?_
  · obtain ⟨x, hx, rx⟩ := vals_get r (by simpa using hv)
    rw [List.getElem?_map] at hx
    cases hy : ys[i]? with
    | none => rw [hy] at hx; cases hx
    | some y =>
      rw [hy] at hx
      obtain rfl := Option.some.inj hx
      obtain ⟨t, ht⟩ := rx
      exact ⟨y, t, rfl, ht⟩
  obtain ⟨o, es, ep, t, ho, hex, hd, _, _, _, hf, hn⟩ := hS
  have I2 : Inv X pins σ H1 { s1 with heap := h', toks := tk } := I1.kept fun b o e => hk b o (Heap.lt_size e) e
  exact call_len_set ho hex hd hf (by rw [hn, ← hlen]; omega) ⟨.int ys.length, H1, I2.tok _, ⟨_, by rw [hn, ← hlen]⟩, q1⟩
theorem ev_lenSetS {m : Mt} {Γ : Gm} {K : PySem.W.Frag} {ta : TE} {ys : List Str} (h : EvG m ta Γ (rL (ys.map dS))) (nd : ys.Nodup) (hl : ys.length ≤ 100) : EvG m (tLenSetS K ta) Γ (dI (ys.length : Int)) := fun σ B H hs hp Q q =>
  h σ B H hs hp _ fun v B1 H1 s1 ⟨a, xs, e, ea, ra⟩ => ⟨a, ys, e, SqL.of (by rw [(hp.step s1).sub a _ ea, ra.strs]), nd, hl, q _ _ _ s1 rfl⟩
end Sq
/-! Sq, part T: the text by places. -/
namespace Sq
open PySem PySem.Spec PyProof.Rows L2
theorem sc_bound_value : FnScope ["bound", "size", "i", "base", "step"] ["bound", "size", "i"] (defScope s_bound_value) := ⟨rfl, rfl, rfl, by decide +kernel, rfl, by decide +kernel, by decide +kernel⟩
theorem sc_is_bound : FnScope ["word", "inner"] ["word", "inner"] (defScope s_is_bound) := ⟨rfl, rfl, rfl, by decide +kernel, rfl, by decide +kernel, by decide +kernel⟩
theorem sc_is_loop : FnScope ["value", "inner", "words"] ["value", "inner"] (defScope s_is_loop) := ⟨rfl, rfl, rfl, by decide +kernel, rfl, by decide +kernel, by decide +kernel⟩
theorem sc_goes_down : FnScope ["loop"] ["loop"] (defScope s_goes_down) := ⟨rfl, rfl, rfl, by decide +kernel, rfl, by decide +kernel, by decide +kernel⟩
theorem sc_loop_range : FnScope ["loop", "size", "i", "words", "low"] ["loop", "size", "i"] (defScope s_loop_range) := ⟨rfl, rfl, rfl, by decide +kernel, rfl, by decide +kernel, by decide +kernel⟩
theorem sc_in_loop : FnScope ["loop", "size", "i", "number", "low", "high", "down"] ["loop", "size", "i", "number"] (defScope s_in_loop) := ⟨rfl, rfl, rfl, by decide +kernel, rfl, by decide +kernel, by decide +kernel⟩
theorem sc_is_guard : FnScope ["words"] ["words"] (defScope s_is_guard) := ⟨rfl, rfl, rfl, by decide +kernel, rfl, by decide +kernel, by decide +kernel⟩
theorem sc_parsed_deed : FnScope ["value", "words", "guard", "at", "word", "spots", "spot"] ["value"] (defScope s_parsed_deed) := ⟨rfl, rfl, rfl, by decide +kernel, rfl, by decide +kernel, by decide +kernel⟩
theorem sc_number_of : FnScope ["name", "size", "i", "j", "number"] ["name", "size", "i", "j"] (defScope s_number_of) := ⟨rfl, rfl, rfl, by decide +kernel, rfl, by decide +kernel, by decide +kernel⟩
theorem sc_place_cell : FnScope ["place", "size", "i", "j", "row", "column"] ["place", "size", "i", "j"] (defScope s_place_cell) := ⟨rfl, rfl, rfl, by decide +kernel, rfl, by decide +kernel, by decide +kernel⟩
theorem sc_holds : FnScope ["guard", "size", "i", "j", "one", "other"] ["guard", "size", "i", "j"] (defScope s_holds) := ⟨rfl, rfl, rfl, by decide +kernel, rfl, by decide +kernel, by decide +kernel⟩
theorem sc_do_deed : FnScope ["deed", "size", "i", "j", "content", "meet", "join", "cells", "entries", "k", "spot", "cell"] ["deed", "size", "i", "j", "content", "meet", "join"] (defScope s_do_deed) := ⟨rfl, rfl, rfl, by decide +kernel, rfl, by decide +kernel, by decide +kernel⟩
theorem sc_Deed___init : FnScope ["self", "word", "spots", "guard"] ["self", "word", "spots", "guard"] (defScope s_Deed___init) := ⟨rfl, rfl, rfl, by decide +kernel, rfl, by decide +kernel, by decide +kernel⟩
theorem sc_is_integer : FnScope ["value"] ["value"] (defScope s_is_integer) := ⟨rfl, rfl, rfl, by decide +kernel, rfl, by decide +kernel, by decide +kernel⟩
theorem sc_within : FnScope ["value", "least", "most"] ["value", "least", "most"] (defScope s_within) := ⟨rfl, rfl, rfl, by decide +kernel, rfl, by decide +kernel, by decide +kernel⟩
theorem sc_is_cell : FnScope ["value", "size"] ["value", "size"] (defScope s_is_cell) := ⟨rfl, rfl, rfl, by decide +kernel, rfl, by decide +kernel, by decide +kernel⟩
theorem sc_check_size : FnScope ["value"] ["value"] (defScope s_check_size) := ⟨rfl, rfl, rfl, by decide +kernel, rfl, by decide +kernel, by decide +kernel⟩
theorem sc_check_cell : FnScope ["size", "value"] ["size", "value"] (defScope s_check_cell) := ⟨rfl, rfl, rfl, by decide +kernel, rfl, by decide +kernel, by decide +kernel⟩
theorem sc_images_of : FnScope ["size", "cell", "row", "column", "far_row", "far_column", "found"] ["size", "cell"] (defScope s_images_of) := ⟨rfl, rfl, rfl, by decide +kernel, rfl, by decide +kernel, by decide +kernel⟩
theorem sc_images : FnScope ["size", "cell"] ["size", "cell"] (defScope s_images) := ⟨rfl, rfl, rfl, by decide +kernel, rfl, by decide +kernel, by decide +kernel⟩
theorem sc_found_kind : FnScope ["size", "cell", "row", "column", "low", "middle", "high", "top"] ["size", "cell"] (defScope s_found_kind) := ⟨rfl, rfl, rfl, by decide +kernel, rfl, by decide +kernel, by decide +kernel⟩
theorem sc_kind_of : FnScope ["size", "cell"] ["size", "cell"] (defScope s_kind_of) := ⟨rfl, rfl, rfl, by decide +kernel, rfl, by decide +kernel, by decide +kernel⟩
theorem sc_least_size : FnScope ["kind"] ["kind"] (defScope s_least_size) := ⟨rfl, rfl, rfl, by decide +kernel, rfl, by decide +kernel, by decide +kernel⟩
theorem sc_corner : FnScope ["kind"] ["kind"] (defScope s_corner) := ⟨rfl, rfl, rfl, by decide +kernel, rfl, by decide +kernel, by decide +kernel⟩
theorem sc_falls_at : FnScope ["program", "size", "nest", "low", "high", "down", "i", "first", "behind", "turned"] ["program", "size"] (defScope s_falls_at) := ⟨rfl, rfl, rfl, by decide +kernel, rfl, by decide +kernel, by decide +kernel⟩
theorem sc_orbit_rounds : FnScope ["nest", "size", "cells", "found", "i", "j", "first", "then"] ["nest", "size", "cells"] (defScope s_orbit_rounds) := ⟨rfl, rfl, rfl, by decide +kernel, rfl, by decide +kernel, by decide +kernel⟩
theorem sc_starts : FnScope ["count", "whole", "k"] ["count"] (defScope s_starts) := ⟨rfl, rfl, rfl, by decide +kernel, rfl, by decide +kernel, by decide +kernel⟩
theorem sc_meet_rows : FnScope ["one", "other"] ["one", "other"] (defScope s_meet_rows) := ⟨rfl, rfl, rfl, by decide +kernel, rfl, by decide +kernel, by decide +kernel⟩
theorem sc_join_rows : FnScope ["one", "other"] ["one", "other"] (defScope s_join_rows) := ⟨rfl, rfl, rfl, by decide +kernel, rfl, by decide +kernel, by decide +kernel⟩
theorem sc_moves_from : FnScope ["tables", "found", "content", "k", "table"] ["tables"] (defScope s_moves_from) := ⟨rfl, rfl, rfl, by decide +kernel, rfl, by decide +kernel, by decide +kernel⟩
theorem sc_effect_on : FnScope ["program", "size", "cell", "cells", "content", "nest", "i", "j", "deed", "image"] ["program", "size", "cell"] (defScope s_effect_on) := ⟨rfl, rfl, rfl, by decide +kernel, rfl, by decide +kernel, by decide +kernel⟩
theorem sc_bits_of : FnScope ["content", "k"] ["content"] (defScope s_bits_of) := ⟨rfl, rfl, rfl, by decide +kernel, rfl, by decide +kernel, by decide +kernel⟩
theorem sc_least_contents : FnScope ["moves", "image", "found", "content", "lesser", "k", "move"] ["moves", "image"] (defScope s_least_contents) := ⟨rfl, rfl, rfl, by decide +kernel, rfl, by decide +kernel, by decide +kernel⟩
theorem sc_Nest___init : FnScope ["self", "outer", "inner", "deeds", "parsed", "index", "deed", "known"] ["self", "outer", "inner", "deeds"] (defScope s_Nest___init) := ⟨rfl, rfl, rfl, by decide +kernel, rfl, by decide +kernel, by decide +kernel⟩
theorem sc_Program___init : FnScope ["self", "nests", "index", "nest"] ["self", "nests"] (defScope s_Program___init) := ⟨rfl, rfl, rfl, by decide +kernel, rfl, by decide +kernel, by decide +kernel⟩
theorem sc_Program_read : FnScope ["cls", "text", "nests"] ["cls", "text"] (defScope s_Program_read) := ⟨rfl, rfl, rfl, by decide +kernel, rfl, by decide +kernel, by decide +kernel⟩
theorem sc_check_program : FnScope ["value"] ["value"] (defScope s_check_program) := ⟨rfl, rfl, rfl, by decide +kernel, rfl, by decide +kernel, by decide +kernel⟩
theorem sc_read_nests : FnScope ["text", "groups", "row", "nests", "rows", "nest"] ["text"] (defScope s_read_nests) := ⟨rfl, rfl, rfl, by decide +kernel, rfl, by decide +kernel, by decide +kernel⟩
theorem sc_read_nest : FnScope ["rows", "outer", "inner", "deeds"] ["rows"] (defScope s_read_nest) := ⟨rfl, rfl, rfl, by decide +kernel, rfl, by decide +kernel, by decide +kernel⟩
theorem sc_check_listed : FnScope ["value", "most", "last", "index", "size"] ["value", "most"] (defScope s_check_listed) := ⟨rfl, rfl, rfl, by decide +kernel, rfl, by decide +kernel, by decide +kernel⟩
theorem sc_check_tail : FnScope ["value", "rest", "most"] ["value", "rest", "most"] (defScope s_check_tail) := ⟨rfl, rfl, rfl, by decide +kernel, rfl, by decide +kernel, by decide +kernel⟩
theorem sc_tail_from : FnScope ["listed", "begin"] ["listed", "begin"] (defScope s_tail_from) := ⟨rfl, rfl, rfl, by decide +kernel, rfl, by decide +kernel, by decide +kernel⟩
theorem sc_goes_on : FnScope ["tails", "size", "begin"] ["tails", "size"] (defScope s_goes_on) := ⟨rfl, rfl, rfl, by decide +kernel, rfl, by decide +kernel, by decide +kernel⟩
theorem sc_Sizes___init : FnScope ["self", "listed", "even", "odd", "most", "size"] ["self", "listed", "even", "odd", "most"] (defScope s_Sizes___init) := ⟨rfl, rfl, rfl, by decide +kernel, rfl, by decide +kernel, by decide +kernel⟩
theorem sc_Sizes___contains : FnScope ["self", "value"] ["self", "value"] (defScope s_Sizes___contains) := ⟨rfl, rfl, rfl, by decide +kernel, rfl, by decide +kernel, by decide +kernel⟩
theorem sc_sizes_where : FnScope ["truths", "many", "few", "ends", "size"] ["truths"] (defScope s_sizes_where) := ⟨rfl, rfl, rfl, by decide +kernel, rfl, by decide +kernel, by decide +kernel⟩
theorem sc_Action___init : FnScope ["self", "moves", "gaps"] ["self", "moves", "gaps"] (defScope s_Action___init) := ⟨rfl, rfl, rfl, by decide +kernel, rfl, by decide +kernel, by decide +kernel⟩
theorem sc_Action_of : FnScope ["cls", "program", "moves", "kind", "size"] ["cls", "program"] (defScope s_Action_of) := ⟨rfl, rfl, rfl, by decide +kernel, rfl, by decide +kernel, by decide +kernel⟩
theorem sc_Action_result : FnScope ["self", "size", "cell", "cells", "contents", "content", "k"] ["self", "size", "cell"] (defScope s_Action_result) := ⟨rfl, rfl, rfl, by decide +kernel, rfl, by decide +kernel, by decide +kernel⟩
theorem sc_Action_reaches : FnScope ["self", "size", "cell", "cells", "k"] ["self", "size", "cell"] (defScope s_Action_reaches) := ⟨rfl, rfl, rfl, by decide +kernel, rfl, by decide +kernel, by decide +kernel⟩
theorem sc_reached_bits : FnScope ["moves", "entry", "found", "content"] ["moves", "entry"] (defScope s_reached_bits) := ⟨rfl, rfl, rfl, by decide +kernel, rfl, by decide +kernel, by decide +kernel⟩
theorem sc_law_purl : FnScope ["_law_script", "_law_spot_here", "_law_mixed", "_law_cell", "_law_own"] ["_law_script", "_law_spot_here"] (defScope s_law_purl) := ⟨rfl, rfl, rfl, by decide +kernel, rfl, by decide +kernel, by decide +kernel⟩
theorem sc_law_dig : FnScope ["_law_purl_here", "_law_many", "_law_digit"] ["_law_purl_here", "_law_many"] (defScope s_law_dig) := ⟨rfl, rfl, rfl, by decide +kernel, rfl, by decide +kernel, by decide +kernel⟩
theorem sc_law_spots : FnScope [] [] (defScope s_law_spots) := ⟨rfl, rfl, rfl, by decide +kernel, rfl, by decide +kernel, by decide +kernel⟩
theorem sc_law_cells : FnScope ["_law_size", "_law_row", "_law_column", "_law_far_here", "_law_off", "_law_found"] ["_law_size", "_law_row", "_law_column"] (defScope s_law_cells) := ⟨rfl, rfl, rfl, by decide +kernel, rfl, by decide +kernel, by decide +kernel⟩
theorem sc_law_orbit : FnScope ["_law_size", "_law_row", "_law_column", "_law_found", "_law_cell"] ["_law_size", "_law_row", "_law_column"] (defScope s_law_orbit) := ⟨rfl, rfl, rfl, by decide +kernel, rfl, by decide +kernel, by decide +kernel⟩
theorem sc_law_end : FnScope ["_law_at", "_law_size", "_law_i", "_law_bases"] ["_law_at", "_law_size", "_law_i"] (defScope s_law_end) := ⟨rfl, rfl, rfl, by decide +kernel, rfl, by decide +kernel, by decide +kernel⟩
theorem sc_law_endtext : FnScope ["_law_at", "_law_base"] ["_law_at"] (defScope s_law_endtext) := ⟨rfl, rfl, rfl, by decide +kernel, rfl, by decide +kernel, by decide +kernel⟩
theorem sc_law_loop : FnScope ["_law_purl_here", "_law_inner", "_law_down", "_law_usual", "_law_first", "_law_second", "_law_many"] ["_law_purl_here", "_law_inner"] (defScope s_law_loop) := ⟨rfl, rfl, rfl, by decide +kernel, rfl, by decide +kernel, by decide +kernel⟩
theorem sc_law_looptext : FnScope ["_law_loop_here"] ["_law_loop_here"] (defScope s_law_looptext) := ⟨rfl, rfl, rfl, by decide +kernel, rfl, by decide +kernel, by decide +kernel⟩
theorem sc_law_deed : FnScope ["_law_purl_here", "_law_word", "_law_many", "_law_left", "_law_spots_here", "_law_k", "_law_at", "_law_guard", "_law_one", "_law_other"] ["_law_purl_here"] (defScope s_law_deed) := ⟨rfl, rfl, rfl, by decide +kernel, rfl, by decide +kernel, by decide +kernel⟩
theorem sc_law_deedtext : FnScope ["_law_deed_here", "_law_found", "_law_one", "_law_sign", "_law_other", "_law_letters_here", "_law_signs", "_law_spot_here"] ["_law_deed_here"] (defScope s_law_deedtext) := ⟨rfl, rfl, rfl, by decide +kernel, rfl, by decide +kernel, by decide +kernel⟩
theorem sc_law_nest : FnScope ["_law_purl_here", "_law_deeds_most", "_law_outer", "_law_inner", "_law_k"] ["_law_purl_here", "_law_deeds_most"] (defScope s_law_nest) := ⟨rfl, rfl, rfl, by decide +kernel, rfl, by decide +kernel, by decide +kernel⟩
theorem sc_law_plan : FnScope ["_law_purl_here", "_law_nests_most", "_law_deeds_most", "_law_k"] ["_law_purl_here", "_law_nests_most", "_law_deeds_most"] (defScope s_law_plan) := ⟨rfl, rfl, rfl, by decide +kernel, rfl, by decide +kernel, by decide +kernel⟩
theorem sc_law_text : FnScope ["_law_plan_here", "_law_rows", "_law_outer", "_law_inner", "_law_deeds", "_law_deed_here"] ["_law_plan_here"] (defScope s_law_text) := ⟨rfl, rfl, rfl, by decide +kernel, rfl, by decide +kernel, by decide +kernel⟩
theorem sc_law_steps : FnScope ["_law_loop_here", "_law_size", "_law_i", "_law_low", "_law_high", "_law_found"] ["_law_loop_here", "_law_size", "_law_i"] (defScope s_law_steps) := ⟨rfl, rfl, rfl, by decide +kernel, rfl, by decide +kernel, by decide +kernel⟩
theorem sc_law_turns : FnScope ["_law_nest_here", "_law_size", "_law_found", "_law_i", "_law_j"] ["_law_nest_here", "_law_size"] (defScope s_law_turns) := ⟨rfl, rfl, rfl, by decide +kernel, rfl, by decide +kernel, by decide +kernel⟩
theorem sc_law_out : FnScope ["_law_plan_here", "_law_size", "_law_nest_here", "_law_i", "_law_j"] ["_law_plan_here", "_law_size"] (defScope s_law_out) := ⟨rfl, rfl, rfl, by decide +kernel, rfl, by decide +kernel, by decide +kernel⟩
theorem sc_law_outfar : FnScope ["_law_plan_here", "_law_size"] ["_law_plan_here", "_law_size"] (defScope s_law_outfar) := ⟨rfl, rfl, rfl, by decide +kernel, rfl, by decide +kernel, by decide +kernel⟩
theorem sc_law_far : FnScope ["_law_purl_here", "_law_figures", "_law_found", "_law_k"] ["_law_purl_here"] (defScope s_law_far) := ⟨rfl, rfl, rfl, by decide +kernel, rfl, by decide +kernel, by decide +kernel⟩
theorem sc_law_spot : FnScope ["_law_purl_here", "_law_size", "_law_kind", "_law_row", "_law_column"] ["_law_purl_here", "_law_size"] (defScope s_law_spot) := ⟨rfl, rfl, rfl, by decide +kernel, rfl, by decide +kernel, by decide +kernel⟩
theorem sc_law_sort : FnScope ["_law_size", "_law_row", "_law_column", "_law_low", "_law_middle", "_law_high", "_law_top"] ["_law_size", "_law_row", "_law_column"] (defScope s_law_sort) := ⟨rfl, rfl, rfl, by decide +kernel, rfl, by decide +kernel, by decide +kernel⟩
theorem sc_law_letters : FnScope ["_law_size", "_law_row", "_law_column"] ["_law_size", "_law_row", "_law_column"] (defScope s_law_letters) := ⟨rfl, rfl, rfl, by decide +kernel, rfl, by decide +kernel, by decide +kernel⟩
theorem sc_law_led : FnScope ["_law_cells_here", "_law_here", "_law_there", "_law_cell"] ["_law_cells_here", "_law_here", "_law_there"] (defScope s_law_led) := ⟨rfl, rfl, rfl, by decide +kernel, rfl, by decide +kernel, by decide +kernel⟩
theorem sc_law_right : FnScope ["_law_purl_here", "_law_plan_here", "_law_size", "_law_row", "_law_column", "_law_kind", "_law_small", "_law_mine", "_law_here", "_law_there", "_law_cells_here", "_law_cell", "_law_there_cell", "_law_due", "_law_some"] ["_law_purl_here"] (defScope s_law_right) := ⟨rfl, rfl, rfl, by decide +kernel, rfl, by decide +kernel, by decide +kernel⟩
theorem sc_law : FnScope ["_law_script", "_law_spot_here"] ["_law_script"] (defScope s_law) := ⟨rfl, rfl, rfl, by decide +kernel, rfl, by decide +kernel, by decide +kernel⟩
end Sq
/-! Sq, part F1: bounds. -/
namespace Sq
open PySem PySem.Spec PyProof.Rows L2
theorem op_inkd {X : Cx} {d : Addr} (h : ∃ es n, KDict X.K X.w d es n) : OpR X (compareOp .In) (fun x y H Q => ∃ (z : Str) (r : Option Value), x = .str z ∧ y = .ref d ∧ PySem.W.nsIn X.K d z = some r ∧ Q (.bl r.isSome) H) := by
  obtain ⟨es, n, D⟩ := h
  exact op_in_kd D
theorem op_nikd {X : Cx} {d : Addr} (h : ∃ es n, KDict X.K X.w d es n) : OpR X (compareOp .NotIn) (fun x y H Q => ∃ (z : Str) (r : Option Value), x = .str z ∧ y = .ref d ∧ PySem.W.nsIn X.K d z = some r ∧ Q (.bl (!r.isSome)) H) := by
  obtain ⟨es, n, D⟩ := h
  exact op_notIn_kd D

/-! ### bounds: number n (0 to 17) -/
def baseVal (b : Nat) (n i : Int) : Int := match b with
  | 0 => 0 | 1 => n / 2 | 2 => (n + 1) / 2 | 3 => n | 4 => i | _ => n - i
def endVal (a : Nat) (n i : Int) : Int := baseVal (a / 3) n i + ((a % 3 : Nat) : Int) - 1

/-- what the top has laid -/
structure Tx (w : World) (K : PySem.W.Frag) (mg : Str → Option Value) : Prop where
  b_len : mg "len" = none
  b_range : mg "range" = none
  b_int : mg "int" = none
  b_bool : mg "bool" = none
  b_abs : mg "abs" = none
  b_min : mg "min" = none
  b_max : mg "max" = none
  b_sorted : mg "sorted" = none
  b_tuple : mg "tuple" = none
  b_list : mg "list" = none
  b_set : mg "set" = none
  b_dict : mg "dict" = none
  b_zip : mg "zip" = none
  b_isinstance : mg "isinstance" = none
  b_divmod : mg "divmod" = none
  b_str : mg "str" = none
  b_sum : mg "sum" = none
  b_any : mg "any" = none
  b_all : mg "all" = none
  b_enumerate : mg "enumerate" = none
  g_MOST_SIZE : ∃ u, mg "MOST_SIZE" = some u ∧ RelV (.int (10 ^ 30)) u
  g_MOST_NESTS : ∃ u, mg "MOST_NESTS" = some u ∧ RelV (.int 4) u
  g_MOST_DEEDS : ∃ u, mg "MOST_DEEDS" = some u ∧ RelV (.int 6) u
  g_DECIDING : ∃ u, mg "DECIDING" = some u ∧ RelV (.int 11) u
  g_OUTER_HEAD : ∃ u, mg "OUTER_HEAD" = some u ∧ RelV (.str "i from ") u
  g_INNER_HEAD : ∃ u, mg "INNER_HEAD" = some u ∧ RelV (.str "j from ") u
  g_OUTER : ∃ u, mg "OUTER" = some u ∧ RelV (.ref (He.ga K "OUTER")) u
  g_INNER : ∃ u, mg "INNER" = some u ∧ RelV (.ref (He.ga K "INNER")) u
  d_OUTER : ∃ es n, KDict K w (He.ga K "OUTER") es n
  d_INNER : ∃ es n, KDict K w (He.ga K "INNER") es n
  l_OUTER : ∀ a, a < 12 → ∃ t, KDct K w (He.ga K "OUTER") (endText a) (.ref t) ∧ ∀ H, SqT K H t [.str (baseText (a / 3)), .int (((a % 3 : Nat) : Int) - 1)]
  n_OUTER : ∀ a, 12 ≤ a → a < 18 → PySem.W.nsIn K (He.ga K "OUTER") (endText a) = some none
  l_INNER : ∀ a, 12 ≤ a → a < 18 → ∃ t, KDct K w (He.ga K "INNER") (endText a) (.ref t) ∧ ∀ H, SqT K H t [.str (baseText (a / 3)), .int (((a % 3 : Nat) : Int) - 1)]
section
variable {P : Program} {w : World} {K : PySem.W.Frag} {mg : Str → Option Value} {base : Heap}
/-! bound_value -/
def rOpt (a : Nat) (i : Int) : Rp := if a < 12 then rTop else dI i
abbrev a_bound_value : Mt → Nat × Int × Int → List Rp := fun _ z => [dS (endText z.1), dI z.2.1, rOpt z.1 z.2.2]
abbrev sp_bound_value : Sp := spF a_bound_value (fun z => z.1 < 18) (fun _ z => dI (endVal z.1 z.2.1 z.2.2))
theorem kdct_in {d : Addr} {z : Str} {v : V} (h : KDct K w d z v) : ∃ u, PySem.W.nsIn K d z = some (some u) := by
  obtain ⟨es, n, u, _, _, h, _⟩ := h
  exact ⟨u, h⟩
theorem base_eq {b : Nat} (hb : b < 6) (c : Nat) (hc : c < 6) : decide (baseText b = baseText c) = decide (b = c) := by
  have h : ∀ b, b < 6 → ∀ c, c < 6 → decide (baseText b = baseText c) = decide (b = c) := by decide +kernel
  exact h b hb c hc
theorem endVal_of {a b : Nat} {n i : Int} (h : a / 3 = b) : endVal a n i = baseVal b n i + ((a % 3 : Nat) : Int) - 1 := by unfold endVal; rw [h]
theorem opt_le {a : Nat} {i : Int} (h : 12 ≤ a) : Le (rOpt a i) (dI i) := by unfold rOpt; rw [if_neg (by omega)]; exact Le.refl _
theorem div2 {i : Int} : CDivW i 2 := ⟨by decide, by decide⟩
variable {m : Mt} {Γ : Gm} {ta tb : TE}
theorem eb_inOuter (T : Tx w K mg) {a : Nat} (ha : a < 18) (h1 : EvG m ta Γ (dS (endText a))) (h2 : EvG m tb Γ (rV (.ref (He.ga K "OUTER")))) :
    EvB m (tTest (tOp (fun x y H Q => ∃ (z : Str) (r : Option Value), x = .str z ∧ y = .ref (He.ga K "OUTER") ∧ PySem.W.nsIn K (He.ga K "OUTER") z = some r ∧ Q (.bl r.isSome) H) ta tb)) Γ (· = decide (a < 12)) :=
  eb_test (ev_op h1 h2 (bin_now fun B H x y _ hx hy => ⟨_, rfl, fun Q q => by
    by_cases z : a < 12
    · obtain ⟨t, k, _⟩ := T.l_OUTER a z
      obtain ⟨u, hu⟩ := kdct_in k
      exact ⟨endText a, some u, hx, hy, hu, by rw [decide_eq_true z] at q; exact q⟩
    · exact ⟨endText a, none, hx, hy, T.n_OUTER a (by omega) ha, by rw [decide_eq_false z] at q; exact q⟩⟩))
theorem ev_ixkd {d : Addr} {z : Str} {v : V} (h : KDct K w d z v) (h1 : EvG m ta Γ (rV (.ref d))) (h2 : EvG m tb Γ (dS z)) : EvG m (tOp (rIxD K w) ta tb) Γ (rV v) :=
  ev_op h1 h2 (bin_now fun B H x y _ hx hy => ⟨v, rfl, fun Q q => ⟨d, z, v, hx, hy, h, q⟩⟩)
theorem c_bound_value (T : Tx w K mg) (D : Df K mg "bound_value" "bound_value" s_bound_value) : Cal P w K mg base 1 "bound_value" sp_bound_value := by
  refine cal_of D sc_bound_value (fun _ _ _ _ _ _ us hl => match us, hl with | [_, _, _], _ => rfl) (fun _ _ => rfl) (by decide) (fun f cdv A outer s H E hr => ⟨_, (pss_cons (ps_asg (pe_ifExp (pt_cmpR (op_inkd T.d_OUTER) (pv 0) (C8.pe_gc (by rfl) T.g_OUTER) (by rfl)) (pe_ix ix_kdict (C8.pe_gc (by rfl) T.g_OUTER) (pv 0) (fun _ _ => rfl)) (pe_ix ix_kdict (C8.pe_gc (by rfl) T.g_INNER) (pv 0) (fun _ _ => rfl))) (pg_unK (K := K) rfl rfl rfl rfl (pgs_cons (pg_nameX (i := 3) sc_bound_value.nd rfl (.inl rfl) (.inr rfl)) (pgs_cons (pg_nameX (i := 4) sc_bound_value.nd rfl (.inl rfl) (.inr rfl)) pgs_nil))))
  (pss_cons (ps_if (pt_cmpR (op_eqK (K := K) hr rfl rfl) (pv 3) pe_str (nomark _))
  (pss_cons (ps_ret (pe_op op_addA (pv 2) (pv 4)))
  pss_nil)
  pss_nil)
  (pss_cons (ps_if (pt_cmpR (op_eqK (K := K) hr rfl rfl) (pv 3) pe_str (nomark _))
  (pss_cons (ps_ret (pe_op op_addA (pe_op op_sub (pv 1) (pv 2)) (pv 4)))
  pss_nil)
  pss_nil)
  (pss_cons (ps_if (pt_cmpR (op_eqK (K := K) hr rfl rfl) (pv 3) pe_str (nomark _))
  (pss_cons (ps_ret (pe_op op_addA (pe_op op_fdivW (pv 1) pe_int) (pv 4)))
  pss_nil)
  pss_nil)
  (pss_cons (ps_if (pt_cmpR (op_eqK (K := K) hr rfl rfl) (pv 3) pe_str (nomark _))
  (pss_cons (ps_ret (pe_op op_addA (pe_op op_fdivW (pe_op op_addA (pv 1) pe_int) pe_int) (pv 4)))
  pss_nil)
  pss_nil)
  (pss_cons (ps_ret (pe_ifExp (pt_cmpR (op_eqK (K := K) hr rfl rfl) (pv 3) pe_str (nomark _)) (pe_op op_addA (pv 1) (pv 4)) (pv 4)))
  pss_nil)))))), fun m B0 H0 ⟨a, n, i⟩ Q hp ha q => ?_⟩)
  have hb : a / 3 < 6 := by have : a < 18 := ha; omega
  refine st_asg (R := rT K [dS (baseText (a / 3)), dI (((a % 3 : Nat) : Int) - 1)]) (ev_if (eb_inOuter T ha (vr 0) ev_c) (fun h => ?_) (fun h => ?_)) (tg_unT tgs2) ?_
  · obtain ⟨t, k, hT⟩ := T.l_OUTER a (of_decide_eq_true h.symm)
    exact (ev_ixkd k ev_c (vr 0)).le fun B v e => ⟨t, _, e, hT B, _, _, rfl, rfl, _, _, rfl, rfl, rfl⟩
  · obtain ⟨t, k, hT⟩ := T.l_INNER a (by have := of_decide_eq_false h.symm; omega) ha
    exact (ev_ixkd k ev_c (vr 0)).le fun B v e => ⟨t, _, e, hT B, _, _, rfl, rfl, _, _, rfl, rfl, rfl⟩
  refine st_if (eb_test (ev_eqS (vr 3) kS)) (fun h => ?_) (fun h => st_nxt ?_)
  · have e : a / 3 = 4 := of_decide_eq_true ((base_eq hb 4 (by decide)).symm.trans h.symm)
    exact st_ret ((ev_add ((vr 2).le (opt_le (by omega))) (vr 4)).to (congrArg dI (by rw [endVal_of e]; show i + _ = i + _ - 1; omega))) q
  have e1 : ¬ a / 3 = 4 := of_decide_eq_false ((base_eq hb 4 (by decide)).symm.trans h.symm)
  refine st_if (eb_test (ev_eqS (vr 3) kS)) (fun h => ?_) (fun h => st_nxt ?_)
  · have e : a / 3 = 5 := of_decide_eq_true ((base_eq hb 5 (by decide)).symm.trans h.symm)
    exact st_ret ((ev_add (ev_sub (vr 1) ((vr 2).le (opt_le (by omega)))) (vr 4)).to (congrArg dI (by rw [endVal_of e]; show n - i + _ = n - i + _ - 1; omega))) q
  have e2 : ¬ a / 3 = 5 := of_decide_eq_false ((base_eq hb 5 (by decide)).symm.trans h.symm)
  refine st_if (eb_test (ev_eqS (vr 3) kS)) (fun h => ?_) (fun h => st_nxt ?_)
  · have e : a / 3 = 1 := of_decide_eq_true ((base_eq hb 1 (by decide)).symm.trans h.symm)
    exact st_ret ((ev_add (ev_fdiv (vr 1) kI div2) (vr 4)).to (congrArg dI (by rw [endVal_of e]; show n / 2 + _ = n / 2 + _ - 1; omega))) q
  have e3 : ¬ a / 3 = 1 := of_decide_eq_false ((base_eq hb 1 (by decide)).symm.trans h.symm)
  refine st_if (eb_test (ev_eqS (vr 3) kS)) (fun h => ?_) (fun h => st_nxt ?_)
  · have e : a / 3 = 2 := of_decide_eq_true ((base_eq hb 2 (by decide)).symm.trans h.symm)
    exact st_ret ((ev_add (ev_fdiv (ev_add (vr 1) kI) kI div2) (vr 4)).to (congrArg dI (by rw [endVal_of e]; show (n + 1) / 2 + _ = (n + 1) / 2 + _ - 1; omega))) q
  have e4 : ¬ a / 3 = 2 := of_decide_eq_false ((base_eq hb 2 (by decide)).symm.trans h.symm)
  refine st_ret (ev_if (eb_test (ev_eqS (vr 3) kS)) (fun h => ?_) (fun h => ?_)) q
  · have e : a / 3 = 3 := of_decide_eq_true ((base_eq hb 3 (by decide)).symm.trans h.symm)
    exact (ev_add (vr 1) (vr 4)).to (congrArg dI (by rw [endVal_of e]; show n + _ = n + _ - 1; omega))
  · have e5 : ¬ a / 3 = 3 := of_decide_eq_false ((base_eq hb 3 (by decide)).symm.trans h.symm)
    have e : a / 3 = 0 := by omega
    exact (vr 4).to (congrArg dI (by rw [endVal_of e]; show _ = (0 : Int) + _ - 1; omega))

/-! is_bound -/
abbrev a_is_bound : Mt → Nat × Bool → List Rp := fun _ z => [dS (endText z.1), dB z.2]
abbrev sp_is_bound : Sp := spF a_is_bound (fun z => z.1 < 18 ∧ (z.2 = true ∨ z.1 < 12)) (fun _ _ => dB true)
theorem ev_inInner (T : Tx w K mg) {a : Nat} (ha : 12 ≤ a ∧ a < 18) (h1 : EvG m ta Γ (dS (endText a))) (h2 : EvG m tb Γ (rV (.ref (He.ga K "INNER")))) :
    EvG m (tOp (fun x y H Q => ∃ (z : Str) (r : Option Value), x = .str z ∧ y = .ref (He.ga K "INNER") ∧ PySem.W.nsIn K (He.ga K "INNER") z = some r ∧ Q (.bl r.isSome) H) ta tb) Γ (dB true) :=
  ev_op h1 h2 (bin_now fun B H x y _ hx hy => ⟨_, rfl, fun Q q => by
    obtain ⟨t, k, _⟩ := T.l_INNER a ha.1 ha.2
    obtain ⟨u, hu⟩ := kdct_in k
    exact ⟨endText a, some u, hx, hy, hu, q⟩⟩)
theorem ev_inOuter (T : Tx w K mg) {a : Nat} (ha : a < 18) (h1 : EvG m ta Γ (dS (endText a))) (h2 : EvG m tb Γ (rV (.ref (He.ga K "OUTER")))) :
    EvG m (tOp (fun x y H Q => ∃ (z : Str) (r : Option Value), x = .str z ∧ y = .ref (He.ga K "OUTER") ∧ PySem.W.nsIn K (He.ga K "OUTER") z = some r ∧ Q (.bl r.isSome) H) ta tb) Γ (dB (decide (a < 12))) :=
  ev_op h1 h2 (bin_now fun B H x y _ hx hy => ⟨_, rfl, fun Q q => by
    by_cases z : a < 12
    · obtain ⟨t, k, _⟩ := T.l_OUTER a z
      obtain ⟨u, hu⟩ := kdct_in k
      exact ⟨endText a, some u, hx, hy, hu, by rw [decide_eq_true z] at q; exact q⟩
    · exact ⟨endText a, none, hx, hy, T.n_OUTER a (by omega) ha, by rw [decide_eq_false z] at q; exact q⟩⟩)
theorem c_is_bound (T : Tx w K mg) (D : Df K mg "is_bound" "is_bound" s_is_bound) : Cal P w K mg base 1 "is_bound" sp_is_bound := by
  refine cal_of D sc_is_bound (fun _ _ _ _ _ _ us hl => match us, hl with | [_, _], _ => rfl) (fun _ _ => rfl) (by decide) (fun f cdv A outer s H E hr => ⟨_, (pss_cons (ps_ret (pe_or (pe_cmpR (op_inkd T.d_OUTER) (pv 0) (C8.pe_gc (by rfl) T.g_OUTER) (by rfl)) (pe_one (pe_and (pv 1) (pe_one (pe_cmpR (op_inkd T.d_INNER) (pv 0) (C8.pe_gc (by rfl) T.g_INNER) (by rfl)))))))
  pss_nil), fun m B0 H0 ⟨a, n⟩ Q hp ha q => ?_⟩)
  refine st_ret ((ev_orE (ev_inOuter T ha.1 (vr 0) ev_c) (fun h => ?_)).to (R := dB (decide (a < 12) || !decide (a < 12))) (congrArg dB ?_)) q
  · have h' : 12 ≤ a := by have := of_decide_eq_false h; omega
    have hn : n = true := ha.2.resolve_right (by omega)
    subst hn
    exact (ev_andE (vr 1) fun _ => ev_inInner T ⟨h', ha.1⟩ (vr 0) ev_c).to (congrArg dB (by rw [h] <;> rfl))
  · rw [Bool.or_not_self]

/-! loops: first bound, second bound, down -/
abbrev Lp := Nat × Nat × Bool
def loopText (l : Lp) : Str := endText l.1 ++ " to " ++ endText l.2.1 ++ (if l.2.2 then (" down" : Str) else ("" : Str))
def LpOk (inner : Bool) (l : Lp) : Prop := l.1 < 18 ∧ l.2.1 < 18 ∧ (inner = true ∨ (l.1 < 12 ∧ l.2.1 < 12))
def lo (l : Lp) (n i : Int) : Int := endVal l.1 n i
def hi (l : Lp) (n i : Int) : Int := if endVal l.2.1 n i > endVal l.1 n i then endVal l.2.1 n i else endVal l.1 n i
def loopWords (l : Lp) : List Str := endText l.1 :: ("to" : Str) :: endText l.2.1 :: (if l.2.2 then [("down" : Str)] else [])
theorem split_codes {x y : Str} (hb : y.cps.toList ≠ []) (hk : y.cps.toList.all (· < 256) = true) : Txt.split x y = (TL.spl y.cps.toList 0 [] x.cps.toList).map SX.S := by
  have h := SX.split_S (a := x.cps.toList) hb hk
  rw [SX.S_tl, SX.S_tl] at h
  exact h
theorem app_codes (x y : Str) : (x ++ y).cps.toList = x.cps.toList ++ y.cps.toList := TL.tl_append x y
theorem app_assoc (x y z : Str) : x ++ y ++ z = x ++ (y ++ z) := TL.ext_tl (by rw [TL.tl_append, TL.tl_append, TL.tl_append, TL.tl_append, List.append_assoc])
theorem app_len (x y : Str) : (x ++ y).length = x.length + y.length := by
  show (x ++ y).cps.size = x.cps.size + y.cps.size
  rw [← Array.length_toList, ← Array.length_toList, ← Array.length_toList, app_codes, List.length_append]
theorem end_no32 {a : Nat} (h : a < 18) : 32 ∉ (endText a).cps.toList := by
  have h' : ∀ a, a < 18 → 32 ∉ (endText a).cps.toList := by decide +kernel
  exact h' a h
theorem end_len {a : Nat} (h : a < 18) : 1 ≤ (endText a).length ∧ (endText a).length ≤ 12 := by
  have h' : ∀ a, a < 18 → 1 ≤ (endText a).length ∧ (endText a).length ≤ 12 := by decide +kernel
  exact h' a h
theorem spl32 {p : List Nat} (q : List Nat) (h : 32 ∉ p) : TL.spl [32] 0 [] (p ++ ([32] ++ q)) = p :: TL.spl [32] 0 [] q := SX.spl_free q (by decide) (SX.free_head h)
theorem spl32e {p : List Nat} (h : 32 ∉ p) : TL.spl [32] 0 [] p = [p] := by
  have e := SX.spl_join (c := 32) (sep := []) (parts := [p]) (List.cons_ne_nil _ _) (fun x hx => by rw [List.mem_singleton.mp hx]; exact h)
  exact e
theorem loop_split {l : Lp} (h1 : l.1 < 18) (h2 : l.2.1 < 18) : Txt.split (loopText l) " " = loopWords l := by
  rw [split_codes (by decide) (by decide)]
  have e : TL.spl [32] 0 [] (loopText l).cps.toList = (loopWords l).map fun x => x.cps.toList := by
    obtain ⟨a, b, d⟩ := l
    show TL.spl [32] 0 [] (endText a ++ " to " ++ endText b ++ (if d then (" down" : Str) else ("" : Str))).cps.toList = _
    rw [app_codes, app_codes, app_codes, List.append_assoc, List.append_assoc]
    have e1 : (" to " : Str).cps.toList = [32] ++ ([116, 111] ++ ([32] ++ [])) := by decide +kernel
    rw [e1, List.append_assoc, List.append_assoc, List.append_assoc, List.nil_append, spl32 _ (end_no32 h1), spl32 _ (by decide)]
    cases d with
    | false =>
      show _ :: [116, 111] :: TL.spl [32] 0 [] ((endText b).cps.toList ++ ("" : Str).cps.toList) = _
      rw [show ("" : Str).cps.toList = [] by decide +kernel, List.append_nil, spl32e (end_no32 h2)]
      show _ = [(endText a).cps.toList, ("to" : Str).cps.toList, (endText b).cps.toList]
      rw [show ("to" : Str).cps.toList = [116, 111] by decide +kernel]
    | true =>
      show _ :: [116, 111] :: TL.spl [32] 0 [] ((endText b).cps.toList ++ (" down" : Str).cps.toList) = _
      rw [show (" down" : Str).cps.toList = [32] ++ ("down" : Str).cps.toList by decide +kernel, spl32 _ (end_no32 h2), spl32e (by decide +kernel)]
      show _ = [(endText a).cps.toList, ("to" : Str).cps.toList, (endText b).cps.toList, ("down" : Str).cps.toList]
      rw [show ("to" : Str).cps.toList = [116, 111] by decide +kernel]
  show (TL.spl [32] 0 [] (loopText l).cps.toList).map SX.S = _
  rw [e, List.map_map]
  exact (List.map_congr_left fun x _ => SX.S_tl x).trans (List.map_id _)
theorem loop_down {l : Lp} (h1 : l.1 < 18) (h2 : l.2.1 < 18) : Txt.endswith (loopText l) " down" = l.2.2 := by
  unfold loopText
  have h : ∀ b, b < 18 → ∀ d, (" down" : Str).length ≤ ((" to " : Str) ++ (endText b ++ (if d then (" down" : Str) else ("" : Str)))).length ∧ Txt.endswith ((" to " : Str) ++ (endText b ++ (if d then (" down" : Str) else ("" : Str)))) " down" = d := by decide +kernel
  obtain ⟨k1, k2⟩ := h l.2.1 h2 l.2.2
  rw [app_assoc, app_assoc, PySem.W.KAf.ends_right k1]
  exact k2
theorem loop_len {l : Lp} (h1 : l.1 < 18) (h2 : l.2.1 < 18) : (loopText l).length ≤ 40 := by
  unfold loopText
  rw [app_len, app_len, app_len]
  have a1 := (end_len h1).2
  have a2 := (end_len h2).2
  have a3 : ∀ d, (if d = true then (" down" : Str) else ("" : Str)).length ≤ 5 := by decide +kernel
  have a4 : (" to " : Str).length = 4 := by decide +kernel
  have := a3 l.2.2
  omega
abbrev a_goes_down : Mt → Lp → List Rp := fun _ z => [dS (loopText z)]
abbrev sp_goes_down : Sp := spF a_goes_down (fun z => LpOk true z) (fun _ z => dB z.2.2)
theorem c_goes_down (D : Df K mg "goes_down" "goes_down" s_goes_down) : Cal P w K mg base 1 "goes_down" sp_goes_down := by
  refine cal_of D sc_goes_down (fun _ _ _ _ _ _ us hl => match us, hl with | [_], _ => rfl) (fun _ _ => rfl) (by decide) (fun f cdv A outer s H E hr => ⟨_, (pss_cons (ps_ret (pe_m1 PySem.F.slot_str_endswith PySem.F.type_str_endswith mt_endswith (pv 0) pe_str))
  pss_nil), fun m B0 H0 l Q hp ha q => ?_⟩)
  exact st_ret ((ev_ends (vr 0) kS).to (congrArg dB (loop_down ha.1 ha.2.1))) q
def rOpt2 (l : Lp) (i : Int) : Rp := if l.1 < 12 ∧ l.2.1 < 12 then rTop else dI i
theorem opt2_1 {l : Lp} {i : Int} : Le (rOpt2 l i) (rOpt l.1 i) := by
  unfold rOpt2 rOpt
  by_cases h : l.1 < 12
  · rw [if_pos h]; exact fun _ _ _ => trivial
  · rw [if_neg h, if_neg fun z => h z.1]; exact Le.refl _
theorem opt2_2 {l : Lp} {i : Int} : Le (rOpt2 l i) (rOpt l.2.1 i) := by
  unfold rOpt2 rOpt
  by_cases h : l.2.1 < 12
  · rw [if_pos h]; exact fun _ _ _ => trivial
  · rw [if_neg h, if_neg fun z => h z.2]; exact Le.refl _
abbrev a_loop_range : Mt → Lp × Int × Int → List Rp := fun _ z => [dS (loopText z.1), dI z.2.1, rOpt2 z.1 z.2.2]
abbrev sp_loop_range : Sp := spF a_loop_range (fun z => LpOk true z.1) (fun _ z => rT K [dI (lo z.1 z.2.1 z.2.2), dI (hi z.1 z.2.1 z.2.2), dB z.1.2.2])
theorem words_0 {l : Lp} : ((loopWords l).map dS)[0]? = some (dS (endText l.1)) := rfl
theorem words_2 {l : Lp} : ((loopWords l).map dS)[2]? = some (dS (endText l.2.1)) := rfl
theorem c_loop_range (T : Tx w K mg) (c_bound_value : Cal P w K mg base 1 "bound_value" sp_bound_value) (c_goes_down : Cal P w K mg base 1 "goes_down" sp_goes_down) (D : Df K mg "loop_range" "loop_range" s_loop_range) : Cal P w K mg base 2 "loop_range" (sp_loop_range (K := K)) := by
  refine cal_of D sc_loop_range (fun _ _ _ _ _ _ us hl => match us, hl with | [_, _, _], _ => rfl) (fun _ _ => rfl) (by decide) (fun f cdv A outer s H E hr => ⟨_, (pss_cons (ps_set (i := 3) sc_loop_range.nd rfl (.inl rfl) (pe_split (pv 0) pe_str))
  (pss_cons (ps_set (i := 4) sc_loop_range.nd rfl (.inl rfl) (pe_cal c_bound_value hr (by decide) (by rfl) (pa_cons (pe_ix (ix_seqK (K := K) rfl) (pv 3) pe_int (fun _ _ => rfl)) (pa_cons (pv 1) (pa_cons (pv 2) pa_nil)))))
  (pss_cons (ps_ret (pe_tup (pa_cons (pv 4) (pa_cons (pe_callB (call_max2 rfl) (by rfl) T.b_max (by decide +kernel) (pa_cons (pv 4) (pa_cons (pe_cal c_bound_value hr (by decide) (by rfl) (pa_cons (pe_ix (ix_seqK (K := K) rfl) (pv 3) pe_int (fun _ _ => rfl)) (pa_cons (pv 1) (pa_cons (pv 2) pa_nil)))) pa_nil))) (pa_cons (pe_cal c_goes_down hr (by decide) (by rfl) (pa_cons (pv 0) pa_nil)) pa_nil)))))
  pss_nil))), fun m B0 H0 ⟨l, n, i⟩ Q hp ha q => ?_⟩)
  refine st_set (R := rL ((loopWords l).map dS)) ((ev_split (vr 0) kS (by decide) (Nat.le_trans (Nat.add_le_add_right (loop_len ha.1 ha.2.1) 2) (by decide))).to (by rw [loop_split ha.1 ha.2.1])) ?_
  refine st_set (R := dI (lo l n i)) (ev_call (l.1, n, i) ha.1 (ea_cons (ev_ixL (vr 3) kI (atN (n := 0) words_0)) (ea_cons (vr 1) (ea_cons ((vr 2).le opt2_1) ea_nil)))) ?_
  exact st_ret (ev_tup (ea_cons (vr 4) (ea_cons (ev_max (vr 4) (ev_call (l.2.1, n, i) ha.2.1 (ea_cons (ev_ixL (vr 3) kI (atN (n := 2) words_2)) (ea_cons (vr 1) (ea_cons ((vr 2).le opt2_2) ea_nil))))) (ea_cons (ev_call l ha (ea1 (vr 0))) ea_nil)))) q
abbrev a_in_loop : Mt → Lp × Int × Int × Int → List Rp := fun _ z => [dS (loopText z.1), dI z.2.1, rOpt2 z.1 z.2.2.1, dI z.2.2.2]
abbrev sp_in_loop : Sp := spF a_in_loop (fun z => LpOk true z.1) (fun _ z => dB (decide (lo z.1 z.2.1 z.2.2.1 ≤ z.2.2.2) && decide (z.2.2.2 < hi z.1 z.2.1 z.2.2.1)))
theorem c_in_loop (c_loop_range : Cal P w K mg base 2 "loop_range" (sp_loop_range (K := K))) (D : Df K mg "in_loop" "in_loop" s_in_loop) : Cal P w K mg base 3 "in_loop" sp_in_loop := by
  refine cal_of D sc_in_loop (fun _ _ _ _ _ _ us hl => match us, hl with | [_, _, _, _], _ => rfl) (fun _ _ => rfl) (by decide) (fun f cdv A outer s H E hr => ⟨_, (pss_cons (ps_asg (pe_cal c_loop_range hr (by decide) (by rfl) (pa_cons (pv 0) (pa_cons (pv 1) (pa_cons (pv 2) pa_nil)))) (pg_unK (K := K) rfl rfl rfl rfl (pgs_cons (pg_nameX (i := 4) sc_in_loop.nd rfl (.inl rfl) (.inr rfl)) (pgs_cons (pg_nameX (i := 5) sc_in_loop.nd rfl (.inl rfl) (.inr rfl)) (pgs_cons (pg_nameX (i := 6) sc_in_loop.nd rfl (.inl rfl) (.inr rfl)) pgs_nil)))))
  (pss_cons (ps_ret (pe_chain op_le op_lt (pv 4) (pv 3) (pv 5)))
  pss_nil)), fun m B0 H0 ⟨l, n, i, x⟩ Q hp ha q => ?_⟩)
  refine st_asg (ev_call (l, n, i) ha (ea_cons (vr 0) (ea_cons (vr 1) (ea_cons (vr 2) ea_nil)))) (tg_unT tgs3) ?_
  exact st_ret (ev_chain (vr 4) (vr 3) bI0 (fun _ => vr 5) (fun _ => bI0)) q
abbrev a_is_loop : Mt → Lp × Bool → List Rp := fun _ z => [dS (loopText z.1), dB z.2]
abbrev sp_is_loop : Sp := spF a_is_loop (fun z => LpOk z.2 z.1) (fun _ _ => dB true)
theorem ev_isStr {x : Str} (ha : EvG m ta Γ (dS x)) : EvG m (tCB (rIsi K) (tCons ta (tCons (tC (.ty "str")) tNil))) Γ (dB true) :=
  ev_isi ha ev_c (.ty "str") (fun B H v hp h => by rw [show v = .str x from h]; exact .base (.str x)) (kit_ty (by decide +kernel))
theorem c_is_loop (T : Tx w K mg) (c_is_bound : Cal P w K mg base 1 "is_bound" sp_is_bound) (D : Df K mg "is_loop" "is_loop" s_is_loop) : Cal P w K mg base 2 "is_loop" sp_is_loop := by
  refine cal_of D sc_is_loop (fun _ _ _ _ _ _ us hl => match us, hl with | [_, _], _ => rfl) (fun _ _ => rfl) (by decide) (fun f cdv A outer s H E hr => ⟨_, (pss_cons (ps_if (pt_not (pt_val (pe_callB call_isi (by rfl) T.b_isinstance (by decide +kernel) (pa_cons (pv 0) (pa_cons (pe_bltn (v := .ty "str") (by rfl) T.b_str (by decide +kernel) rfl) pa_nil)))))
  (pss_cons (ps_ret pe_bl)
  pss_nil)
  pss_nil)
  (pss_cons (ps_set (i := 2) sc_is_loop.nd rfl (.inl rfl) (pe_split (pv 0) pe_str))
  (pss_cons (ps_if (PW.pt (pw_and (pt_cmpR (op_eqK (K := K) hr rfl rfl) (pe_callB (call_lenK (K := K) rfl) (by rfl) T.b_len (by decide +kernel) (pa_cons (pv 2) pa_nil)) pe_int (nomark _)) (pw_and1 (pt_cmpR (op_eqK (K := K) hr rfl rfl) (pe_ix (ix_seqK (K := K) rfl) (pv 2) pe_int (fun _ _ => rfl)) pe_str (nomark _)))))
  (pss_cons (ps_set (i := 2) sc_is_loop.nd rfl (.inl rfl) (pe_slice (sl_seqK (K := K) rfl) (pv 2) po_none (po_some pe_int)))
  pss_nil)
  pss_nil)
  (pss_cons (ps_if (PW.pt (pw_or (pt_cmpR (op_neK (K := K) hr rfl rfl) (pe_callB (call_lenK (K := K) rfl) (by rfl) T.b_len (by decide +kernel) (pa_cons (pv 2) pa_nil)) pe_int (nomark _)) (pw_or1 (pt_cmpR (op_neK (K := K) hr rfl rfl) (pe_ix (ix_seqK (K := K) rfl) (pv 2) pe_int (fun _ _ => rfl)) pe_str (nomark _)))))
  (pss_cons (ps_ret pe_bl)
  pss_nil)
  pss_nil)
  (pss_cons (ps_ret (pe_and (pe_cal c_is_bound hr (by decide) (by rfl) (pa_cons (pe_ix (ix_seqK (K := K) rfl) (pv 2) pe_int (fun _ _ => rfl)) (pa_cons (pv 1) pa_nil))) (pe_one (pe_cal c_is_bound hr (by decide) (by rfl) (pa_cons (pe_ix (ix_seqK (K := K) rfl) (pv 2) pe_int (fun _ _ => rfl)) (pa_cons (pv 1) pa_nil))))))
  pss_nil))))), fun m B0 H0 ⟨⟨a, b, d⟩, n⟩ Q hp ha q => ?_⟩)
  refine st_if (eb_notE (eb_B (ev_isStr (vr 0)))) (fun h => nomatch h) (fun _ => st_nxt ?_)
  refine st_set (R := rL ((loopWords (a, b, d)).map dS)) ((ev_split (vr 0) kS (by decide) (Nat.le_trans (Nat.add_le_add_right (loop_len ha.1 ha.2.1) 2) (by decide))).to (by rw [loop_split ha.1 ha.2.1])) ?_
  cases d with
  | false =>
    refine st_if (eb_to (eb_andE (b := false) (c := false) (eb_test ((ev_eqI (ev_lenL (vr 2)) kI).to rfl)) (fun h => nomatch h)) rfl) (fun h => nomatch h) (fun _ => st_nxt ?_)
    refine st_if (eb_to (eb_orE (b := false) (c := false) (eb_test ((ev_neI (ev_lenL (vr 2)) kI).to rfl)) (fun _ => eb_test ((ev_neS (ev_ixL (vr 2) kI (atN (n := 1) rfl)) kS).to (congrArg dB (by decide +kernel))))) rfl) (fun h => nomatch h) (fun _ => st_nxt ?_)
    exact st_ret (ev_andE (ev_call (a, n) ⟨ha.1, ha.2.2.imp id (fun h => h.1)⟩ (ea2 (ev_ixL (vr 2) kI (atN (n := 0) rfl)) (vr 1))) (fun _ => ev_call (b, n) ⟨ha.2.1, ha.2.2.imp id (fun h => h.2)⟩ (ea2 (ev_ixL (vr 2) kI (atN (n := 2) rfl)) (vr 1)))) q
  | true =>
    refine st_if (eb_to (eb_andE (b := true) (c := true) (eb_test ((ev_eqI (ev_lenL (vr 2)) kI).to rfl)) (fun _ => eb_test ((ev_eqS (ev_ixL (vr 2) kI (atN (n := 3) rfl)) kS).to (congrArg dB (by decide +kernel))))) rfl) (fun _ => ?_) (fun h => nomatch h)
    refine st_set (R := rL [dS (endText a), dS "to", dS (endText b)]) ((ev_sliceL (vr 2) ep_no (ep_some kI)).to rfl) (st_nxt ?_)
    refine st_if (eb_to (eb_orE (b := false) (c := false) (eb_test ((ev_neI (ev_lenL (vr 2)) kI).to rfl)) (fun _ => eb_test ((ev_neS (ev_ixL (vr 2) kI (atN (n := 1) rfl)) kS).to (congrArg dB (by decide +kernel))))) rfl) (fun h => nomatch h) (fun _ => st_nxt ?_)
    exact st_ret (ev_andE (ev_call (a, n) ⟨ha.1, ha.2.2.imp id (fun h => h.1)⟩ (ea2 (ev_ixL (vr 2) kI (atN (n := 0) rfl)) (vr 1))) (fun _ => ev_call (b, n) ⟨ha.2.1, ha.2.2.imp id (fun h => h.2)⟩ (ea2 (ev_ixL (vr 2) kI (atN (n := 2) rfl)) (vr 1)))) q
end
end Sq
/-! Sq, part F2: values and orbits. -/
namespace Sq
open PySem PySem.Spec PyProof.Rows L2
theorem tyx_tup {K : PySem.W.Frag} {H : Hp} {a : Addr} {xs : List V} (h : SqT K H a xs) : TyX K H (.ref a) (.type "tuple") := by
  rcases h with (h | ⟨o, h⟩) | ⟨o, its, n, h1, h2, _⟩
  · exact .base (.tup h)
  · exact .fTuple h
  · exact .kTuple h1 h2
section
variable {P : Program} {w : World} {K : PySem.W.Frag} {mg : Str → Option Value} {base : Heap} {m : Mt} {Γ : Gm} {ta tb te : TE}
theorem ev_isInt {i : Int} (ha : EvG m ta Γ (dI i)) : EvG m (tCB (rIsi K) (tCons ta (tCons (tC (.ty "int")) tNil))) Γ (dB true) :=
  ev_isi ha ev_c (.ty "int") (fun B H v hp h => by rw [show v = .int i from h]; exact .base (.int i)) (kit_ty (by decide +kernel))
theorem ev_isBoolI {i : Int} (ha : EvG m ta Γ (dI i)) : EvG m (tCB (rIsi K) (tCons ta (tCons (tC (.ty "bool")) tNil))) Γ (dB false) :=
  ev_isi ha ev_c (.ty "bool") (fun B H v hp h => by rw [show v = .int i from h]; exact .base (.int i)) (kit_ty (by decide +kernel))
theorem ev_isTup {Rs : List Rp} (ha : EvG m ta Γ (rT K Rs)) : EvG m (tCB (rIsi K) (tCons ta (tCons (tC (.ty "tuple")) tNil))) Γ (dB true) :=
  ev_isi ha ev_c (.ty "tuple") (fun B H v hp h => by obtain ⟨a, xs, e, ea, _⟩ := h; rw [e]; exact tyx_tup (hp.sub.sqT ea)) (kit_ty (by decide +kernel))
/-! is_integer, within -/
abbrev a_is_integer : Mt → Int → List Rp := fun _ z => [dI z]
abbrev sp_is_integer : Sp := spF a_is_integer (fun _ => True) (fun _ _ => dB true)
theorem c_is_integer (T : Tx w K mg) (D : Df K mg "is_integer" "is_integer" s_is_integer) : Cal P w K mg base 1 "is_integer" sp_is_integer := by
  refine cal_of D sc_is_integer (fun _ _ _ _ _ _ us hl => match us, hl with | [_], _ => rfl) (fun _ _ => rfl) (by decide) (fun f cdv A outer s H E hr => ⟨_, (pss_cons (ps_ret (pe_and (pe_callB call_isi (by rfl) T.b_isinstance (by decide +kernel) (pa_cons (pv 0) (pa_cons (pe_bltn (v := .ty "int") (by rfl) T.b_int (by decide +kernel) rfl) pa_nil))) (pe_one (pe_not (pe_callB call_isi (by rfl) T.b_isinstance (by decide +kernel) (pa_cons (pv 0) (pa_cons (pe_bltn (v := .ty "bool") (by rfl) T.b_bool (by decide +kernel) rfl) pa_nil)))))))
  pss_nil), fun m B0 H0 n Q hp ha q => ?_⟩)
  exact st_ret (ev_andE (ev_isInt (vr 0)) fun _ => ev_notE (ev_isBoolI (vr 0))) q
abbrev a_within : Mt → Int × Int × Int → List Rp := fun _ z => [dI z.1, dI z.2.1, dI z.2.2]
abbrev sp_within : Sp := spF a_within (fun _ => True) (fun _ z => dB (decide (z.2.1 ≤ z.1) && decide (z.1 ≤ z.2.2)))
theorem c_within {y : Str} (c_is_integer : Cal P w K mg base 1 "is_integer" sp_is_integer) (D : Df K mg y "within" s_within) : Cal P w K mg base 2 y sp_within := by
  refine cal_of D sc_within (fun _ _ _ _ _ _ us hl => match us, hl with | [_, _, _], _ => rfl) (fun _ _ => rfl) (by decide) (fun f cdv A outer s H E hr => ⟨_, (pss_cons (ps_ret (pe_and (pe_cal c_is_integer hr (by decide) (by rfl) (pa_cons (pv 0) pa_nil)) (pe_one (pe_chain op_le op_le (pv 1) (pv 0) (pv 2)))))
  pss_nil), fun m B0 H0 ⟨v, l, u⟩ Q hp ha q => ?_⟩)
  exact st_ret (ev_andE (ev_call v trivial (ea1 (vr 0))) fun _ => ev_chain (vr 1) (vr 0) bI0 (fun _ => vr 2) (fun _ => bI0)) q
/-! cells -/
def InT (n : Int) (c : Cell) : Prop := 0 ≤ c.1 ∧ c.1 < n ∧ 0 ≤ c.2 ∧ c.2 < n
theorem within_true {a b c : Int} (h1 : b ≤ a) (h2 : a ≤ c) : (decide (b ≤ a) && decide (a ≤ c)) = true := by rw [decide_eq_true h1, decide_eq_true h2] <;> rfl
abbrev a_is_cell : Mt → Cell × Int → List Rp := fun _ z => [rCell K z.1, dI z.2]
abbrev sp_is_cell : Sp := spF (a_is_cell (K := K)) (fun z => InT z.2 z.1) (fun _ _ => dB true)
theorem c_is_cell (T : Tx w K mg) (c_within_values : Cal P w K mg base 2 "within_values" sp_within) (D : Df K mg "is_cell" "is_cell" s_is_cell) : Cal P w K mg base 3 "is_cell" (sp_is_cell (K := K)) := by
  refine cal_of D sc_is_cell (fun _ _ _ _ _ _ us hl => match us, hl with | [_, _], _ => rfl) (fun _ _ => rfl) (by decide) (fun f cdv A outer s H E hr => ⟨_, (pss_cons (ps_if (PW.pt (pw_or (pt_not (pt_val (pe_callB call_isi (by rfl) T.b_isinstance (by decide +kernel) (pa_cons (pv 0) (pa_cons (pe_bltn (v := .ty "tuple") (by rfl) T.b_tuple (by decide +kernel) rfl) pa_nil))))) (pw_or1 (pt_cmpR (op_neK (K := K) hr rfl rfl) (pe_callB (call_lenK (K := K) rfl) (by rfl) T.b_len (by decide +kernel) (pa_cons (pv 0) pa_nil)) pe_int (nomark _)))))
  (pss_cons (ps_ret pe_bl)
  pss_nil)
  pss_nil)
  (pss_cons (ps_ret (pe_and (pe_cal c_within_values hr (by decide) (by rfl) (pa_cons (pe_ix (ix_seqK (K := K) rfl) (pv 0) pe_int (fun _ _ => rfl)) (pa_cons pe_int (pa_cons (pe_op op_sub (pv 1) pe_int) pa_nil)))) (pe_one (pe_cal c_within_values hr (by decide) (by rfl) (pa_cons (pe_ix (ix_seqK (K := K) rfl) (pv 0) pe_int (fun _ _ => rfl)) (pa_cons pe_int (pa_cons (pe_op op_sub (pv 1) pe_int) pa_nil)))))))
  pss_nil)), fun m B0 H0 ⟨⟨r, c⟩, n⟩ Q hp ha q => ?_⟩)
  obtain ⟨h1, h2, h3, h4⟩ := ha
  refine st_if (eb_to (eb_orE (b := false) (c := false) (eb_notE (eb_B (ev_isTup (vr 0)))) (fun _ => eb_test ((ev_neI (ev_lenT (vr 0)) kI).to rfl))) rfl) (fun h => nomatch h) (fun _ => st_nxt ?_)
  refine st_ret ((ev_andE (ev_call (r, 0, n - 1) trivial (ea_cons (ev_ixT (vr 0) kI (atN (n := 0) rfl)) (ea_cons kI (ea_cons (ev_sub (vr 1) kI) ea_nil)))) fun _ =>
    ev_call (c, 0, n - 1) trivial (ea_cons (ev_ixT (vr 0) kI (atN (n := 1) rfl)) (ea_cons kI (ea_cons (ev_sub (vr 1) kI) ea_nil)))).to (congrArg dB ?_)) q
  rw [within_true h1 (show r ≤ n - 1 by simp only at h2; omega), within_true h3 (show c ≤ n - 1 by simp only at h4; omega)] <;> rfl
abbrev a_check_size : Mt → Int → List Rp := fun _ z => [dI z]
abbrev sp_check_size : Sp := spF a_check_size (fun z => 1 ≤ z ∧ z ≤ 10 ^ 30) (fun _ _ => dN)
theorem c_check_size (T : Tx w K mg) (c_within_values : Cal P w K mg base 2 "within_values" sp_within) (D : Df K mg "check_size" "check_size" s_check_size) : Cal P w K mg base 3 "check_size" sp_check_size := by
  refine cal_of D sc_check_size (fun _ _ _ _ _ _ us hl => match us, hl with | [_], _ => rfl) (fun _ _ => rfl) (by decide) (fun f cdv A outer s H E hr => ⟨_, (pss_cons (ps_if (pt_not (pt_val (pe_cal c_within_values hr (by decide) (by rfl) (pa_cons (pv 0) (pa_cons pe_int (pa_cons (C8.pe_gc (by rfl) T.g_MOST_SIZE) pa_nil))))))
  (pss_cons ps_never
  pss_nil)
  pss_nil)
  pss_nil), fun m B0 H0 n Q hp ha q => ?_⟩)
  refine st_if (eb_to (eb_notE (eb_B (ev_call (n, 1, 10 ^ 30) trivial (ea_cons (vr 0) (ea_cons kI (ea_cons ev_c ea_nil)))))) (show _ = false by simp only [within_true ha.1 ha.2] <;> rfl)) (fun h => nomatch h) (fun _ => st_nxt (st_end q))
abbrev a_check_cell : Mt → Int × Cell → List Rp := fun _ z => [dI z.1, rCell K z.2]
abbrev sp_check_cell : Sp := spF (a_check_cell (K := K)) (fun z => InT z.1 z.2) (fun _ _ => dN)
theorem c_check_cell (c_is_cell : Cal P w K mg base 3 "is_cell" (sp_is_cell (K := K))) (D : Df K mg "check_cell" "check_cell" s_check_cell) : Cal P w K mg base 4 "check_cell" (sp_check_cell (K := K)) := by
  refine cal_of D sc_check_cell (fun _ _ _ _ _ _ us hl => match us, hl with | [_, _], _ => rfl) (fun _ _ => rfl) (by decide) (fun f cdv A outer s H E hr => ⟨_, (pss_cons (ps_if (pt_not (pt_val (pe_cal c_is_cell hr (by decide) (by rfl) (pa_cons (pv 1) (pa_cons (pv 0) pa_nil)))))
  (pss_cons ps_never
  pss_nil)
  pss_nil)
  pss_nil), fun m B0 H0 ⟨n, c⟩ Q hp ha q => ?_⟩)
  refine st_if (eb_notE (eb_B (ev_call (c, n) ha (ea2 (vr 1) (vr 0))))) (fun h => nomatch h) (fun _ => st_nxt (st_end q))
/-! images -/
def cells8 (n r c : Int) : List Cell := [(r, c), (c, r), (r, n - 1 - c), (n - 1 - c, r)] ++ [(n - 1 - r, c), (c, n - 1 - r), (n - 1 - r, n - 1 - c), (n - 1 - c, n - 1 - r)]
def imgs (n : Int) (c : Cell) : List Cell := orb (cells8 n c.1 c.2)
theorem cells8_in {n : Int} {c : Cell} (h : InT n c) : ∀ x ∈ cells8 n c.1 c.2, 0 ≤ x.1 ∧ x.1 < n ∧ 0 ≤ x.2 ∧ x.2 < n := by
  obtain ⟨h1, h2, h3, h4⟩ := h
  intro x hx
  simp only [cells8, List.cons_append, List.nil_append, List.mem_cons, List.not_mem_nil, or_false] at hx
  rcases hx with e | e | e | e | e | e | e | e <;> (rw [e]; refine ⟨?_, ?_, ?_, ?_⟩ <;> (simp only; omega))
abbrev a_images_of : Mt → Int × Cell → List Rp := fun _ z => [dI z.1, rCell K z.2]
abbrev sp_images_of : Sp := spF (a_images_of (K := K)) (fun z => InT z.1 z.2) (fun _ z => rTf ((imgs z.1 z.2).map rCellN))
theorem c_images_of (T : Tx w K mg) (D : Df K mg "images_of" "images_of" s_images_of) : Cal P w K mg base 1 "images_of" (sp_images_of (K := K)) := by
  refine cal_of D sc_images_of (fun _ _ _ _ _ _ us hl => match us, hl with | [_, _], _ => rfl) (fun _ _ => rfl) (by decide) (fun f cdv A outer s H E hr => ⟨_, (pss_cons (ps_asg (pv 1) (pg_unK (K := K) rfl rfl rfl rfl (pgs_cons (pg_nameX (i := 2) sc_images_of.nd rfl (.inl rfl) (.inr rfl)) (pgs_cons (pg_nameX (i := 3) sc_images_of.nd rfl (.inl rfl) (.inr rfl)) pgs_nil))))
  (pss_cons (ps_par (i := 4) (j := 5) rfl sc_images_of.nd rfl rfl (by decide) rfl rfl (pa_cons (pe_op op_sub (pe_op op_sub (pv 0) pe_int) (pv 2)) (pa_cons (pe_op op_sub (pe_op op_sub (pv 0) pe_int) (pv 3)) pa_nil)) (by rfl))
  (pss_cons (ps_set (i := 6) sc_images_of.nd rfl (.inl rfl) (pe_lst (pa_cons (pe_tup (pa_cons (pv 2) (pa_cons (pv 3) pa_nil))) (pa_cons (pe_tup (pa_cons (pv 3) (pa_cons (pv 2) pa_nil))) (pa_cons (pe_tup (pa_cons (pv 2) (pa_cons (pv 5) pa_nil))) (pa_cons (pe_tup (pa_cons (pv 5) (pa_cons (pv 2) pa_nil))) pa_nil))))))
  (pss_cons (ps_set (i := 6) sc_images_of.nd rfl (.inl rfl) (pe_op op_addA (pv 6) (pe_lst (pa_cons (pe_tup (pa_cons (pv 4) (pa_cons (pv 3) pa_nil))) (pa_cons (pe_tup (pa_cons (pv 3) (pa_cons (pv 4) pa_nil))) (pa_cons (pe_tup (pa_cons (pv 4) (pa_cons (pv 5) pa_nil))) (pa_cons (pe_tup (pa_cons (pv 5) (pa_cons (pv 4) pa_nil))) pa_nil)))))))
  (pss_cons (ps_ret (pe_callTy (call_tupleF (K := K) rfl) (by rfl) T.b_tuple (by decide +kernel) (pa_cons (pe_callB (cr_sortedT rfl) (by rfl) T.b_sorted (by decide +kernel) (pa_cons (pe_callTy (cr_setOfT rfl (hr.units)) (by rfl) T.b_set (by decide +kernel) (pa_cons (pv 6) pa_nil)) pa_nil)) pa_nil)))
  pss_nil))))), fun m B0 H0 ⟨n, r, c⟩ Q hp ha q => ?_⟩)
  refine st_asg (vr 1) (tg_unT tgs2) ?_
  refine st_par (Ra := dI (n - 1 - r)) (Rb := dI (n - 1 - c)) (by decide) (ea2 (ev_sub (ev_sub (vr 0) kI) (vr 2)) (ev_sub (ev_sub (vr 0) kI) (vr 3))) ?_
  refine st_set (R := rL ([(r, c), (c, r), (r, n - 1 - c), (n - 1 - c, r)].map rCellN)) (ev_lst (ea_cons (ev_tupN (ea2 (vr 2) (vr 3))) (ea_cons (ev_tupN (ea2 (vr 3) (vr 2))) (ea2 (ev_tupN (ea2 (vr 2) (vr 5))) (ev_tupN (ea2 (vr 5) (vr 2))))))) ?_
  refine st_set (R := rL ((cells8 n r c).map rCellN)) ((ev_cat (vr 6) (ev_lst (ea_cons (ev_tupN (ea2 (vr 4) (vr 3))) (ea_cons (ev_tupN (ea2 (vr 3) (vr 4))) (ea2 (ev_tupN (ea2 (vr 4) (vr 5))) (ev_tupN (ea2 (vr 5) (vr 4))))))) (by show 8 ≤ sizeLine; decide)).to rfl) ?_
  exact st_ret (ev_tupleF (ev_sortsetN (vr 6) (by show 8 < 64; decide) (cells8_in ha))) q
abbrev a_images : Mt → Int × Cell → List Rp := fun _ z => [dI z.1, rCell K z.2]
abbrev sp_images : Sp := spF (a_images (K := K)) (fun z => (1 ≤ z.1 ∧ z.1 ≤ 10 ^ 30) ∧ InT z.1 z.2) (fun _ z => rT K ((imgs z.1 z.2).map rCellN))
theorem c_images (c_check_size : Cal P w K mg base 3 "check_size" sp_check_size) (c_check_cell : Cal P w K mg base 4 "check_cell" (sp_check_cell (K := K))) (c_images_of : Cal P w K mg base 1 "images_of" (sp_images_of (K := K))) (D : Df K mg "images" "images" s_images) : Cal P w K mg base 5 "images" (sp_images (K := K)) := by
  refine cal_of D sc_images (fun _ _ _ _ _ _ us hl => match us, hl with | [_, _], _ => rfl) (fun _ _ => rfl) (by decide) (fun f cdv A outer s H E hr => ⟨_, (pss_cons (ps_expr (pe_cal c_check_size hr (by decide) (by rfl) (pa_cons (pv 0) pa_nil)))
  (pss_cons (ps_expr (pe_cal c_check_cell hr (by decide) (by rfl) (pa_cons (pv 0) (pa_cons (pv 1) pa_nil))))
  (pss_cons (ps_ret (pe_cal c_images_of hr (by decide) (by rfl) (pa_cons (pv 0) (pa_cons (pv 1) pa_nil))))
  pss_nil))), fun m B0 H0 ⟨n, c⟩ Q hp ha q => ?_⟩)
  refine st_drop (ev_call n ha.1 (ea1 (vr 0))) (st_drop (ev_call (n, c) ha.2 (ea2 (vr 0) (vr 1))) (st_ret ((ev_call (n, c) ha.2 (ea2 (vr 0) (vr 1))).le le_Tf) q))
/-! kinds -/
def quad (n : Int) (c : Cell) : List Int := [c.1, c.2, n - 1 - c.1, n - 1 - c.2].mergeSort (fun a b => decide (a ≤ b))
def qd (n : Int) (c : Cell) (k : Nat) : Int := (quad n c).getD k 0
theorem quad_eq (n : Int) (c : Cell) : quad n c = [qd n c 0, qd n c 1, qd n c 2, qd n c 3] := by
  have hl : (quad n c).length = 4 := by unfold quad; rw [List.length_mergeSort]; rfl
  unfold qd
  match h : quad n c, hl with
  | [a, b, d, e], _ => rfl
def mn (i j : Int) : Int := if j < i then j else i
def kdOf (n : Int) (c : Cell) : Kd := (mn (qd n c 0) 1, mn (qd n c 1 - qd n c 0) 2, mn (qd n c 2 - qd n c 1) 3)
abbrev a_found_kind : Mt → Int × Cell → List Rp := fun _ z => [dI z.1, rCell K z.2]
abbrev sp_found_kind : Sp := spF (a_found_kind (K := K)) (fun _ => True) (fun _ z => rKd K (kdOf z.1 z.2))
theorem ev_quad {n : Int} {c : Cell} {t : TA} (h : EvA m t Γ [dI c.1, dI c.2, dI (n - 1 - c.1), dI (n - 1 - c.2)]) : EvG m (tCB (rSortD K) (tCons (tLst t) tNil)) Γ (rL [dI (qd n c 0), dI (qd n c 1), dI (qd n c 2), dI (qd n c 3)]) :=
  (ev_sortI (ns := [c.1, c.2, n - 1 - c.1, n - 1 - c.2]) (ev_lst h)).to (by rw [show [c.1, c.2, n - 1 - c.1, n - 1 - c.2].mergeSort (fun a b => decide (a ≤ b)) = _ from quad_eq n c] <;> rfl)
theorem c_found_kind (T : Tx w K mg) (D : Df K mg "found_kind" "found_kind" s_found_kind) : Cal P w K mg base 1 "found_kind" (sp_found_kind (K := K)) := by
  refine cal_of D sc_found_kind (fun _ _ _ _ _ _ us hl => match us, hl with | [_, _], _ => rfl) (fun _ _ => rfl) (by decide) (fun f cdv A outer s H E hr => ⟨_, (pss_cons (ps_asg (pv 1) (pg_unK (K := K) rfl rfl rfl rfl (pgs_cons (pg_nameX (i := 2) sc_found_kind.nd rfl (.inl rfl) (.inr rfl)) (pgs_cons (pg_nameX (i := 3) sc_found_kind.nd rfl (.inl rfl) (.inr rfl)) pgs_nil))))
  (pss_cons (ps_asg (pe_callB (cr_sortD hr) (by rfl) T.b_sorted (by decide +kernel) (pa_cons (pe_lst (pa_cons (pv 2) (pa_cons (pv 3) (pa_cons (pe_op op_sub (pe_op op_sub (pv 0) pe_int) (pv 2)) (pa_cons (pe_op op_sub (pe_op op_sub (pv 0) pe_int) (pv 3)) pa_nil))))) pa_nil)) (pg_unK (K := K) rfl rfl rfl rfl (pgs_cons (pg_nameX (i := 4) sc_found_kind.nd rfl (.inl rfl) (.inr rfl)) (pgs_cons (pg_nameX (i := 5) sc_found_kind.nd rfl (.inl rfl) (.inr rfl)) (pgs_cons (pg_nameX (i := 6) sc_found_kind.nd rfl (.inl rfl) (.inr rfl)) (pgs_cons (pg_nameX (i := 7) sc_found_kind.nd rfl (.inl rfl) (.inr rfl)) pgs_nil))))))
  (pss_cons (ps_ret (pe_tup (pa_cons (pe_callB (call_min2 rfl) (by rfl) T.b_min (by decide +kernel) (pa_cons (pv 4) (pa_cons pe_int pa_nil))) (pa_cons (pe_callB (call_min2 rfl) (by rfl) T.b_min (by decide +kernel) (pa_cons (pe_op op_sub (pv 5) (pv 4)) (pa_cons pe_int pa_nil))) (pa_cons (pe_callB (call_min2 rfl) (by rfl) T.b_min (by decide +kernel) (pa_cons (pe_op op_sub (pv 6) (pv 5)) (pa_cons pe_int pa_nil))) pa_nil)))))
  pss_nil))), fun m B0 H0 ⟨n, c⟩ Q hp ha q => ?_⟩)
  refine st_asg (vr 1) (tg_unT tgs2) ?_
  refine st_asg (ev_quad (n := n) (c := c) (ea_cons (vr 2) (ea_cons (vr 3) (ea2 (ev_sub (ev_sub (vr 0) kI) (vr 2)) (ev_sub (ev_sub (vr 0) kI) (vr 3)))))) (tg_unL tgs4) ?_
  exact st_ret (ev_tup (ea_cons (ev_min (vr 4) kI) (ea2 (ev_min (ev_sub (vr 5) (vr 4)) kI) (ev_min (ev_sub (vr 6) (vr 5)) kI)))) q
abbrev a_kind_of : Mt → Int × Cell → List Rp := fun _ z => [dI z.1, rCell K z.2]
abbrev sp_kind_of : Sp := spF (a_kind_of (K := K)) (fun z => (1 ≤ z.1 ∧ z.1 ≤ 10 ^ 30) ∧ InT z.1 z.2) (fun _ z => rKd K (kdOf z.1 z.2))
theorem c_kind_of (c_check_size : Cal P w K mg base 3 "check_size" sp_check_size) (c_check_cell : Cal P w K mg base 4 "check_cell" (sp_check_cell (K := K))) (c_found_kind : Cal P w K mg base 1 "found_kind" (sp_found_kind (K := K))) (D : Df K mg "kind_of" "kind_of" s_kind_of) : Cal P w K mg base 5 "kind_of" (sp_kind_of (K := K)) := by
  refine cal_of D sc_kind_of (fun _ _ _ _ _ _ us hl => match us, hl with | [_, _], _ => rfl) (fun _ _ => rfl) (by decide) (fun f cdv A outer s H E hr => ⟨_, (pss_cons (ps_expr (pe_cal c_check_size hr (by decide) (by rfl) (pa_cons (pv 0) pa_nil)))
  (pss_cons (ps_expr (pe_cal c_check_cell hr (by decide) (by rfl) (pa_cons (pv 0) (pa_cons (pv 1) pa_nil))))
  (pss_cons (ps_ret (pe_cal c_found_kind hr (by decide) (by rfl) (pa_cons (pv 0) (pa_cons (pv 1) pa_nil))))
  pss_nil))), fun m B0 H0 ⟨n, c⟩ Q hp ha q => ?_⟩)
  refine st_drop (ev_call n ha.1 (ea1 (vr 0))) (st_drop (ev_call (n, c) ha.2 (ea2 (vr 0) (vr 1))) (st_ret (ev_call (n, c) trivial (ea2 (vr 0) (vr 1))) q))
def lsz (k : Kd) : Int := 2 * (k.1 + k.2.1) + k.2.2 + 1
def cnr (k : Kd) : Cell := (k.1, k.1 + k.2.1)
abbrev a_least_size : Mt → Kd → List Rp := fun _ z => [rKd K z]
abbrev sp_least_size : Sp := spF (a_least_size (K := K)) (fun z => 0 ≤ z.1 ∧ z.1 ≤ 1 ∧ 0 ≤ z.2.1 ∧ z.2.1 ≤ 2) (fun _ z => dI (lsz z))
theorem mulx_small {i j : Int} (h1 : i.natAbs < 2 ^ 40) (h2 : j.natAbs < 2 ^ 40) : CMulX i j := mulx_ok h1 h2 (by decide)
theorem c_least_size (D : Df K mg "least_size" "least_size" s_least_size) : Cal P w K mg base 1 "least_size" (sp_least_size (K := K)) := by
  refine cal_of D sc_least_size (fun _ _ _ _ _ _ us hl => match us, hl with | [_], _ => rfl) (fun _ _ => rfl) (by decide) (fun f cdv A outer s H E hr => ⟨_, (pss_cons (ps_ret (pe_op op_addA (pe_op op_addA (pe_op op_mulX pe_int (pe_op op_addA (pe_ix (ix_seqK (K := K) rfl) (pv 0) pe_int (fun _ _ => rfl)) (pe_ix (ix_seqK (K := K) rfl) (pv 0) pe_int (fun _ _ => rfl)))) (pe_ix (ix_seqK (K := K) rfl) (pv 0) pe_int (fun _ _ => rfl))) pe_int))
  pss_nil), fun m B0 H0 ⟨a, b, c⟩ Q hp ha q => ?_⟩)
  obtain ⟨h1, h2, h3, h4⟩ := ha
  simp only at h1 h2 h3 h4
  exact st_ret (ev_add (ev_add (ev_mul kI (ev_add (ev_ixT (vr 0) kI (atN (n := 0) rfl)) (ev_ixT (vr 0) kI (atN (n := 1) rfl))) (mulx_small (by decide) (by simp only; omega))) (ev_ixT (vr 0) kI (atN (n := 2) rfl))) kI) q
abbrev a_corner : Mt → Kd → List Rp := fun _ z => [rKd K z]
abbrev sp_corner : Sp := spF (a_corner (K := K)) (fun _ => True) (fun _ z => rCell K (cnr z))
theorem c_corner (D : Df K mg "corner" "corner" s_corner) : Cal P w K mg base 1 "corner" (sp_corner (K := K)) := by
  refine cal_of D sc_corner (fun _ _ _ _ _ _ us hl => match us, hl with | [_], _ => rfl) (fun _ _ => rfl) (by decide) (fun f cdv A outer s H E hr => ⟨_, (pss_cons (ps_ret (pe_tup (pa_cons (pe_ix (ix_seqK (K := K) rfl) (pv 0) pe_int (fun _ _ => rfl)) (pa_cons (pe_op op_addA (pe_ix (ix_seqK (K := K) rfl) (pv 0) pe_int (fun _ _ => rfl)) (pe_ix (ix_seqK (K := K) rfl) (pv 0) pe_int (fun _ _ => rfl))) pa_nil))))
  pss_nil), fun m B0 H0 ⟨a, b, c⟩ Q hp ha q => ?_⟩)
  exact st_ret (ev_tup (ea2 (ev_ixT (vr 0) kI (atN (n := 0) rfl)) (ev_add (ev_ixT (vr 0) kI (atN (n := 0) rfl)) (ev_ixT (vr 0) kI (atN (n := 1) rfl))))) q
end
end Sq
set_option exponentiation.threshold 500
/-! Sq, part F3: truth tables and moves. -/
namespace Sq
open PySem PySem.Spec PyProof.Rows L2
section
variable {P : Program} {w : World} {K : PySem.W.Frag} {mg : Str → Option Value} {base : Heap} {m : Mt} {Γ : Gm} {ta tb te : TE}
abbrev a_meet_rows : Mt → Int × Int → List Rp := fun _ z => [dI z.1, dI z.2]
abbrev sp_meet_rows : Sp := spF a_meet_rows (fun _ => True) (fun _ z => dI (Builtin.bitAnd z.1 z.2))
theorem c_meet_rows (D : Df K mg "meet_rows" "meet_rows" s_meet_rows) : Cal P w K mg base 1 "meet_rows" sp_meet_rows := by
  refine cal_of D sc_meet_rows (fun _ _ _ _ _ _ us hl => match us, hl with | [_, _], _ => rfl) (fun _ _ => rfl) (by decide) (fun f cdv A outer s H E hr => ⟨_, (pss_cons (ps_ret (pe_op op_and (pv 0) (pv 1)))
  pss_nil), fun m B0 H0 ⟨a, b⟩ Q hp ha q => ?_⟩)
  exact st_ret (ev_band (vr 0) (vr 1)) q
abbrev a_join_rows : Mt → Int × Int → List Rp := fun _ z => [dI z.1, dI z.2]
abbrev sp_join_rows : Sp := spF a_join_rows (fun _ => True) (fun _ z => dI (Builtin.bitOr z.1 z.2))
theorem c_join_rows (D : Df K mg "join_rows" "join_rows" s_join_rows) : Cal P w K mg base 1 "join_rows" sp_join_rows := by
  refine cal_of D sc_join_rows (fun _ _ _ _ _ _ us hl => match us, hl with | [_, _], _ => rfl) (fun _ _ => rfl) (by decide) (fun f cdv A outer s H E hr => ⟨_, (pss_cons (ps_ret (pe_op op_or (pv 0) (pv 1)))
  pss_nil), fun m B0 H0 ⟨a, b⟩ Q hp ha q => ?_⟩)
  exact st_ret (ev_bor (vr 0) (vr 1)) q
/-! bits -/
def b1 (x : Int) (k : Nat) : Int := Builtin.bitAnd (x / 2 ^ ((k : Int)).toNat) 1
def tb1 (x : Int) (k : Nat) : Bool := decide (b1 x k = 1)
def bitsOf (x : Int) : List Nat := (List.range 8).filter (tb1 x)
theorem ev_bit {x : Int} {k : Nat} (ha : EvG m ta Γ (dI x)) (hb : EvG m tb Γ (dI (k : Int))) : EvG m (tOp (rI0 fun i j => .int (Builtin.bitAnd i j)) (tOp (rI (fun _ j => 0 ≤ j) fun i j => .int (i / 2 ^ j.toNat)) ta tb) (tC (.int 1))) Γ (dI (b1 x k)) :=
  ev_band (ev_shr ha hb (Int.natCast_nonneg k)) kI
abbrev a_bits_of : Mt → Int → List Rp := fun _ z => [dI z]
abbrev dK (ks : List Nat) : List Rp := ks.map fun (k : Nat) => dI (k : Int)
theorem rg62 {n : Int} (h1 : -1000000 ≤ n) (h2 : n ≤ 1000000) : -(2 ^ 62) ≤ n ∧ n < 2 ^ 62 := by
  have e : (2 : Int) ^ 62 = 4611686018427387904 := by decide
  omega
abbrev sp_bits_of : Sp := spF a_bits_of (fun _ => True) (fun _ z => rL (dK (bitsOf z)))
theorem zero_add_cast (k : Nat) : (0 : Int) + (k : Int) = (k : Int) := Int.zero_add _
theorem c_bits_of (T : Tx w K mg) (D : Df K mg "bits_of" "bits_of" s_bits_of) : Cal P w K mg base 1 "bits_of" sp_bits_of := by
  refine cal_of D sc_bits_of (fun _ _ _ _ _ _ us hl => match us, hl with | [_], _ => rfl) (fun _ _ => rfl) (by decide) (fun f cdv A outer s H E hr => ⟨_, (pss_cons (ps_ret (pe_lcX (own := [("k", 1)]) rfl sc_bits_of.nd (pi_range1 (by rfl) T.b_range (pa_cons pe_int pa_nil)) (blkOk_by (N := ["content", "k"]) (sc := defScope s_bits_of) (own := [("k", 1)]) (by decide +kernel)) (fun _ _ _ _ _ => (pg_nameX (i := 1) sc_bits_of.nd rfl (.inl rfl) (.inr rfl))) (fun _ _ _ _ _ => (pts_one (pt_cmpR (op_eqK (K := K) hr rfl rfl) (pe_op op_and (pe_op op_shr (pv 0) (pv 1)) pe_int) pe_int (nomark _)))) (fun _ _ _ _ _ => (pv 1)) (fun _ => rfl)))
  pss_nil), fun m B0 H0 x Q hp ha q => ?_⟩)
  refine st_ret (ev_lcF (n := 8) (Ys := fun i => some (dI (0 + (i : Int)))) (tb1 x) (fun k => dI (k : Int)) (by decide) ((ei_rng1 (n := 8) (ea1 kI) (by decide))) (fun k R hk hR => ?_)) q
  obtain rfl : dI (0 + (k : Int)) = R := Option.some.inj hR
  rw [zero_add_cast]
  exact ⟨_, _, tg_name, fun j hj => hj, eb_test (ev_eqI (ev_bit (vr 0) (vr 1)) kI), fun _ => vr 1⟩
/-! starts -/
def sh1 (k : Nat) : Int := 1 * 2 ^ ((k : Int)).toNat
def sh2 (k : Nat) : Int := 1 * 2 ^ (sh1 k).toNat
def stV (n k : Nat) : Int := (sh2 n - 1) / (sh2 k + 1) * 2 ^ (sh1 k).toNat
theorem sh1_eq (k : Nat) : sh1 k = ((2 ^ k : Nat) : Int) := by
  unfold sh1
  rw [Int.one_mul, Int.toNat_natCast, Int.natCast_pow]
  rfl
theorem sh2_eq (k : Nat) : sh2 k = ((2 ^ 2 ^ k : Nat) : Int) := by
  unfold sh2
  rw [sh1_eq, Int.one_mul, Int.toNat_natCast, Int.natCast_pow]
  rfl
theorem p8 {n : Nat} (h : n ≤ 8) : 2 ^ n ≤ 256 := Nat.le_trans (Nat.pow_le_pow_right (by decide) h) (by decide)
theorem shl1 {k : Nat} (h : k ≤ 8) : CShl 1 (k : Int) := shl_ok (n := 1) (by decide) (by omega)
theorem shl2 {k : Nat} (h : k ≤ 8) : CShl 1 (sh1 k) := by
  rw [sh1_eq]
  exact shl_ok (n := 1) (by decide) (by have := p8 h; omega)
theorem sh2_pos (k : Nat) : 0 < sh2 k := by
  rw [sh2_eq]
  exact Int.natCast_pos.mpr (Nat.two_pow_pos _)
theorem divw_st {n k : Nat} (h : k ≤ 8) : CDivW (sh2 n - 1) (sh2 k + 1) := by
  refine wide_div (b := 300) (by have := sh2_pos k; omega) ?_ (by decide) (by decide)
  rw [sh2_eq]
  have e : (((2 ^ 2 ^ k : Nat) : Int) + 1).natAbs = 2 ^ 2 ^ k + 1 := Int.natAbs_natCast (2 ^ 2 ^ k + 1)
  rw [e]
  have h2 : 2 ^ 2 ^ k ≤ 2 ^ 256 := Nat.pow_le_pow_right (by decide) (p8 h)
  have h3 : (2 : Nat) ^ 256 + 1 < 2 ^ 300 := by decide
  omega
theorem st_nonneg (n k : Nat) : 0 ≤ (sh2 n - 1) / (sh2 k + 1) := Int.ediv_nonneg (by have := sh2_pos n; omega) (by have := sh2_pos k; omega)
theorem shl_st {n k : Nat} (hn : n ≤ 8) (hk : k ≤ 8) : CShl ((sh2 n - 1) / (sh2 k + 1)) (sh1 k) := by
  rw [sh1_eq]
  refine shl_ok (n := 300) ?_ (by have := p8 hk; omega)
  have h1 := st_nonneg n k
  have h2 : (sh2 n - 1) / (sh2 k + 1) ≤ sh2 n - 1 := Int.ediv_le_self _ (by have := sh2_pos n; omega)
  have h3 : sh2 n ≤ ((2 ^ 256 : Nat) : Int) := by
    rw [sh2_eq]
    exact Int.ofNat_le.mpr (Nat.pow_le_pow_right (by decide) (p8 hn))
  have h4 : (2 : Nat) ^ 256 < 2 ^ 300 := by decide
  omega
abbrev a_starts : Mt → Nat → List Rp := fun _ z => [dI (z : Int)]
abbrev sp_starts : Sp := spF a_starts (fun z => z ≤ 8) (fun _ z => rL ((List.range z).map fun k => dI (stV z k)))
theorem c_starts (T : Tx w K mg) (D : Df K mg "starts" "starts" s_starts) : Cal P w K mg base 1 "starts" sp_starts := by
  refine cal_of D sc_starts (fun _ _ _ _ _ _ us hl => match us, hl with | [_], _ => rfl) (fun _ _ => rfl) (by decide) (fun f cdv A outer s H E hr => ⟨_, (pss_cons (ps_set (i := 1) sc_starts.nd rfl (.inr rfl) (pe_op op_sub (pe_op op_shlW pe_int (pe_op op_shlW pe_int (pv 0))) pe_int))
  (pss_cons (ps_ret (pe_lcX (own := [("k", 2)]) rfl sc_starts.nd (pi_range1 (by rfl) T.b_range (pa_cons (pv 0) pa_nil)) (blkOk_by (N := ["count", "whole", "k"]) (sc := defScope s_starts) (own := [("k", 2)]) (by decide +kernel)) (fun _ _ _ _ _ => (pg_nameX (i := 2) sc_starts.nd rfl (.inl rfl) (.inr rfl))) (fun _ _ _ _ _ => pts_nil) (fun _ _ _ _ _ => (pe_op op_shlW (pe_op op_fdivW (pv 1) (pe_op op_addA (pe_op op_shlW pe_int (pe_op op_shlW pe_int (pv 2))) pe_int)) (pe_op op_shlW pe_int (pv 2)))) (fun _ => rfl)))
  pss_nil)), fun m B0 H0 n Q hp ha q => ?_⟩)
  have hn : n ≤ 8 := ha
  refine st_set (R := dI (sh2 n - 1)) (ev_sub (ev_shl kI (ev_shl kI (vr 0) (shl1 hn)) (shl2 hn)) kI) ?_
  refine st_ret ((ev_lc (n := ((n : Int)).toNat) (Ys := fun i => some (dI (0 + (i : Int)))) (fun k => dI (stV n k)) (by rw [Int.toNat_natCast]; exact Nat.lt_of_le_of_lt hn (by decide)) (ei_rng1 (n := (n : Int)) (ea1 (vr 0)) (rg62 (by omega) (by omega))) (fun k R hk hR => ?_)).to (by rw [Int.toNat_natCast])) q
  obtain rfl : dI (0 + (k : Int)) = R := Option.some.inj hR
  rw [Int.toNat_natCast] at hk
  have hk8 : k ≤ 8 := by omega
  rw [zero_add_cast]
  exact ⟨_, _, tg_name, fun j hj => hj, ev_shl (ev_fdiv (vr 1) (ev_add (ev_shl kI (ev_shl kI (vr 2) (shl1 hk8)) (shl2 hk8)) kI) (divw_st hk8)) (ev_shl kI (vr 2) (shl1 hk8)) (shl_st hn hk8)⟩
/-! moves_from -/
def mvV (ts : List Int) (c : Nat) : Int := ((List.range ts.length).map fun k => b1 (ts.getD k 0) c * 2 ^ ((k : Int)).toNat).sum
def mvL (ts : List Int) : List Int := (List.range (2 ^ ts.length)).map (mvV ts)
theorem b1_01 (x : Int) (k : Nat) : b1 x k = 0 ∨ b1 x k = 1 := by
  unfold b1
  rw [bitAnd_m1]
  omega
theorem shl_b1 {x : Int} {k j : Nat} (h : k ≤ 8) : CShl (b1 x j) (k : Int) := shl_ok (n := 1) (by rcases b1_01 x j with e | e <;> rw [e] <;> decide) (by omega)
abbrev a_moves_from : Mt → List Int → List Rp := fun _ z => [rL (z.map dI)]
abbrev sp_moves_from : Sp := spF (a_moves_from) (fun z => z.length ≤ 8) (fun _ z => rT K ((mvL z).map dI))
theorem sh1_nat (n : Nat) : (sh1 n).toNat = 2 ^ n := by rw [sh1_eq, Int.toNat_natCast]
theorem c_moves_from (T : Tx w K mg) (D : Df K mg "moves_from" "moves_from" s_moves_from) : Cal P w K mg base 1 "moves_from" (sp_moves_from (K := K)) := by
  refine cal_of D sc_moves_from (fun _ _ _ _ _ _ us hl => match us, hl with | [_], _ => rfl) (fun _ _ => rfl) (by decide) (fun f cdv A outer s H E hr => ⟨_, (pss_cons (ps_set (i := 1) sc_moves_from.nd rfl (.inl rfl) (pe_lst pa_nil))
  (pss_cons (ps_for PassesOwn.never rfl (pi_range1 (by rfl) T.b_range (pa_cons (pe_op op_shlW pe_int (pe_callB (call_lenK (K := K) rfl) (by rfl) T.b_len (by decide +kernel) (pa_cons (pv 0) pa_nil))) pa_nil)) (pg_nameX (i := 2) sc_moves_from.nd rfl (.inr rfl) (.inl rfl))
  (pss_cons (ps_expr (pe_bm PySem.F.plainAttrs_list PySem.F.slot_list_append PySem.F.type_list_append mt_append (pv 1) (pa_cons (pe_callB (cr_sum rfl) (by rfl) T.b_sum (by decide +kernel) (pa_cons (pe_lcX (own := [("k", 3), ("table", 4)]) rfl sc_moves_from.nd (pi_enum (by rfl) T.b_enumerate (pa_cons (pv 0) pa_nil)) (blkOk_by (N := ["tables", "found", "content", "k", "table"]) (sc := defScope s_moves_from) (own := [("k", 3), ("table", 4)]) (by decide +kernel)) (fun _ _ _ _ _ => (pg_unK (K := K) rfl rfl rfl rfl (pgs_cons (pg_nameX (i := 3) sc_moves_from.nd rfl (.inl rfl) (.inr rfl)) (pgs_cons (pg_nameX (i := 4) sc_moves_from.nd rfl (.inl rfl) (.inr rfl)) pgs_nil)))) (fun _ _ _ _ _ => pts_nil) (fun _ _ _ _ _ => (pe_op op_shlW (pe_op op_and (pe_op op_shr (pv 4) (pv 2)) pe_int) (pv 3))) (fun _ => rfl)) pa_nil)) pa_nil)))
  pss_nil))
  (pss_cons (ps_ret (pe_callTy (call_tupleK (K := K) rfl) (by rfl) T.b_tuple (by decide +kernel) (pa_cons (pv 1) pa_nil)))
  pss_nil))), fun m B0 H0 ts Q hp ha q => ?_⟩)
  have hn : ts.length ≤ 8 := ha
  refine st_newL fun a => ?_
  refine st_for (n := (sh1 ts.length).toNat) (Ys := fun i => some (dI (0 + (i : Int)))) (fun _ => [some (rL (ts.map dI)), some (rV (.ref a)), none, none, none]) (fun J k => iLst J a (((List.range k).map (mvV ts)).map dI)) fam_lst
    ?_ (.same (.same (.skip (.skip (.skip .nil))))) (fun J k R hJ hk hR => ?_) ?_
  · refine ei_rng1 (n := sh1 ts.length) ?_ (by have h8 := p8 hn; rw [sh1_eq]; generalize 2 ^ ts.length = z at h8 ⊢; exact rg62 (by omega) (by omega))
    have e : sh1 ts.length = 1 * 2 ^ (((ts.map dI).length : Nat) : Int).toNat := by rw [List.length_map]; rfl
    rw [e]
    exact ea1 (ev_shl kI (ev_lenL (vr 0)) (by rw [List.length_map]; exact shl1 hn))
  · obtain rfl : dI (0 + (k : Int)) = R := Option.some.inj hR
    rw [zero_add_cast]
    refine ⟨_, _, tg_name, ?_⟩
    rw [sh1_nat] at hk
    have hk2 : k < 256 := Nat.lt_of_lt_of_le hk (p8 hn)
    refine st_app (R := dI (mvV ts k)) (vr 1) (ev_sum (ns := (List.range ts.length).map fun j => b1 (ts.getD j 0) k * 2 ^ ((j : Int)).toNat) ?_) (by rw [List.length_map, List.length_map, List.length_range]; exact Nat.lt_of_lt_of_le hk2 (by decide)) (st_to (.same (.same (.skip (.skip (.skip .nil))))) (fun B H h => ?_))
    · refine (ev_lc (n := (ts.map dI).length) (fun j => dI (b1 (ts.getD j 0) k * 2 ^ ((j : Int)).toNat)) (by rw [List.length_map]; exact Nat.lt_of_le_of_lt hn (by decide)) (ei_enum (vr 0)) (fun j R hj hR => ?_)).to ?_
      · rw [List.length_map] at hj
        have e : R = rT K [dI (j : Int), dI (ts.getD j 0)] := by
          rw [List.getElem?_map, List.getElem?_eq_getElem hj] at hR
          rw [List.getD_eq_getElem?_getD, List.getElem?_eq_getElem hj]
          exact (Option.some.inj hR).symm
        subst e
        exact ⟨_, _, tg_unT tgs2, fun j hj => hj, ev_shl (ev_bit (vr 4) (vr 2)) (vr 3) (shl_b1 (by omega))⟩
      · rw [List.length_map, List.map_map]; rfl
    · refine iLst_le ?_ h
      rw [List.range_succ, List.map_append, List.map_append]
      exact Les.refl _
  · refine st_frz 1 rfl (st_ret ((ev_tupleL (vr 1)).to ?_) q)
    rw [sh1_nat]
    rfl
end
end Sq
set_option exponentiation.threshold 500
/-! Sq, part F4: least contents and reached bits. -/
namespace Sq
open PySem PySem.Spec PyProof.Rows L2
theorem getI {ms : List Int} {c : Nat} (h : c < ms.length) : atI (ms.map dI) (c : Int) = some (dI (ms.getD c 0)) := by
  refine atN ?_
  rw [List.getElem?_map, List.getElem?_eq_getElem h, List.getD_eq_getElem?_getD, List.getElem?_eq_getElem h] <;> rfl
theorem sh1_lt {e : Nat} (h : e < 8) : sh1 e = ((2 ^ e : Nat) : Int) := sh1_eq e
theorem tb1_ge {c e : Nat} (h : tb1 (c : Int) e = true) : 2 ^ e ≤ c := by
  unfold tb1 b1 at h
  have h' := of_decide_eq_true h
  rw [bitAnd_m1, Int.toNat_natCast] at h'
  by_cases z : 2 ^ e ≤ c
  · exact z
  · exfalso
    have h0 : (c : Int) / 2 ^ e = 0 := by
      have : ((2 : Int) ^ e) = ((2 ^ e : Nat) : Int) := by rw [Int.natCast_pow]; rfl
      rw [this]
      exact Int.ediv_eq_zero_of_lt (Int.natCast_nonneg c) (Int.ofNat_lt.mpr (Nat.lt_of_not_le z))
    rw [h0] at h'
    exact absurd h' (by decide)
theorem mem_bits {x : Int} {e : Nat} : e ∈ bitsOf x ↔ e < 8 ∧ tb1 x e = true := by
  unfold bitsOf
  rw [List.mem_filter, List.mem_range]
theorem bits_len (x : Int) : (bitsOf x).length ≤ 8 := by
  unfold bitsOf
  exact Nat.le_trans (List.length_filter_le _ _) (by rw [List.length_range] <;> exact Nat.le_refl _)
def lesser (ms : List Int) (c : Nat) : List Int := (bitsOf (c : Int)).map fun e => ms.getD (c - 2 ^ e) 0
def isLeast (ms : List Int) (k c : Nat) : Bool := tb1 (ms.getD c 0) k && ((lesser ms c).map fun x => decide (b1 x k = 0)).all id
def leastC (ms : List Int) (k : Nat) : List Nat := (List.range ms.length).filter (isLeast ms k)
theorem filter_range_succ (f : Nat → Bool) (k : Nat) : (List.range (k + 1)).filter f = (List.range k).filter f ++ (if f k then [k] else []) := by
  rw [List.range_succ, List.filter_append]
  congr 1
  cases h : f k with
  | true => rw [List.filter_cons, if_pos h] <;> rfl
  | false => rw [List.filter_cons, if_neg (by rw [h]; decide)] <;> rfl
section
variable {P : Program} {w : World} {K : PySem.W.Frag} {mg : Str → Option Value} {base : Heap} {m : Mt} {Γ : Gm} {ta tb te : TE}
theorem dK_app (f : Nat → Bool) (k : Nat) : dK ((List.range (k + 1)).filter f) = dK ((List.range k).filter f) ++ (if f k then [dI (k : Int)] else []) := by
  unfold dK
  rw [filter_range_succ, List.map_append]
  cases f k <;> rfl
abbrev a_least_contents : Mt → List Int × Nat → List Rp := fun _ z => [rT K (z.1.map dI), dI (z.2 : Int)]
abbrev sp_least_contents : Sp := spF (a_least_contents (K := K)) (fun z => z.1.length ≤ 256) (fun _ z => rL (dK (leastC z.1 z.2)))
theorem c_least_contents (T : Tx w K mg) (c_bits_of : Cal P w K mg base 1 "bits_of" sp_bits_of) (D : Df K mg "least_contents" "least_contents" s_least_contents) : Cal P w K mg base 2 "least_contents" (sp_least_contents (K := K)) := by
  refine cal_of D sc_least_contents (fun _ _ _ _ _ _ us hl => match us, hl with | [_, _], _ => rfl) (fun _ _ => rfl) (by decide) (fun f cdv A outer s H E hr => ⟨_, (pss_cons (ps_set (i := 2) sc_least_contents.nd rfl (.inl rfl) (pe_lst pa_nil))
  (pss_cons (ps_for PassesOwn.never rfl (pi_range1 (by rfl) T.b_range (pa_cons (pe_callB (call_lenK (K := K) rfl) (by rfl) T.b_len (by decide +kernel) (pa_cons (pv 0) pa_nil)) pa_nil)) (pg_nameX (i := 3) sc_least_contents.nd rfl (.inr rfl) (.inl rfl))
  (pss_cons (ps_if (pt_cmpR (op_eqK (K := K) hr rfl rfl) (pe_op op_and (pe_op op_shr (pe_ix (ix_seqK (K := K) rfl) (pv 0) (pv 3) (fun _ _ => rfl)) (pv 1)) pe_int) pe_int (nomark _))
  (pss_cons (ps_setLcX (i := 4) (own := [("k", 5)]) rfl sc_least_contents.nd rfl rfl (sw_true rfl rfl rfl (by decide +kernel)) (pi_seqK (K := K) rfl (pe_cal c_bits_of hr (by decide) (by rfl) (pa_cons (pv 3) pa_nil))) (blkOk_by (N := ["moves", "image", "found", "content", "lesser", "k", "move"]) (sc := defScope s_least_contents) (own := [("k", 5)]) (by decide +kernel)) (fun _ _ _ _ _ => (pg_nameX (i := 5) sc_least_contents.nd rfl (.inl rfl) (.inr rfl))) (fun _ _ _ _ _ => pts_nil) (fun _ _ _ _ _ => (pe_ix (ix_seqK (K := K) rfl) (pv 0) (pe_op op_sub (pv 3) (pe_op op_shlW pe_int (pv 5))) (fun _ _ => rfl))) (fun _ => rfl))
  (pss_cons (ps_if (pt_val (pe_callB (cr_all rfl) (by rfl) T.b_all (by decide +kernel) (pa_cons (pe_lcX (own := [("move", 6)]) rfl sc_least_contents.nd (pi_seqK (K := K) rfl (pv 4)) (blkOk_by (N := ["moves", "image", "found", "content", "lesser", "k", "move"]) (sc := defScope s_least_contents) (own := [("move", 6)]) (by decide +kernel)) (fun _ _ _ _ _ => (pg_nameX (i := 6) sc_least_contents.nd rfl (.inl rfl) (.inr rfl))) (fun _ _ _ _ _ => pts_nil) (fun _ _ _ _ _ => (pe_cmpR (op_eqK (K := K) hr rfl rfl) (pe_op op_and (pe_op op_shr (pv 6) (pv 1)) pe_int) pe_int (nomark _))) (fun _ => rfl)) pa_nil)))
  (pss_cons (ps_expr (pe_bm PySem.F.plainAttrs_list PySem.F.slot_list_append PySem.F.type_list_append mt_append (pv 2) (pa_cons (pv 3) pa_nil)))
  pss_nil)
  pss_nil)
  pss_nil))
  pss_nil)
  pss_nil))
  (pss_cons (ps_ret (pv 2))
  pss_nil))), fun m B0 H0 ⟨ms, im⟩ Q hp ha q => ?_⟩)
  have hn : ms.length ≤ 256 := ha
  have z4 : (256 : Nat) < sizeLine := by decide
  refine st_newL fun a => ?_
  refine st_forR (n := ms.length) (F := fun k => dI (k : Int)) (fun _ => [some (rT K (ms.map dI)), some (dI (im : Int)), some (rV (.ref a)), none, none, none, none]) (fun J k => iLst J a (dK ((List.range k).filter (isLeast ms im)))) fam_lst ?_ (.same (.same (.same (.skip (.skip (.skip (.skip .nil))))))) (fun J c hJ hc => ⟨_, _, tg_name, ?_⟩) ?_
  · exact ei_rngN ((ea1 (ev_lenT (vr 0))).le (.cons (le_eq (by rw [List.length_map])) .nil)) (by omega)
  · have hlz : ((dK ((List.range c).filter (isLeast ms im))).length) < sizeLine := by
      unfold dK
      rw [List.length_map]
      exact Nat.lt_of_le_of_lt (Nat.le_trans (List.length_filter_le _ _) (by rw [List.length_range]; omega)) z4
    refine st_if (eb_test (ev_eqI (ev_bit (ev_ixT (vr 0) (vr 3) (getI hc)) (vr 1)) kI)) (fun h => ?_) (fun h => st_nxt (st_to (.same (.same (.same (.skip (.skip (.skip (.skip .nil))))))) fun B H hi => ?_))
    · refine st_set (R := rL ((lesser ms c).map dI)) ?_ ?_
      · refine (ev_lcA (xs := bitsOf (c : Int)) (R0 := fun e => dI (e : Int)) (fun e => dI (ms.getD (c - 2 ^ e) 0)) (Nat.lt_of_le_of_lt (bits_len _) (by decide)) (ei_seqL (ev_call (c : Int) trivial (ea1 (vr 3)))) (fun e he => ⟨_, _, tg_name, fun j hj => hj, ?_⟩)).to (by unfold lesser; rw [List.map_map] <;> rfl)
        obtain ⟨he8, hbit⟩ := mem_bits.mp he
        have hge := tb1_ge hbit
        refine ev_ixT (vr 0) (ev_sub (vr 3) (ev_shl kI (vr 5) (shl1 (by omega)))) ?_
        have e : (c : Int) - 1 * 2 ^ ((e : Int)).toNat = ((c - 2 ^ e : Nat) : Int) := by
          have := sh1_eq e
          unfold sh1 at this
          rw [this, Int.ofNat_sub hge]
        rw [e]
        exact getI (Nat.lt_of_le_of_lt (Nat.sub_le _ _) hc)
      · refine st_if (eb_B (ev_all (bs := (lesser ms c).map fun x => decide (b1 x im = 0)) ((ev_lcA (xs := lesser ms c) (R0 := dI) (fun x => dB (decide (b1 x im = 0))) ?_ (ei_seqL (vr 4)) (fun x hx => ⟨_, _, tg_name, fun j hj => hj, ev_eqI (ev_bit (vr 6) (vr 1)) kI⟩)).to (by rw [List.map_map] <;> rfl)))) (fun h2 => ?_) (fun h2 => st_nxt (st_nxt (st_to (.same (.same (.same (.skip (.skip (.skip (.skip .nil))))))) fun B H hi => ?_)))
        · unfold lesser
          rw [List.length_map]
          exact Nat.lt_of_le_of_lt (bits_len _) (by decide)
        · refine st_app (vr 2) (vr 3) hlz (st_nxt (st_nxt (st_to (.same (.same (.same (.skip (.skip (.skip (.skip .nil))))))) fun B H hi => ?_)))
          rw [dK_app, show isLeast ms im c = true by unfold isLeast; rw [show tb1 (ms.getD c 0) im = true from h.symm, ← h2] <;> rfl]
          exact hi
        · rw [dK_app, show isLeast ms im c = false by unfold isLeast; rw [show tb1 (ms.getD c 0) im = true from h.symm, ← h2] <;> rfl]
          exact iLst_le (by rw [show (if (false : Bool) = true then [dI (c : Int)] else []) = [] from rfl, List.append_nil]; exact Les.refl _) hi
    · rw [dK_app, show isLeast ms im c = false by unfold isLeast; rw [show tb1 (ms.getD c 0) im = false from h.symm] <;> rfl]
      exact iLst_le (by rw [show (if (false : Bool) = true then [dI (c : Int)] else []) = [] from rfl, List.append_nil]; exact Les.refl _) hi
  · exact st_frz 2 rfl (st_ret (vr 2) q)
/-! reached bits -/
def reachS (ms : List Int) (e : Nat) (f : Int) (c : Nat) : Int := if b1 (c : Int) e = 0 then Builtin.bitOr f (Builtin.bitXor (ms.getD c 0) (ms.getD (c + 2 ^ e) 0)) else f
def reachV (ms : List Int) (e k : Nat) : Int := (List.range k).foldl (reachS ms e) 0
theorem reachV_succ (ms : List Int) (e k : Nat) : reachV ms e (k + 1) = reachS ms e (reachV ms e k) k := by
  unfold reachV
  rw [List.range_succ, List.foldl_append] <;> rfl
theorem add_bit_lt {n c e : Nat} (hc : c < 2 ^ n) (he : e < n) (hb : b1 (c : Int) e = 0) : c + 2 ^ e < 2 ^ n := by
  unfold b1 at hb
  rw [bitAnd_m1, Int.toNat_natCast] at hb
  have h2 : ((2 : Int) ^ e) = ((2 ^ e : Nat) : Int) := by rw [Int.natCast_pow]; rfl
  rw [h2] at hb
  have hb' : (c / 2 ^ e) % 2 = 0 := by
    have : (((c / 2 ^ e) % 2 : Nat) : Int) = 0 := by rw [Int.natCast_emod, Int.natCast_ediv]; exact hb
    exact Int.ofNat_eq_zero.mp this
  obtain ⟨d, rfl⟩ : ∃ d, n = e + 1 + d := ⟨n - e - 1, by omega⟩
  have e1 : 2 ^ (e + 1 + d) = 2 ^ e * (2 * 2 ^ d) := by rw [Nat.pow_add, Nat.pow_succ, Nat.mul_assoc]
  rw [e1] at hc ⊢
  have hp : 0 < 2 ^ e := Nat.two_pow_pos e
  have h3 : c / 2 ^ e < 2 * 2 ^ d := Nat.div_lt_of_lt_mul hc
  have h4 : c / 2 ^ e + 1 < 2 * 2 ^ d := by omega
  have h5 : c + 2 ^ e < 2 ^ e * (c / 2 ^ e + 2) := by
    have := Nat.div_add_mod c (2 ^ e)
    have := Nat.mod_lt c hp
    rw [Nat.mul_add]
    omega
  exact Nat.lt_of_lt_of_le h5 (Nat.mul_le_mul_left _ (by omega))
abbrev a_reached_bits : Mt → List Int × Nat × Nat → List Rp := fun _ z => [rT K (z.1.map dI), dI (z.2.1 : Int)]
abbrev sp_reached_bits : Sp := spF (a_reached_bits (K := K)) (fun z => z.2.2 ≤ 8 ∧ z.1.length = 2 ^ z.2.2 ∧ z.2.1 < z.2.2) (fun _ z => rL (dK (bitsOf (reachV z.1 z.2.1 z.1.length))))
theorem c_reached_bits (T : Tx w K mg) (c_bits_of : Cal P w K mg base 1 "bits_of" sp_bits_of) (D : Df K mg "reached_bits" "reached_bits" s_reached_bits) : Cal P w K mg base 2 "reached_bits" (sp_reached_bits (K := K)) := by
  refine cal_of D sc_reached_bits (fun _ _ _ _ _ _ us hl => match us, hl with | [_, _], _ => rfl) (fun _ _ => rfl) (by decide) (fun f cdv A outer s H E hr => ⟨_, (pss_cons (ps_set (i := 2) sc_reached_bits.nd rfl (.inl rfl) pe_int)
  (pss_cons (ps_for PassesOwn.never rfl (pi_range1 (by rfl) T.b_range (pa_cons (pe_callB (call_lenK (K := K) rfl) (by rfl) T.b_len (by decide +kernel) (pa_cons (pv 0) pa_nil)) pa_nil)) (pg_nameX (i := 3) sc_reached_bits.nd rfl (.inl rfl) (.inr rfl))
  (pss_cons (ps_if (pt_cmpR (op_eqK (K := K) hr rfl rfl) (pe_op op_and (pe_op op_shr (pv 3) (pv 1)) pe_int) pe_int (nomark _))
  (pss_cons (ps_set (i := 2) sc_reached_bits.nd rfl (.inl rfl) (pe_op op_or (pv 2) (pe_op op_xor (pe_ix (ix_seqK (K := K) rfl) (pv 0) (pv 3) (fun _ _ => rfl)) (pe_ix (ix_seqK (K := K) rfl) (pv 0) (pe_op op_addA (pv 3) (pe_op op_shlW pe_int (pv 1))) (fun _ _ => rfl)))))
  pss_nil)
  pss_nil)
  pss_nil))
  (pss_cons (ps_ret (pe_cal c_bits_of hr (by decide) (by rfl) (pa_cons (pv 2) pa_nil)))
  pss_nil))), fun m B0 H0 ⟨ms, en, n⟩ Q hp ha q => ?_⟩)
  obtain ⟨hn, hl, he⟩ := ha
  simp only at hn hl he
  have hp := p8 hn
  refine st_set kI ?_
  refine st_forR (n := ms.length) (F := fun k => dI (k : Int)) (fun k => [some (rT K (ms.map dI)), some (dI (en : Int)), some (dI (reachV ms en k)), none]) (fun J k => J) fam_id ?_ (.same (.same (.same (.skip .nil)))) (fun J c hJ hc => ⟨_, _, tg_name, ?_⟩) ?_
  · exact ei_rngN ((ea1 (ev_lenT (vr 0))).le (.cons (le_eq (by rw [List.length_map])) .nil)) (by omega)
  · refine st_if (eb_test (ev_eqI (ev_bit (vr 3) (vr 1)) kI)) (fun h => ?_) (fun h => st_nxt (st_to (.same (.same (.cons (le_eq ?_) (.skip .nil)))) fun B H hi => hi))
    · have h0 : b1 (c : Int) en = 0 := of_decide_eq_true h.symm
      refine st_set (R := dI (reachV ms en (c + 1))) ((ev_bor (vr 2) (ev_bxor (ev_ixT (vr 0) (vr 3) (getI hc)) (ev_ixT (R := dI (ms.getD (c + 2 ^ en) 0)) (vr 0) (ev_add (vr 3) (ev_shl kI (vr 1) (shl1 (by omega)))) ?_))).to ?_) (st_nxt (st_to (.same (.same (.same (.skip .nil)))) fun B H hi => hi))
      · have e : (c : Int) + 1 * 2 ^ ((en : Int)).toNat = ((c + 2 ^ en : Nat) : Int) := by
          have := sh1_eq en
          unfold sh1 at this
          rw [this, Int.natCast_add]
        rw [e]
        exact getI (by rw [hl]; exact add_bit_lt (by rw [← hl]; exact hc) he h0)
      · rw [reachV_succ]
        unfold reachS
        rw [if_pos h0]
    · have h0 : ¬ b1 (c : Int) en = 0 := of_decide_eq_false h.symm
      rw [reachV_succ]
      unfold reachS
      rw [if_neg h0]
  · exact st_ret (ev_call _ trivial (ea1 (vr 2))) q
end
end Sq
/-! Sq, part F5: deeds. -/
namespace Sq
open PySem PySem.Spec PyProof.Rows L2
/-! ### words of deeds, by their numbers -/
def spR (k : Nat) : Nat := match k with | 0 => 0 | 1 => 1 | 2 => 0 | 3 => 3 | 4 => 2 | 5 => 1 | 6 => 2 | _ => 3
def spC (k : Nat) : Nat := match k with | 0 => 1 | 1 => 0 | 2 => 3 | 3 => 0 | 4 => 1 | 5 => 2 | 6 => 3 | _ => 2
def numV (k : Nat) (n i j : Int) : Int := match k with | 0 => i | 1 => j | 2 => n - 1 - i | _ => n - 1 - j
def plc (k : Nat) (n : Int) (c : Cell) : Cell := (numV (spR k) n c.1 c.2, numV (spC k) n c.1 c.2)
/-- the classes' facts -/
structure ClF (K : PySem.W.Frag) (C : Addr) (ns : List Str) : Prop where
  cl : Cls K C
  na : ∀ f ∈ ns, NoAttr K C f
structure Ty (w : World) (K : PySem.W.Frag) (mg : Str → Option Value) : Prop extends Tx w K mg where
  g_FEWEST : ∃ u, mg "FEWEST" = some u ∧ RelV (.ref (He.ga K "FEWEST")) u
  g_MOST : ∃ u, mg "MOST" = some u ∧ RelV (.ref (He.ga K "MOST")) u
  g_PLACES : ∃ u, mg "PLACES" = some u ∧ RelV (.ref (He.ga K "PLACES")) u
  g_NUMBERS : ∃ u, mg "NUMBERS" = some u ∧ RelV (.ref (He.ga K "NUMBERS")) u
  g_SIGNS : ∃ u, mg "SIGNS" = some u ∧ RelV (.ref (He.ga K "SIGNS")) u
  d_FEWEST : ∃ es n, KDict K w (He.ga K "FEWEST") es n
  l_FEWEST : ∀ k, k < 4 → KDct K w (He.ga K "FEWEST") (wordText k) (.int (few k))
  l_MOST : ∀ k, k < 4 → KDct K w (He.ga K "MOST") (wordText k) (.int (most k))
  t_PLACES : ∀ H, SqT K H (He.ga K "PLACES") (((List.range 8).map spotText).map V.str)
  t_NUMBERS : ∀ H, SqT K H (He.ga K "NUMBERS") (((List.range 4).map numText).map V.str)
  t_SIGNS : ∀ H, SqT K H (He.ga K "SIGNS") (((List.range 4).map signText).map V.str)
  m_Deed : mg "Deed" = some (.ref (He.ga K "Deed"))
  f_Deed : ClF K (He.ga K "Deed") ["word", "spots", "guard"]
  m_Nest : mg "Nest" = some (.ref (He.ga K "Nest"))
  f_Nest : ClF K (He.ga K "Nest") ["over", "below", "texts", "parsed"]
  i_Nest : C8.InsC K (He.ga K "Nest")
  m_Program : mg "Program" = some (.ref (He.ga K "Program"))
  f_Program : ClF K (He.ga K "Program") ["parts"]
  i_Program : C8.InsC K (He.ga K "Program")
  m_Sizes : mg "Sizes" = some (.ref (He.ga K "Sizes"))
  f_Sizes : ClF K (He.ga K "Sizes") ["tails", "few"]
  m_Action : mg "Action" = some (.ref (He.ga K "Action"))
  f_Action : ClF K (He.ga K "Action") ["moves", "gaps"]
  g_Nest : ∃ u, mg "Nest" = some u ∧ RelV (.ref (He.ga K "Nest")) u
  g_Program : ∃ u, mg "Program" = some u ∧ RelV (.ref (He.ga K "Program")) u
  g_Action : ∃ u, mg "Action" = some u ∧ RelV (.ref (He.ga K "Action")) u
  g_meet_rows : ∃ u, mg "meet_rows" = some u ∧ RelV (.ref (He.ga K "meet_rows")) u
  g_join_rows : ∃ u, mg "join_rows" = some u ∧ RelV (.ref (He.ga K "join_rows")) u
  g_KINDS : ∃ u, mg "KINDS" = some u ∧ RelV (.ref (He.ga K "KINDS")) u
  t_KINDS : ∀ B, (rT K (kinds.map (rKd K))).p B (.ref (He.ga K "KINDS"))
theorem split_join {y : Str} {c : Nat} (hy : y.cps.toList = [c]) (hc : c < 256) {parts : List Str} (hne : parts ≠ []) (h : ∀ p ∈ parts, c ∉ p.cps.toList) : Txt.split (Txt.join y parts) y = parts := by
  rw [split_codes (by rw [hy]; exact List.cons_ne_nil _ _) (by rw [hy]; simpa using hc), TL.join_eq]
  have e : (Str.join y parts).cps.toList = TL.joinL [c] (parts.map TL.tl) := by
    have := TL.tl_join y parts
    rw [show TL.tl y = [c] from hy] at this
    exact this
  rw [e, hy, TL.spl_join (s := c) (S := []) (by simpa using hne) (fun p hp => by
    obtain ⟨z, hz, rfl⟩ := List.mem_map.mp hp
    exact h z hz), List.map_map]
  exact (List.map_congr_left fun x _ => SX.S_tl x).trans (List.map_id _)
theorem spot_split {k : Nat} (h : k < 8) : Txt.split (spotText k) "," = [numText (spR k), numText (spC k)] := by
  have h' : ∀ k, k < 8 → spotText k = Txt.join "," [numText (spR k), numText (spC k)] ∧ 44 ∉ (numText (spR k)).cps.toList ∧ 44 ∉ (numText (spC k)).cps.toList := by decide +kernel
  obtain ⟨h1, h2, h3⟩ := h' k h
  rw [h1]
  refine split_join (c := 44) (by decide +kernel) (by decide) (List.cons_ne_nil _ _) fun p hp => ?_
  rcases List.mem_cons.mp hp with e | e
  · rw [e]; exact h2
  · rw [List.mem_singleton.mp e]; exact h3
section
variable {P : Program} {w : World} {K : PySem.W.Frag} {mg : Str → Option Value} {base : Heap} {m : Mt} {Γ : Gm} {ta tb te : TE}
theorem all_strs {B : Hp} : ∀ ys : List Str, AllR (ys.map dS) B (ys.map V.str)
  | [] => rfl
  | y :: ys => ⟨_, _, rfl, rfl, all_strs ys⟩
theorem ev_gts {a : Addr} {ys : List Str} (h : ∀ H, SqT K H a (ys.map V.str)) : EvG m (tC (.ref a)) Γ (rT K (ys.map dS)) := ev_c.le fun B v e => ⟨a, _, e, h B, all_strs ys⟩
/-! is_guard -/
def guardWords (g : Nat × Nat × Nat) : List Str := [numText g.1, signText g.2.1, numText g.2.2]
def GdOk (g : Nat × Nat × Nat) : Prop := g.1 < 4 ∧ g.2.1 < 4 ∧ g.2.2 < 4 ∧ g.1 ≠ g.2.2
abbrev a_is_guard : Mt → Nat × Nat × Nat → List Rp := fun _ z => [rL ((guardWords z).map dS)]
abbrev sp_is_guard : Sp := spF a_is_guard GdOk (fun _ _ => dB true)
theorem num_mem {k : Nat} (h : k < 4) : decide (numText k ∈ (List.range 4).map numText) = true := decide_eq_true (List.mem_map.mpr ⟨k, List.mem_range.mpr h, rfl⟩)
theorem sign_mem {k : Nat} (h : k < 4) : decide (signText k ∈ (List.range 4).map signText) = true := decide_eq_true (List.mem_map.mpr ⟨k, List.mem_range.mpr h, rfl⟩)
theorem num_ne {a b : Nat} (ha : a < 4) (hb : b < 4) (h : a ≠ b) : (!decide (numText a = numText b)) = true := by
  have h' : ∀ a, a < 4 → ∀ b, b < 4 → a ≠ b → (!decide (numText a = numText b)) = true := by decide +kernel
  exact h' a ha b hb h
theorem c_is_guard (T : Ty w K mg) (D : Df K mg "is_guard" "is_guard" s_is_guard) : Cal P w K mg base 1 "is_guard" sp_is_guard := by
  refine cal_of D sc_is_guard (fun _ _ _ _ _ _ us hl => match us, hl with | [_], _ => rfl) (fun _ _ => rfl) (by decide) (fun f cdv A outer s H E hr => ⟨_, (pss_cons (ps_if (PW.pt (pw_or (pt_cmpR (op_neK (K := K) hr rfl rfl) (pe_callB (call_lenK (K := K) rfl) (by rfl) T.b_len (by decide +kernel) (pa_cons (pv 0) pa_nil)) pe_int (nomark _)) (pw_or1 (pt_cmpR (op_niK (K := K) hr rfl rfl) (pe_ix (ix_seqK (K := K) rfl) (pv 0) pe_int (fun _ _ => rfl)) (C8.pe_gc (by rfl) T.g_SIGNS) (by rfl)))))
  (pss_cons (ps_ret pe_bl)
  pss_nil)
  pss_nil)
  (pss_cons (ps_ret (pe_and (pe_cmpR (op_inK (K := K) hr rfl rfl) (pe_ix (ix_seqK (K := K) rfl) (pv 0) pe_int (fun _ _ => rfl)) (C8.pe_gc (by rfl) T.g_NUMBERS) (by rfl)) (pe_and (pe_cmpR (op_inK (K := K) hr rfl rfl) (pe_ix (ix_seqK (K := K) rfl) (pv 0) pe_int (fun _ _ => rfl)) (C8.pe_gc (by rfl) T.g_NUMBERS) (by rfl)) (pe_one (pe_cmpR (op_neK (K := K) hr rfl rfl) (pe_ix (ix_seqK (K := K) rfl) (pv 0) pe_int (fun _ _ => rfl)) (pe_ix (ix_seqK (K := K) rfl) (pv 0) pe_int (fun _ _ => rfl)) (nomark _))))))
  pss_nil)), fun m B0 H0 ⟨a, g, b⟩ Q hp ha q => ?_⟩)
  obtain ⟨h1, h2, h3, h4⟩ := ha
  simp only at h1 h2 h3 h4
  refine st_if (eb_to (eb_orE (b := false) (c := false) (eb_test ((ev_neI (ev_lenL (vr 0)) kI).to rfl)) (fun _ => eb_test ((ev_niST (ev_ixL (vr 0) kI (atN (n := 1) rfl)) (ev_gts T.t_SIGNS)).to (congrArg dB (by rw [sign_mem h2] <;> rfl))))) rfl) (fun h => nomatch h) (fun _ => st_nxt ?_)
  exact st_ret ((ev_andE (b := true) (c := true) ((ev_inST (ev_ixL (vr 0) kI (atN (n := 0) rfl)) (ev_gts T.t_NUMBERS)).to (congrArg dB (num_mem h1))) (fun _ => ev_andE (b := true) (c := true) ((ev_inST (ev_ixL (vr 0) kI (atN (n := 2) rfl)) (ev_gts T.t_NUMBERS)).to (congrArg dB (num_mem h3))) (fun _ => (ev_neS (ev_ixL (vr 0) kI (atN (n := 0) rfl)) (ev_ixL (vr 0) kI (atN (n := 2) rfl))).to (congrArg dB (num_ne h1 h3 h4)))))) q
/-! number_of, place_cell -/
abbrev a_number_of : Mt → Nat × Int × Int × Int → List Rp := fun _ z => [dS (numText z.1), dI z.2.1, dI z.2.2.1, dI z.2.2.2]
abbrev sp_number_of : Sp := spF a_number_of (fun z => z.1 < 4) (fun _ z => dI (numV z.1 z.2.1 z.2.2.1 z.2.2.2))
theorem num_ends {k : Nat} (h : k < 4) : Txt.endswith (numText k) "j" = decide (k = 1 ∨ k = 3) := by
  have h' : ∀ k, k < 4 → Txt.endswith (numText k) "j" = decide (k = 1 ∨ k = 3) := by decide +kernel
  exact h' k h
theorem num_starts {k : Nat} (h : k < 4) : Txt.startswith (numText k) "~" = decide (2 ≤ k) := by
  have h' : ∀ k, k < 4 → Txt.startswith (numText k) "~" = decide (2 ≤ k) := by decide +kernel
  exact h' k h
theorem c_number_of (D : Df K mg "number_of" "number_of" s_number_of) : Cal P w K mg base 1 "number_of" sp_number_of := by
  refine cal_of D sc_number_of (fun _ _ _ _ _ _ us hl => match us, hl with | [_, _, _, _], _ => rfl) (fun _ _ => rfl) (by decide) (fun f cdv A outer s H E hr => ⟨_, (pss_cons (ps_set (i := 4) sc_number_of.nd rfl (.inl rfl) (pe_ifExp (pt_val (pe_m1 PySem.F.slot_str_endswith PySem.F.type_str_endswith mt_endswith (pv 0) pe_str)) (pv 3) (pv 2)))
  (pss_cons (ps_ret (pe_ifExp (pt_val (pe_m1 PySem.F.slot_str_startswith PySem.F.type_str_startswith mt_startswith (pv 0) pe_str)) (pe_op op_sub (pe_op op_sub (pv 1) pe_int) (pv 4)) (pv 4)))
  pss_nil)), fun m B0 H0 ⟨k, n, i, j⟩ Q hp ha q => ?_⟩)
  have hk : k < 4 := ha
  refine st_set (R := dI (if k = 1 ∨ k = 3 then j else i)) (ev_if (eb_B ((ev_ends (vr 0) kS).to (congrArg dB (num_ends hk)))) (fun h => (vr 3).to ?_) (fun h => (vr 2).to ?_)) ?_
  · rw [if_pos (of_decide_eq_true h.symm)]
  · rw [if_neg (of_decide_eq_false h.symm)]
  refine st_ret (ev_if (eb_B ((ev_starts (vr 0) kS).to (congrArg dB (num_starts hk)))) (fun h => (ev_sub (ev_sub (vr 1) kI) (vr 4)).to (congrArg dI ?_)) (fun h => (vr 4).to (congrArg dI ?_))) q
  · have h2 : 2 ≤ k := of_decide_eq_true h.symm
    rcases (show k = 2 ∨ k = 3 by omega) with e | e <;> subst e <;> rfl
  · have h2 : ¬ 2 ≤ k := of_decide_eq_false h.symm
    rcases (show k = 0 ∨ k = 1 by omega) with e | e <;> subst e <;> rfl
abbrev a_place_cell : Mt → Nat × Int × Cell → List Rp := fun _ z => [dS (spotText z.1), dI z.2.1, dI z.2.2.1, dI z.2.2.2]
abbrev sp_place_cell : Sp := spF a_place_cell (fun z => z.1 < 8) (fun _ z => rCellN (plc z.1 z.2.1 z.2.2))
theorem sp_lt {k : Nat} : spR k < 4 ∧ spC k < 4 := ⟨by unfold spR; split <;> decide, by unfold spC; split <;> decide⟩
theorem spot_len {k : Nat} (h : k < 8) : (spotText k).length + 2 ≤ sizeLine := by
  have h' : ∀ k, k < 8 → (spotText k).length + 2 ≤ 20 := by decide +kernel
  exact Nat.le_trans (h' k h) (by decide)
theorem c_place_cell (c_number_of : Cal P w K mg base 1 "number_of" sp_number_of) (D : Df K mg "place_cell" "place_cell" s_place_cell) : Cal P w K mg base 2 "place_cell" sp_place_cell := by
  refine cal_of D sc_place_cell (fun _ _ _ _ _ _ us hl => match us, hl with | [_, _, _, _], _ => rfl) (fun _ _ => rfl) (by decide) (fun f cdv A outer s H E hr => ⟨_, (pss_cons (ps_asg (pe_split (pv 0) pe_str) (pg_unK (K := K) rfl rfl rfl rfl (pgs_cons (pg_nameX (i := 4) sc_place_cell.nd rfl (.inl rfl) (.inr rfl)) (pgs_cons (pg_nameX (i := 5) sc_place_cell.nd rfl (.inl rfl) (.inr rfl)) pgs_nil))))
  (pss_cons (ps_ret (pe_tup (pa_cons (pe_cal c_number_of hr (by decide) (by rfl) (pa_cons (pv 4) (pa_cons (pv 1) (pa_cons (pv 2) (pa_cons (pv 3) pa_nil))))) (pa_cons (pe_cal c_number_of hr (by decide) (by rfl) (pa_cons (pv 5) (pa_cons (pv 1) (pa_cons (pv 2) (pa_cons (pv 3) pa_nil))))) pa_nil))))
  pss_nil)), fun m B0 H0 ⟨k, n, i, j⟩ Q hp ha q => ?_⟩)
  have hk : k < 8 := ha
  refine st_asg (R := rL [dS (numText (spR k)), dS (numText (spC k))]) ((ev_split (vr 0) kS (by decide) (spot_len hk)).to (by rw [spot_split hk] <;> rfl)) (tg_unL tgs2) ?_
  exact st_ret (ev_tupN (ea2 (ev_call (spR k, n, i, j) sp_lt.1 (ea_cons (vr 4) (ea_cons (vr 1) (ea2 (vr 2) (vr 3))))) (ev_call (spC k, n, i, j) sp_lt.2 (ea_cons (vr 5) (ea_cons (vr 1) (ea2 (vr 2) (vr 3))))))) q
/-! holds -/
def gdW (g : Option (Nat × Nat × Nat)) : List Str := match g with | none => [] | some g => guardWords g
def GoOk (g : Option (Nat × Nat × Nat)) : Prop := ∀ z, g = some z → GdOk z
abbrev a_holds : Mt → Option (Nat × Nat × Nat) × Int × Cell → List Rp := fun _ z => [rL ((gdW z.1).map dS), dI z.2.1, dI z.2.2.1, dI z.2.2.2]
abbrev rAB : Rp := rEx (fun _ : Bool => True) dB
theorem ab_any {b : Bool} : Le (dB b) rAB := le_ex b trivial (Le.refl _)
abbrev sp_holds : Sp := spF a_holds (fun z => GoOk z.1) (fun _ _ => rAB)
theorem c_holds (T : Ty w K mg) (c_number_of : Cal P w K mg base 1 "number_of" sp_number_of) (D : Df K mg "holds" "holds" s_holds) : Cal P w K mg base 2 "holds" sp_holds := by
  refine cal_of D sc_holds (fun _ _ _ _ _ _ us hl => match us, hl with | [_, _, _, _], _ => rfl) (fun _ _ => rfl) (by decide) (fun f cdv A outer s H E hr => ⟨_, (pss_cons (ps_if (pt_cmpR (op_eqK (K := K) hr rfl rfl) (pe_callB (call_lenK (K := K) rfl) (by rfl) T.b_len (by decide +kernel) (pa_cons (pv 0) pa_nil)) pe_int (nomark _))
  (pss_cons (ps_ret pe_bl)
  pss_nil)
  pss_nil)
  (pss_cons (ps_par (i := 4) (j := 5) rfl sc_holds.nd rfl rfl (by decide) rfl rfl (pa_cons (pe_cal c_number_of hr (by decide) (by rfl) (pa_cons (pe_ix (ix_seqK (K := K) rfl) (pv 0) pe_int (fun _ _ => rfl)) (pa_cons (pv 1) (pa_cons (pv 2) (pa_cons (pv 3) pa_nil))))) (pa_cons (pe_cal c_number_of hr (by decide) (by rfl) (pa_cons (pe_ix (ix_seqK (K := K) rfl) (pv 0) pe_int (fun _ _ => rfl)) (pa_cons (pv 1) (pa_cons (pv 2) (pa_cons (pv 3) pa_nil))))) pa_nil)) (by rfl))
  (pss_cons (ps_if (pt_cmpR (op_eqK (K := K) hr rfl rfl) (pe_ix (ix_seqK (K := K) rfl) (pv 0) pe_int (fun _ _ => rfl)) pe_str (nomark _))
  (pss_cons (ps_ret (pe_cmpR op_lt (pv 4) (pv 5) (nomark _)))
  pss_nil)
  pss_nil)
  (pss_cons (ps_if (pt_cmpR (op_eqK (K := K) hr rfl rfl) (pe_ix (ix_seqK (K := K) rfl) (pv 0) pe_int (fun _ _ => rfl)) pe_str (nomark _))
  (pss_cons (ps_ret (pe_cmpR op_le (pv 4) (pv 5) (nomark _)))
  pss_nil)
  pss_nil)
  (pss_cons (ps_ret (pe_cmpR (op_eqK (K := K) hr rfl rfl) (pe_cmpR (op_eqK (K := K) hr rfl rfl) (pv 4) (pv 5) (nomark _)) (pe_cmpR (op_eqK (K := K) hr rfl rfl) (pe_ix (ix_seqK (K := K) rfl) (pv 0) pe_int (fun _ _ => rfl)) pe_str (nomark _)) (nomark _)))
  pss_nil))))), fun m B0 H0 ⟨g, n, i, j⟩ Q hp ha q => ?_⟩)
  cases g with
  | none => exact st_if (eb_test (b := true) ((ev_eqI (ev_lenL (vr 0)) kI).to rfl)) (fun _ => st_ret (kB.le ab_any) q) (fun h => nomatch h)
  | some g =>
    obtain ⟨a, s2, b⟩ := g
    obtain ⟨h1, h2, h3, h4⟩ := ha _ rfl
    simp only at h1 h2 h3 h4
    refine st_if (eb_test (b := false) ((ev_eqI (ev_lenL (vr 0)) kI).to rfl)) (fun h => nomatch h) (fun _ => st_nxt ?_)
    refine st_par (Ra := dI (numV a n i j)) (Rb := dI (numV b n i j)) (by decide) (ea2 (ev_call (a, n, i, j) h1 (ea_cons (ev_ixL (vr 0) kI (atN (n := 0) rfl)) (ea_cons (vr 1) (ea2 (vr 2) (vr 3))))) (ev_call (b, n, i, j) h3 (ea_cons (ev_ixL (vr 0) kI (atN (n := 2) rfl)) (ea_cons (vr 1) (ea2 (vr 2) (vr 3)))))) ?_
    refine st_if (eb_test (ev_eqS (ev_ixL (vr 0) kI (atN (n := 1) rfl)) kS)) (fun _ => st_ret ((ev_lt (vr 4) (vr 5)).le ab_any) q) (fun _ => st_nxt ?_)
    refine st_if (eb_test (ev_eqS (ev_ixL (vr 0) kI (atN (n := 1) rfl)) kS)) (fun _ => st_ret ((ev_le (vr 4) (vr 5)).le ab_any) q) (fun _ => st_nxt ?_)
    exact st_ret ((ev_eqB (ev_eqI (vr 4) (vr 5)) (ev_eqS (ev_ixL (vr 0) kI (atN (n := 1) rfl)) kS)).le ab_any) q
/-! Deed -/
structure Dd where
  wd : Nat
  sp : List Nat
  gd : Option (Nat × Nat × Nat)
def DdOk (d : Dd) : Prop := d.wd < 4 ∧ few d.wd ≤ d.sp.length ∧ d.sp.length ≤ most d.wd ∧ (∀ k ∈ d.sp, k < 8) ∧ d.sp.Nodup ∧ GoOk d.gd
abbrev dn : List Str := ["word", "spots", "guard"]
abbrev dRs (d : Dd) : List Rp := [dS (wordText d.wd), rL (d.sp.map fun k => dS (spotText k)), rL ((gdW d.gd).map dS)]
abbrev rDeed (K : PySem.W.Frag) (d : Dd) : Rp := rO (He.ga K "Deed") dn (dRs d)
abbrev sp_Deed___init (K : PySem.W.Frag) : Sp := spI (fun _ (d : Dd) => dRs d) (fun _ => True) (He.ga K "Deed") dn (fun _ d => dRs d)
theorem c_Deed___init (T : Ty w K mg) (D : DfI K (He.ga K "Deed") "Deed.__init__" s_Deed___init) : Ini P w K mg base 1 (He.ga K "Deed") (sp_Deed___init K) := by
  refine ini_of D sc_Deed___init (fun _ _ _ _ _ _ us hl => match us, hl with | [_, _, _, _], _ => rfl) (fun _ _ => rfl) (by decide) (fun f cdv A outer s H E hr => ⟨_, (pss_cons (ps_fld (pv 0) (pv 1) rfl)
  (pss_cons (ps_fld (pv 0) (pv 2) rfl)
  (pss_cons (ps_fld (pv 0) (pv 3) rfl)
  pss_nil))), fun m B0 H0 d x Q hp ha q => ?_⟩)
  have fa := T.f_Deed
  refine st_fld (vr 1) rfl fa.cl (fa.na _ (by decide)) (by decide) rfl (by simp) ?_
  refine st_fld (vr 2) rfl fa.cl (fa.na _ (by decide)) (by decide) rfl (by simp) ?_
  exact st_fld (vr 3) rfl fa.cl (fa.na _ (by decide)) (by decide) rfl (by simp) (st_end q)
end
end Sq
/-! Sq, part F6: the texts of deeds. -/
namespace Sq
open PySem PySem.Spec PyProof.Rows L2
section
variable {m : Mt} {Γ : Gm} {ta tb te : TE} {K : PySem.W.Frag} {Rs : List Rp}
theorem take_min {α : Type} (xs : List α) (k : Nat) : xs.take (min k xs.length) = xs.take k := by
  rcases Nat.le_total k xs.length with h | h
  · rw [Nat.min_eq_left h]
  · rw [Nat.min_eq_right h, List.take_of_length_le (Nat.le_refl _), List.take_of_length_le h]
theorem drop_min {α : Type} (xs : List α) (k : Nat) : xs.drop (min k xs.length) = xs.drop k := by
  rcases Nat.le_total k xs.length with h | h
  · rw [Nat.min_eq_left h]
  · rw [Nat.min_eq_right h, List.drop_of_length_le (Nat.le_refl _), List.drop_of_length_le h]
/-- xs[:k], xs[k:] -/
theorem ev_upto {k : Nat} (ha : EvG m ta Γ (rL Rs)) (hk : EvG m tb Γ (dI (k : Int))) : EvG m (tSl (rSlQ K) ta tNoPart (tPart tb)) Γ (rL (Rs.take k)) :=
  (ev_sliceL ha ep_no (ep_some hk)).to (by rw [HT.sIx_nat, HT.sIx_none, List.drop_zero, Nat.sub_zero, take_min])
theorem ev_past {k : Nat} (ha : EvG m ta Γ (rL Rs)) (hk : EvG m tb Γ (dI (k : Int))) : EvG m (tSl (rSlQ K) ta (tPart tb) tNoPart) Γ (rL (Rs.drop k)) :=
  (ev_sliceL ha (ep_some hk) ep_no).to (by rw [HT.sIx_nat, HT.sIx_none, drop_min, List.take_of_length_le (by
    rw [List.length_drop]
    rcases Nat.le_total k Rs.length with h | h
    · rw [Nat.min_eq_left h]; exact Nat.le_refl _
    · rw [Nat.min_eq_right h]; omega)])
end
theorem join_len (y : Str) (B : Nat) : ∀ parts : List Str, (∀ p ∈ parts, p.length ≤ B) → (Str.join y parts).length ≤ parts.length * (B + y.length)
  | [], _ => by show (0 : Nat) ≤ _; exact Nat.zero_le _
  | [x], h => by
    show x.length ≤ _
    have := h x List.mem_cons_self
    simp only [List.length_cons, List.length_nil]
    omega
  | x :: z :: r, h => by
    show (x ++ y ++ Str.join y (z :: r)).length ≤ _
    rw [app_len, app_len]
    have h1 := h x List.mem_cons_self
    have h2 := join_len y B (z :: r) fun p hp => h p (List.mem_cons_of_mem _ hp)
    rw [List.length_cons (a := x), Nat.add_mul, Nat.one_mul]
    omega
theorem tjoin_len {y : Str} {B : Nat} {parts : List Str} (h : ∀ p ∈ parts, p.length ≤ B) : (Txt.join y parts).length ≤ parts.length * (B + y.length) := by
  rw [TL.join_eq]
  exact join_len y B parts h
theorem sum_len {B : Nat} : ∀ {parts : List Str}, (∀ p ∈ parts, p.length ≤ B) → (parts.map (·.length)).sum ≤ parts.length * B
  | [], _ => by simp
  | x :: r, h => by
    rw [List.map_cons, List.sum_cons, List.length_cons, Nat.add_mul, Nat.one_mul]
    have := h x List.mem_cons_self
    have := sum_len (parts := r) fun p hp => h p (List.mem_cons_of_mem _ hp)
    omega
def deedHead (d : Dd) : List Str := wordText d.wd :: d.sp.map spotText
def deedWords (d : Dd) : List Str := deedHead d ++ (match d.gd with | none => [] | some g => ("if" : Str) :: guardWords g)
def deedText (d : Dd) : Str := Txt.join " " (deedWords d)
theorem word_ok {k : Nat} (h : k < 4) : wordText k ≠ "if" ∧ 32 ∉ (wordText k).cps.toList ∧ (wordText k).length ≤ 5 ∧ 10 ∉ (wordText k).cps.toList := by
  have h' : ∀ k, k < 4 → wordText k ≠ "if" ∧ 32 ∉ (wordText k).cps.toList ∧ (wordText k).length ≤ 5 ∧ 10 ∉ (wordText k).cps.toList := by decide +kernel
  exact h' k h
theorem spot_ok {k : Nat} (h : k < 8) : spotText k ≠ "if" ∧ 32 ∉ (spotText k).cps.toList ∧ (spotText k).length ≤ 5 ∧ 10 ∉ (spotText k).cps.toList := by
  have h' : ∀ k, k < 8 → spotText k ≠ "if" ∧ 32 ∉ (spotText k).cps.toList ∧ (spotText k).length ≤ 5 ∧ 10 ∉ (spotText k).cps.toList := by decide +kernel
  exact h' k h
theorem num_ok {k : Nat} (h : k < 4) : 32 ∉ (numText k).cps.toList ∧ (numText k).length ≤ 5 ∧ 10 ∉ (numText k).cps.toList ∧ 32 ∉ (signText k).cps.toList ∧ (signText k).length ≤ 5 ∧ 10 ∉ (signText k).cps.toList := by
  have h' : ∀ k, k < 4 → 32 ∉ (numText k).cps.toList ∧ (numText k).length ≤ 5 ∧ 10 ∉ (numText k).cps.toList ∧ 32 ∉ (signText k).cps.toList ∧ (signText k).length ≤ 5 ∧ 10 ∉ (signText k).cps.toList := by decide +kernel
  exact h' k h
theorem if_ok : 32 ∉ ("if" : Str).cps.toList ∧ ("if" : Str).length ≤ 5 ∧ 10 ∉ ("if" : Str).cps.toList := by decide +kernel
theorem head_ok {d : Dd} (h : DdOk d) : ∀ p ∈ deedHead d, p ≠ "if" ∧ 32 ∉ p.cps.toList ∧ p.length ≤ 5 ∧ 10 ∉ p.cps.toList := fun p hp => by
  obtain ⟨h1, h2, h3, h4, h5, h6⟩ := h
  rcases List.mem_cons.mp hp with e | e
  · rw [e]; exact word_ok h1
  · obtain ⟨k, hk, e⟩ := List.mem_map.mp e
    rw [← e]; exact spot_ok (h4 k hk)
theorem words_ok {d : Dd} (h : DdOk d) : ∀ p ∈ deedWords d, 32 ∉ p.cps.toList ∧ p.length ≤ 5 ∧ 10 ∉ p.cps.toList := fun p hp => by
  rcases List.mem_append.mp hp with e | e
  · exact (head_ok h p e).2
  · cases hg : d.gd with
    | none => rw [hg] at e; exact absurd e List.not_mem_nil
    | some g =>
      rw [hg] at e
      obtain ⟨g1, g2, g3, g4⟩ := h.2.2.2.2.2 g hg
      rcases List.mem_cons.mp e with e | e
      · rw [e]; exact if_ok
      · have n1 := num_ok g1
        have n2 := num_ok g2
        have n3 := num_ok g3
        rcases List.mem_cons.mp e with e | e
        · rw [e]; exact ⟨n1.1, n1.2.1, n1.2.2.1⟩
        · rcases List.mem_cons.mp e with e | e
          · rw [e]; exact n2.2.2.2
          · rw [List.mem_singleton.mp e]; exact ⟨n3.1, n3.2.1, n3.2.2.1⟩
theorem deed_split {d : Dd} (h : DdOk d) : Txt.split (deedText d) " " = deedWords d :=
  split_join (c := 32) (by decide +kernel) (by decide) (by unfold deedWords deedHead; exact List.cons_ne_nil _ _) fun p hp => (words_ok h p hp).1
theorem sp_len {d : Dd} (h : DdOk d) : d.sp.length ≤ 8 ∧ 2 ≤ d.sp.length := by
  obtain ⟨h1, h2, h3, _⟩ := h
  unfold few at h2
  unfold most at h3
  split at h2 <;> split at h3 <;> omega
theorem deed_count {d : Dd} (h : DdOk d) : (deedWords d).length ≤ 13 := by
  unfold deedWords deedHead
  rw [List.length_append, List.length_cons, List.length_map]
  have := (sp_len h).1
  cases d.gd with
  | none => simp only [List.length_nil]; omega
  | some g => show _ + 4 ≤ 13; omega
theorem one_len : (" " : Str).length = 1 := by decide +kernel
theorem deed_len {d : Dd} (h : DdOk d) : (deedText d).length ≤ 78 := by
  have h1 := tjoin_len (y := " ") (B := 5) fun p hp => (words_ok h p hp).2.1
  rw [one_len] at h1
  have := deed_count h
  unfold deedText
  omega
theorem deed_if {d : Dd} (h : DdOk d) : decide (("if" : Str) ∈ deedWords d) = d.gd.isSome := by
  have h1 : ("if" : Str) ∉ deedHead d := fun hm => (head_ok h _ hm).1 rfl
  unfold deedWords
  cases d.gd with
  | none => rw [List.append_nil, decide_eq_false h1] <;> rfl
  | some g => rw [decide_eq_true (List.mem_append_right _ List.mem_cons_self)] <;> rfl
theorem head_len (d : Dd) : (deedHead d).length = d.sp.length + 1 := by unfold deedHead; rw [List.length_cons, List.length_map]
section
variable {P : Program} {w : World} {K : PySem.W.Frag} {mg : Str → Option Value} {base : Heap} {m : Mt} {Γ : Gm} {ta tb te : TE}
theorem ev_nikd {d : Addr} {x : Str} {u : Value} (h : PySem.W.nsIn K d x = some (some u)) (h1 : EvG m ta Γ (dS x)) (h2 : EvG m tb Γ (rV (.ref d))) :
    EvG m (tOp (fun x y H Q => ∃ (z : Str) (r : Option Value), x = .str z ∧ y = .ref d ∧ PySem.W.nsIn K d z = some r ∧ Q (.bl (!r.isSome)) H) ta tb) Γ (dB false) :=
  ev_op h1 h2 (bin_now fun B H a b _ hx hy => ⟨_, rfl, fun Q q => ⟨x, some u, hx, hy, h, q⟩⟩)
abbrev a_parsed_deed : Mt → Dd → List Rp := fun _ d => [dS (deedText d)]
abbrev sp_parsed_deed : Sp := spF a_parsed_deed DdOk (fun _ d => rDeed K d)
theorem c_parsed_deed (T : Ty w K mg) (c_is_guard : Cal P w K mg base 1 "is_guard" sp_is_guard) (c_Deed___init : Ini P w K mg base 1 (He.ga K "Deed") (sp_Deed___init K)) (D : Df K mg "parsed_deed" "parsed_deed" s_parsed_deed) : Cal P w K mg base 3 "parsed_deed" (sp_parsed_deed (K := K)) := by
  refine cal_of D sc_parsed_deed (fun _ _ _ _ _ _ us hl => match us, hl with | [_], _ => rfl) (fun _ _ => rfl) (by decide) (fun f cdv A outer s H E hr => ⟨_, (pss_cons (ps_if (pt_not (pt_val (pe_callB call_isi (by rfl) T.b_isinstance (by decide +kernel) (pa_cons (pv 0) (pa_cons (pe_bltn (v := .ty "str") (by rfl) T.b_str (by decide +kernel) rfl) pa_nil)))))
  (pss_cons (ps_ret pe_non)
  pss_nil)
  pss_nil)
  (pss_cons (ps_par (i := 1) (j := 2) rfl sc_parsed_deed.nd rfl rfl (by decide) rfl rfl (pa_cons (pe_split (pv 0) pe_str) (pa_cons (pe_lst pa_nil) pa_nil)) (by rfl))
  (C8.pss_cut (ps_if (pt_cmpR (op_inK (K := K) hr rfl rfl) pe_str (pv 1) (by rfl))
  (pss_cons (ps_set (i := 3) sc_parsed_deed.nd rfl (.inl rfl) (pe_indexK (K := K) rfl (pv 1) (pa_cons pe_str pa_nil) rfl rfl rfl rfl rfl))
  (pss_cons (ps_par (i := 1) (j := 2) rfl sc_parsed_deed.nd rfl rfl (by decide) rfl rfl (pa_cons (pe_slice (sl_seqK (K := K) rfl) (pv 1) po_none (po_some (pv 3))) (pa_cons (pe_slice (sl_seqK (K := K) rfl) (pv 1) (po_some (pe_op op_addA (pv 3) pe_int)) po_none) pa_nil)) (by rfl))
  (pss_cons (ps_if (pt_not (pt_val (pe_cal c_is_guard hr (by decide) (by rfl) (pa_cons (pv 2) pa_nil))))
  (pss_cons (ps_ret pe_non)
  pss_nil)
  pss_nil)
  pss_nil)))
  pss_nil)
  (pss_cons (ps_if (PW.pt (pw_or (pt_cmpR (op_eqK (K := K) hr rfl rfl) (pe_callB (call_lenK (K := K) rfl) (by rfl) T.b_len (by decide +kernel) (pa_cons (pv 1) pa_nil)) pe_int (nomark _)) (pw_or1 (pt_cmpR (op_nikd T.d_FEWEST) (pe_ix (ix_seqK (K := K) rfl) (pv 1) pe_int (fun _ _ => rfl)) (C8.pe_gc (by rfl) T.g_FEWEST) (by rfl)))))
  (pss_cons (ps_ret pe_non)
  pss_nil)
  pss_nil)
  (pss_cons (ps_par (i := 4) (j := 5) rfl sc_parsed_deed.nd rfl rfl (by decide) rfl rfl (pa_cons (pe_ix (ix_seqK (K := K) rfl) (pv 1) pe_int (fun _ _ => rfl)) (pa_cons (pe_slice (sl_seqK (K := K) rfl) (pv 1) (po_some pe_int) po_none) pa_nil)) (by rfl))
  (pss_cons (ps_if (PW.pt (pw_or (pt_not (pt_chain op_le op_le (pe_ix ix_kdict (C8.pe_gc (by rfl) T.g_FEWEST) (pv 4) (fun _ _ => rfl)) (pe_callB (call_lenK (K := K) rfl) (by rfl) T.b_len (by decide +kernel) (pa_cons (pv 5) pa_nil)) (pe_ix ix_kdict (C8.pe_gc (by rfl) T.g_MOST) (pv 4) (fun _ _ => rfl)))) (pw_or1 (pt_cmpR (op_neK (K := K) hr rfl rfl) (pe_lenSetS rfl (by rfl) T.b_len (by rfl) T.b_set (pv 5)) (pe_callB (call_lenK (K := K) rfl) (by rfl) T.b_len (by decide +kernel) (pa_cons (pv 5) pa_nil)) (nomark _)))))
  (pss_cons (ps_ret pe_non)
  pss_nil)
  pss_nil)
  (pss_cons (ps_ret (pe_ifExp (pt_val (pe_callB (cr_all rfl) (by rfl) T.b_all (by decide +kernel) (pa_cons (pe_lcX (own := [("spot", 6)]) rfl sc_parsed_deed.nd (pi_seqK (K := K) rfl (pv 5)) (blkOk_by (N := ["value", "words", "guard", "at", "word", "spots", "spot"]) (sc := defScope s_parsed_deed) (own := [("spot", 6)]) (by decide +kernel)) (fun _ _ _ _ _ => (pg_nameX (i := 6) sc_parsed_deed.nd rfl (.inl rfl) (.inr rfl))) (fun _ _ _ _ _ => pts_nil) (fun _ _ _ _ _ => (pe_cmpR (op_inK (K := K) hr rfl rfl) (pv 6) (C8.pe_gc (by rfl) T.g_PLACES) (by rfl))) (fun _ => rfl)) pa_nil))) (pe_new c_Deed___init hr (by decide) T.m_Deed (by rfl) (pa_cons (pv 4) (pa_cons (pv 5) (pa_cons (pv 2) pa_nil)))) pe_non))
  pss_nil))))))), fun m B0 H0 d Q hp ha q => ?_⟩)
  have hd : DdOk d := ha
  have hlen := (head_len d)
  have hsp := sp_len hd
  refine st_if (eb_notE (eb_B (ev_isStr (vr 0)))) (fun h => nomatch h) (fun _ => st_nxt ?_)
  refine st_par (Ra := rL ((deedWords d).map dS)) (Rb := rL []) (by decide) (ea2 ((ev_split (vr 0) kS (by decide) (Nat.le_trans (Nat.add_le_add_right (deed_len hd) 2) (by decide))).to (by rw [deed_split hd])) (ev_lst ea_nil)) ?_
  refine st_cut [some (dS (deedText d)), some (rL ((deedHead d).map dS)), some (rL ((gdW d.gd).map dS)), none, none, none, none] (I0 m B0 H0 hp) ?_ ?_
  · refine st_if (eb_test ((ev_inS kS (vr 1)).to (congrArg dB (deed_if hd)))) (fun h => ?_) (fun h => st_nxt (st_to ?_ fun B H h => h))
    · obtain ⟨g, hg⟩ := Option.isSome_iff_exists.mp h.symm
      have ew : deedWords d = deedHead d ++ ("if" : Str) :: guardWords g := by unfold deedWords; rw [hg]
      have eg : gdW d.gd = guardWords g := by rw [hg] <;> rfl
      refine st_set (R := dI ((d.sp.length + 1 : Nat) : Int)) (ev_indexS (vr 1) kS (by rw [ew, List.getElem?_append_right (by omega), hlen, Nat.sub_self] <;> rfl) (fun n hn e => ?_)) ?_
      · rw [ew, List.getElem?_append_left (by omega)] at e
        exact (head_ok hd _ (List.mem_of_getElem? e)).1 rfl
      refine st_par (Ra := rL ((deedHead d).map dS)) (Rb := rL ((guardWords g).map dS)) (by decide) (ea2 ((ev_upto (vr 1) (vr 3)).to ?_) ((ev_past (k := d.sp.length + 2) (vr 1) ((ev_add (vr 3) kI).to (congrArg dI (by omega)))).to ?_)) ?_
      · rw [ew, List.map_append, List.take_append_of_le_length (by rw [List.length_map]; omega), List.take_of_length_le (by rw [List.length_map]; omega)]
      · rw [ew, ← List.map_drop, List.drop_append, List.drop_of_length_le (by omega), hlen, show d.sp.length + 2 - (d.sp.length + 1) = 1 by omega] <;> rfl
      · refine st_if (eb_notE (eb_B (ev_call g (hd.2.2.2.2.2 g hg) (ea1 (vr 2))))) (fun h => nomatch h) (fun _ => st_nxt (st_nxt (st_to ?_ fun B H h => h)))
        exact .same (.same (.cons (le_eq (by rw [eg])) (.skip (.same (.same (.same .nil))))))
    · have hg : d.gd = none := by
        cases e : d.gd with
        | none => rfl
        | some g => rw [e] at h; cases h
      exact .same (.cons (le_eq (by unfold deedWords; rw [hg, List.append_nil])) (.cons (le_eq (by rw [hg] <;> rfl)) (.same (.same (.same (.same .nil))))))
  have hw := hd.1
  obtain ⟨u, hu⟩ := kdct_in (T.l_FEWEST d.wd hw)
  refine st_if (eb_to (eb_orE (b := false) (c := false) (eb_test ((ev_eqI (ev_lenL (vr 1)) kI).to (congrArg dB (decide_eq_false (by rw [List.length_map, hlen]; omega))))) (fun _ => eb_test (ev_nikd hu (ev_ixL (vr 1) kI (atN (n := 0) rfl)) ev_c))) rfl) (fun h => nomatch h) (fun _ => st_nxt ?_)
  refine st_par (Ra := dS (wordText d.wd)) (Rb := rL (d.sp.map fun k => dS (spotText k))) (by decide) (ea2 (ev_ixL (vr 1) kI (atN (n := 0) rfl)) ((ev_past (k := 1) (vr 1) kI).to (by unfold deedHead; rw [List.map_cons, List.drop_succ_cons, List.drop_zero, List.map_map] <;> rfl))) ?_
  have hnd : (d.sp.map spotText).Nodup := by
    refine List.pairwise_map.mpr (List.Pairwise.imp_of_mem (fun {a b} ha hb h e => h ?_) hd.2.2.2.2.1)
    have h' : ∀ a, a < 8 → ∀ b, b < 8 → spotText a = spotText b → a = b := by decide +kernel
    exact h' a (hd.2.2.2.1 a ha) b (hd.2.2.2.1 b hb) e
  have hlsp : (d.sp.map spotText).length = d.sp.length := List.length_map ..
  have hmap : (d.sp.map fun k => dS (spotText k)) = (d.sp.map spotText).map dS := by rw [List.map_map] <;> rfl
  refine st_if (eb_to (eb_orE (b := false) (c := false) (eb_notE (b := true) (eb_test (b := true) ((ev_chain (b := true) (c := true) (ev_ixkd (T.l_FEWEST d.wd hw) ev_c (vr 4)) ((ev_lenL (vr 5)).to (congrArg dI (by rw [List.length_map]))) (bI0.le (le_eq (congrArg dB (decide_eq_true (Int.ofNat_le.mpr hd.2.1))))) (fun _ => ev_ixkd (T.l_MOST d.wd hw) ev_c (vr 4)) (fun _ => bI0.le (le_eq (congrArg dB (decide_eq_true (Int.ofNat_le.mpr hd.2.2.1)))))).to rfl))) (fun _ => eb_test ((ev_neI (ev_lenSetS (ys := d.sp.map spotText) ((vr 5).to (by rw [hmap])) hnd (by omega)) (ev_lenL (vr 5))).to (congrArg dB (by rw [List.length_map, List.length_map, decide_eq_true rfl] <;> rfl))))) rfl) (fun h => nomatch h) (fun _ => st_nxt ?_)
  refine st_ret (ev_if (eb_B (b := true) ((ev_all (bs := d.sp.map fun _ => true) ((ev_lcA (xs := d.sp) (R0 := fun k => dS (spotText k)) (fun _ => dB true) (by have : sizeLine = 16777216 := sizeLine_eq; omega) (ei_seqL (vr 5)) (fun k hk => ⟨_, _, tg_name, fun j hj => hj, (ev_inST (vr 6) (ev_gts T.t_PLACES)).to (congrArg dB (decide_eq_true (List.mem_map.mpr ⟨k, List.mem_range.mpr (hd.2.2.2.1 k hk), rfl⟩)))⟩)).to (by rw [List.map_map] <;> rfl))).to (congrArg dB (by rw [List.all_map]; exact List.all_eq_true.mpr fun _ _ => rfl)))) (fun _ => ?_) (fun h => nomatch h)) q
  exact ev_new d trivial (ea_cons (vr 4) (ea2 (vr 5) (vr 2)))
end
end Sq
/-! Sq, part F7: what deeds do. -/
namespace Sq
open PySem PySem.Spec PyProof.Rows L2
def cellK (c : Cell) : List Key := [.inl c.1, .inl c.2]
theorem cellK_inj {a b : Cell} (h : cellK a = cellK b) : a = b := by
  unfold cellK at h
  simp only [List.cons.injEq, Sum.inl.injEq, and_true] at h
  exact Prod.ext h.1 h.2
/-- a dict from these cells to whole numbers -/
def DcOk (cs : List Cell) (o : HO) : Prop := ∃ kvs : List (List Key × V), o = .dT kvs ∧ kvs.map Prod.fst = cs.map cellK ∧ ∀ p ∈ kvs, ∃ z : Int, p.2 = .int z ∧ z % 2 = 0
abbrev rAI : Rp := rEx (fun z : Int => z % 2 = 0) dI
theorem valV_int {k : List Key} : ∀ {kvs : List (List Key × V)}, k ∈ kvs.map Prod.fst → (∀ p ∈ kvs, ∃ z : Int, p.2 = .int z ∧ z % 2 = 0) → ∃ z : Int, valV kvs k = some (.int z) ∧ z % 2 = 0
  | [], h, _ => nomatch h
  | p :: r, h, hz => by
    by_cases e : p.1 = k
    · obtain ⟨z, hz⟩ := hz p List.mem_cons_self
      exact ⟨z, by rw [valV_pos e, hz.1], hz.2⟩
    · rw [valV_neg e]
      exact valV_int ((List.mem_cons.mp h).resolve_left fun z => e z.symm) fun p hp => hz p (List.mem_cons_of_mem _ hp)
theorem dc_put {cs : List Cell} {kvs : List (List Key × V)} {c : Cell} {z : Int} (he : z % 2 = 0) (hk : kvs.map Prod.fst = cs.map cellK) (hz : ∀ p ∈ kvs, ∃ z : Int, p.2 = .int z ∧ z % 2 = 0) (hc : c ∈ cs) : DcOk cs (.dT (putK kvs (cellK c) (.int z))) := by
  have hm : cellK c ∈ kvs.map Prod.fst := by rw [hk]; exact List.mem_map.mpr ⟨c, hc, rfl⟩
  have e : putK kvs (cellK c) (.int z) = kvs.map (fun kv => if kv.1 = cellK c then (kv.1, .int z) else kv) := by
    unfold putK
    rw [if_pos]
    obtain ⟨p, hp, ep⟩ := List.mem_map.mp hm
    exact List.any_eq_true.mpr ⟨p, hp, decide_eq_true ep⟩
  refine ⟨_, rfl, ?_, fun p hp => ?_⟩
  · rw [e, List.map_map, ← hk]
    refine List.map_congr_left fun p _ => ?_
    show (if p.1 = cellK c then (p.1, V.int z) else p).1 = p.1
    split <;> rfl
  · rw [e] at hp
    obtain ⟨q, hq, eq⟩ := List.mem_map.mp hp
    rw [← eq]
    split
    · exact ⟨z, rfl, he⟩
    · exact hz q hq
theorem dc_len {cs : List Cell} {kvs : List (List Key × V)} (hk : kvs.map Prod.fst = cs.map cellK) : kvs.length = cs.length := by
  have := congrArg List.length hk
  rwa [List.length_map, List.length_map] at this
section
variable {P : Program} {w : World} {K : PySem.W.Frag} {mg : Str → Option Value} {base : Heap} {m : Mt} {Γ : Gm} {ta tb te td ty tv : TE} {I : Iv m} {D : Ends} {u : TS} {R : Rp}
/-- an object that may change, changed as it may -/
theorem dom_step {B H : Hp} {d : Addr} {o : HO} (hp : Pre m B H) (hd : m.dom d) (ho : m.ok d o) : Step m B H B (upd H d o) := by
  have hb := hp.out d hd
  refine ⟨fun a u na e => by rw [upd_ne (fun z : a = d => na (by rw [z]; exact hd))]; exact e, fun a ha => ?_, Sub.refl _, fun a u e => ?_, fun a u e => .inl e⟩
  · by_cases z : a = d
    · subst z; exact ⟨o, upd_same, ho⟩
    · rw [show upd H d o a = H a from upd_ne z]; exact hp.po a ha
  · have ne : a ≠ d := fun z => by rw [z, hb] at e; cases e
    rw [upd_ne ne]
    exact hp.sub a u e
theorem celln_at {B : Hp} {v : V} {c : Cell} (h : (rCellN c).p B v) : ∃ a, v = .ref a ∧ B a = some (.tup ((cellK c).map kV)) := by
  obtain ⟨a, xs, e, ea, x, r, e1, hx, y, r', e2, hy, hr⟩ := h
  obtain rfl : x = .int c.1 := hx
  obtain rfl : y = .int c.2 := hy
  obtain rfl : r' = [] := hr
  subst e1 e2
  exact ⟨a, e, ea⟩
theorem ev_dget {d : Addr} {cs : List Cell} {c : Cell} (hd : m.dom d) (hok : ∀ o, m.ok d o ↔ DcOk cs o) (ha : EvG m td Γ (rV (.ref d))) (hb : EvG m ty Γ (rCellN c)) (hc : c ∈ cs) : EvG m (tDGet td ty) Γ rAI := fun σ B H hs hp Q q =>
  ha σ B H hs hp _ fun x B1 H1 s1 r1 => hb σ B1 H1 (hs.mono s1.sub) (hp.step s1) _ fun y B2 H2 s2 r2 => by
    have hp2 := (hp.step s1).step s2
    obtain ⟨a, ey, hT⟩ := celln_at r2
    obtain ⟨o, eo, ok⟩ := hp2.po d hd
    obtain ⟨kvs, rfl, hk, hz⟩ := (hok o).mp ok
    obtain ⟨z, ez, ev⟩ := valV_int (k := cellK c) (by rw [hk]; exact List.mem_map.mpr ⟨c, hc, rfl⟩) hz
    refine ⟨d, .int z, r1, ?_, q _ _ _ (Step.trans hp s1 s2) ⟨z, ev, rfl⟩⟩
    rw [ey, ← ez]
    exact DGet.t eo (hp2.sub _ _ hT)
theorem st_dput {d : Addr} {cs : List Cell} {c : Cell} (hd : m.dom d) (hok : ∀ o, m.ok d o ↔ DcOk cs o) (hl : cs.length ≤ 100) (ha : EvG m td Γ (rV (.ref d))) (hb : EvG m ty Γ (rCellN c)) (hv : EvG m tv Γ rAI) (hc : c ∈ cs) (h : StG m u Γ I D) : StG m (tSeq (sDPut td ty tv) u) Γ I D := fun σ B H hs hi =>
  hv σ B H hs (I.pre hi) _ fun v B0 H0 s0 r0 => by
    have hi0 := I.step hi s0
    refine ha σ B0 H0 (hs.mono s0.sub) (I.pre hi0) _ fun x B1 H1 s1 r1 => ?_
    have hi1 := I.step hi0 s1
    refine hb σ B1 H1 (hs.mono (s0.sub.trans s1.sub)) (I.pre hi1) _ fun y B2 H2 s2 r2 => ?_
    have hi2 := I.step hi1 s2
    have hp2 := I.pre hi2
    obtain ⟨z, ev, rfl⟩ : ∃ z : Int, z % 2 = 0 ∧ v = .int z := r0
    obtain ⟨a, ey, hT⟩ := celln_at r2
    obtain ⟨o, eo, ok⟩ := hp2.po d hd
    obtain ⟨kvs, rfl, hk, hz⟩ := (hok o).mp ok
    refine ⟨d, _, r1, ?_, h σ B2 _ (hs.mono ((s0.sub.trans s1.sub).trans s2.sub)) (I.step hi2 (dom_step hp2 hd ((hok _).mpr (dc_put (z := z) ev hk hz hc))))⟩
    rw [ey]
    exact DPut.t eo (hp2.sub _ _ hT) (by rw [dc_len hk]; exact Nat.lt_of_le_of_lt hl (by decide))
/-! a def that is handed over -/
theorem held_of {x : Str} {k : Nat} {sp : Sp} {a : Addr} (c : Cal P w K mg base k x sp) (h : ∃ u, mg x = some u ∧ RelV (.ref a) u) : Held P w K mg base k a sp := by
  obtain ⟨f, fd, ps, h1, h2, h3, h4⟩ := c.ex
  obtain ⟨u, e, r⟩ := h
  obtain rfl : u = .ref a := r
  rw [h2] at e
  cases e
  exact ⟨fd, ps, h1, h3, h4⟩
theorem pe_callH {X : Cx} {k j i : Nat} {f : Addr} {sp : Sp} {x : Str} {p pos : Pos} {e : Expr} {es : List Expr} {t : TA} (c : Held X.prog X.w X.K X.mg X.base k f sp) {A : Around} (hr : Room j A) (hk : k ≤ j) (hN : X.N[i]? = some x) (hv : Vis X.env.scope x) (ha : PA X (e :: es) t) (hA : X.A = A := by rfl)
    (hdb : (x == ("__debug__" : Str)) = false := by decide) (hcd : (x == ("__classdict__" : Str)) = false := by decide) (he : starEach (e :: es) X.env = (false, eval e X.env) :: starEach es X.env := by rfl) (hpl : (backTo pos (starEach es X.env)).any (·.1) = false := by rfl) :
    PE X (.Call (.Name x p) (e :: es) [] pos) (tCallL i f sp [] E0 t) := by
  obtain ⟨fd, ps, h1, h2, h3⟩ := c.ex
  exact pe_callL h1 (show Room k X.A by rw [hA]; exact hr.mono hk) hN hv h2 h3 .nil pass0 ha hdb hcd he hpl
theorem ev_callH {sp : Sp} {t : TA} {f : Addr} {i : Nat} (hj : Γ[i]? = some (some (rV (.ref f)))) (h : EvG m (tCl sp t) Γ R) : EvG m (tCallL i f sp [] E0 t) Γ R := fun σ B H hs hB Q q => by
  obtain ⟨v, hv, rv⟩ := hs.2 i _ hj
  obtain rfl : v = .ref f := rv
  refine ⟨hv, ?_⟩
  have e : (fun vs H1 => sp (vs ++ []) H1 Q E0) = fun vs H1 => sp vs H1 Q E0 := by
    funext vs H1
    rw [List.append_nil]
  rw [e]
  exact h σ B H hs hB Q q
theorem even_and {i j : Int} (h : i % 2 = 0) : Builtin.bitAnd i j % 2 = 0 := by
  have := PySem.W.kbt_halves i j
  rw [if_neg (by omega)] at this
  omega
theorem even_or {i j : Int} (h : i % 2 = 0) (k : j % 2 = 0) : Builtin.bitOr i j % 2 = 0 := by
  have := even_and (j := j) h
  rw [bitOr_and]
  omega
abbrev a_rowsA : Mt → Unit → List Rp := fun _ _ => [rAI, rAI]
abbrev sp_rowsA : Sp := spF a_rowsA (fun _ => True) (fun _ _ => rAI)
theorem c_meetA (D : Df K mg "meet_rows" "meet_rows" s_meet_rows) : Cal P w K mg base 1 "meet_rows" sp_rowsA := by
  refine cal_of D sc_meet_rows (fun _ _ _ _ _ _ us hl => match us, hl with | [_, _], _ => rfl) (fun _ _ => rfl) (by decide) (fun f cdv A outer s H E hr => ⟨_, (pss_cons (ps_ret (pe_op op_and (pv 0) (pv 1)))
  pss_nil), fun m B0 H0 _ Q hp ha q => ?_⟩)
  exact st_ret (R := rAI) (ev_op (Ra := rAI) (Rb := rAI) (vr 0) (vr 1) (Bin.exL fun i hi => Bin.exR fun j _ => bI0.le (le_ex (P := fun z : Int => z % 2 = 0) (R := dI) _ (even_and hi) (Le.refl _)))) q
theorem c_joinA (D : Df K mg "join_rows" "join_rows" s_join_rows) : Cal P w K mg base 1 "join_rows" sp_rowsA := by
  refine cal_of D sc_join_rows (fun _ _ _ _ _ _ us hl => match us, hl with | [_, _], _ => rfl) (fun _ _ => rfl) (by decide) (fun f cdv A outer s H E hr => ⟨_, (pss_cons (ps_ret (pe_op op_or (pv 0) (pv 1)))
  pss_nil), fun m B0 H0 _ Q hp ha q => ?_⟩)
  exact st_ret (R := rAI) (ev_op (Ra := rAI) (Rb := rAI) (vr 0) (vr 1) (Bin.exL fun i hi => Bin.exR fun j hj => bI0.le (le_ex (P := fun z : Int => z % 2 = 0) (R := dI) _ (even_or hi hj) (Le.refl _)))) q
/-! do_deed -/
structure Do where
  d : Dd
  n : Int
  c : Cell
  at_ : Addr
  cs : List Cell
abbrev a_do_deed (fm fj : Addr) : Mt → Do → List Rp := fun _ z => [rDeed K z.d, dI z.n, dI z.c.1, dI z.c.2, rV (.ref z.at_), rV (.ref fm), rV (.ref fj)]
def pre_do (m : Mt) (z : Do) : Prop := DdOk z.d ∧ m.dom z.at_ ∧ (∀ o, m.ok z.at_ o ↔ DcOk z.cs o) ∧ z.cs.length ≤ 100 ∧ ∀ k, k < 8 → plc k z.n z.c ∈ z.cs
abbrev sp_do_deed (fm fj : Addr) : Sp := spM (a_do_deed (K := K) fm fj) pre_do (fun _ _ => dN)
theorem get_map {α β : Type} {f : α → β} {xs : List α} {i : Nat} {x : α} (h : xs[i]? = some x) : (xs.map f)[i]? = some (f x) := by rw [List.getElem?_map, h] <;> rfl
theorem c_do_deed (T : Ty w K mg) {fm fj : Addr} (Hmeet : Held P w K mg base 1 fm sp_rowsA) (Hjoin : Held P w K mg base 1 fj sp_rowsA) (c_holds : Cal P w K mg base 2 "holds" sp_holds) (c_place_cell : Cal P w K mg base 2 "place_cell" sp_place_cell) (D : Df K mg "do_deed" "do_deed" s_do_deed) : Cal P w K mg base 3 "do_deed" (sp_do_deed (K := K) fm fj) := by
  refine cal_ofM D sc_do_deed (fun _ _ _ _ _ _ us hl => match us, hl with | [_, _, _, _, _, _, _], _ => rfl) (fun _ _ => rfl) (by decide) (fun f cdv A outer s H E hr => ⟨_, (pss_cons (ps_if (pt_not (pt_val (pe_cal c_holds hr (by decide) (by rfl) (pa_cons (pe_fldK (K := K) rfl (pv 0) rfl) (pa_cons (pv 1) (pa_cons (pv 2) (pa_cons (pv 3) pa_nil)))))))
  (pss_cons ps_retN
  pss_nil)
  pss_nil)
  (pss_cons (ps_setLcX (i := 7) (own := [("spot", 10)]) rfl sc_do_deed.nd rfl rfl (sw_true rfl rfl rfl (by decide +kernel)) (pi_seqK (K := K) rfl (pe_fldK (K := K) rfl (pv 0) rfl)) (blkOk_by (N := ["deed", "size", "i", "j", "content", "meet", "join", "cells", "entries", "k", "spot", "cell"]) (sc := defScope s_do_deed) (own := [("spot", 10)]) (by decide +kernel)) (fun _ _ _ _ _ => (pg_nameX (i := 10) sc_do_deed.nd rfl (.inl rfl) (.inr rfl))) (fun _ _ _ _ _ => pts_nil) (fun _ _ _ _ _ => (pe_cal c_place_cell hr (by decide) (by rfl) (pa_cons (pv 10) (pa_cons (pv 1) (pa_cons (pv 2) (pa_cons (pv 3) pa_nil)))))) (fun _ => rfl))
  (pss_cons (ps_setLcX (i := 8) (own := [("cell", 11)]) rfl sc_do_deed.nd rfl rfl (sw_true rfl rfl rfl (by decide +kernel)) (pi_seqK (K := K) rfl (pv 7)) (blkOk_by (N := ["deed", "size", "i", "j", "content", "meet", "join", "cells", "entries", "k", "spot", "cell"]) (sc := defScope s_do_deed) (own := [("cell", 11)]) (by decide +kernel)) (fun _ _ _ _ _ => (pg_nameX (i := 11) sc_do_deed.nd rfl (.inl rfl) (.inr rfl))) (fun _ _ _ _ _ => pts_nil) (fun _ _ _ _ _ => (pe_dget (hu_of hr) (pv 4) (pv 11) (fun _ _ => rfl))) (fun _ => rfl))
  (pss_cons (ps_if (pt_cmpR (op_eqK (K := K) hr rfl rfl) (pe_fldK (K := K) rfl (pv 0) rfl) pe_str (nomark _))
  (pss_cons (ps_dput (hu_of hr) (pv 4) (pe_ix (ix_seqK (K := K) rfl) (pv 7) pe_int (fun _ _ => rfl)) (pe_ix (ix_seqK (K := K) rfl) (pv 8) pe_int (fun _ _ => rfl)) rfl)
  pss_nil)
  (pss_cons (ps_if (pt_cmpR (op_eqK (K := K) hr rfl rfl) (pe_fldK (K := K) rfl (pv 0) rfl) pe_str (nomark _))
  (pss_cons (ps_dput (hu_of hr) (pv 4) (pe_ix (ix_seqK (K := K) rfl) (pv 7) pe_int (fun _ _ => rfl)) (pe_callH Hmeet hr (by decide) (i := 5) rfl (Or.inl rfl) (pa_cons (pe_ix (ix_seqK (K := K) rfl) (pv 8) pe_int (fun _ _ => rfl)) (pa_cons (pe_ix (ix_seqK (K := K) rfl) (pv 8) pe_int (fun _ _ => rfl)) pa_nil))) rfl)
  (pss_cons (ps_dput (hu_of hr) (pv 4) (pe_ix (ix_seqK (K := K) rfl) (pv 7) pe_int (fun _ _ => rfl)) (pe_callH Hjoin hr (by decide) (i := 6) rfl (Or.inl rfl) (pa_cons (pe_ix (ix_seqK (K := K) rfl) (pv 8) pe_int (fun _ _ => rfl)) (pa_cons (pe_ix (ix_seqK (K := K) rfl) (pv 8) pe_int (fun _ _ => rfl)) pa_nil))) rfl)
  pss_nil))
  (pss_cons (ps_for PassesOwn.never rfl (pi_range2 (by rfl) T.b_range (pa_cons pe_int (pa_cons (pe_callB (call_lenK (K := K) rfl) (by rfl) T.b_len (by decide +kernel) (pa_cons (pv 7) pa_nil)) pa_nil))) (pg_nameX (i := 9) sc_do_deed.nd rfl (.inl rfl) (.inr rfl))
  (pss_cons (ps_dput (hu_of hr) (pv 4) (pe_ix (ix_seqK (K := K) rfl) (pv 7) (pv 9) (fun _ _ => rfl)) (pe_ix (ix_seqK (K := K) rfl) (pv 8) (pe_op op_sub (pv 9) pe_int) (fun _ _ => rfl)) rfl)
  pss_nil))
  (pss_cons (ps_dput (hu_of hr) (pv 4) (pe_ix (ix_seqK (K := K) rfl) (pv 7) pe_int (fun _ _ => rfl)) (pe_ix (ix_seqK (K := K) rfl) (pv 8) (pe_un un_neg pe_int) (fun _ _ => rfl)) rfl)
  pss_nil)))
  pss_nil))
  pss_nil)))), fun m B0 H0 ⟨d, n, c, at_, cs⟩ Q hp ha q => ?_⟩)
  obtain ⟨hd, hdom, hok, hl, hin⟩ := ha
  simp only at hd hdom hok hl hin
  have fa := T.f_Deed
  have hsp := sp_len hd
  have fG : EvG m (tFld K (tVar 0) "guard") (gam ["deed", "size", "i", "j", "content", "meet", "join", "cells", "entries", "k", "spot", "cell"] (a_do_deed (K := K) fm fj m ⟨d, n, c, at_, cs⟩)) (rL ((gdW d.gd).map dS)) := ev_fld (vr 0) fa.cl (fa.na _ (by decide)) rfl
  refine st_if (eb_not (eb_Bx (ev_call (d.gd, n, c) hd.2.2.2.2.2 (ea_cons fG (ea_cons (vr 1) (ea2 (vr 2) (vr 3))))))) (fun _ => st_retN q) (fun _ => st_nxt ?_)
  have z9 : d.sp.length < sizeLine := by have : sizeLine = 16777216 := sizeLine_eq; omega
  refine st_set (R := rL (d.sp.map fun k => rCellN (plc k n c))) (ev_lcA (xs := d.sp) (R0 := fun k => dS (spotText k)) (fun k => rCellN (plc k n c)) z9 (ei_seqL (ev_fld (vr 0) fa.cl (fa.na _ (by decide)) rfl)) (fun k hk => ⟨_, _, tg_name, fun j hj => hj, ev_call (k, n, c) (hd.2.2.2.1 k hk) (ea_cons (vr 10) (ea_cons (vr 1) (ea2 (vr 2) (vr 3))))⟩)) ?_
  refine st_set (R := rL (d.sp.map fun _ => rAI)) (ev_lcA (xs := d.sp) (R0 := fun k => rCellN (plc k n c)) (fun k => rAI) z9 (ei_seqL (vr 7)) (fun k hk => ⟨_, _, tg_name, fun j hj => hj, ev_dget hdom hok (vr 4) (vr 11) (hin k (hd.2.2.2.1 k hk))⟩)) ?_
  obtain ⟨a, b, r, esp⟩ : ∃ a b r, d.sp = a :: b :: r := by
    match e : d.sp, hsp.2 with
    | a :: b :: r, _ => exact ⟨a, b, r, rfl⟩
  have ha8 : a < 8 := hd.2.2.2.1 a (by rw [esp]; exact List.mem_cons_self)
  have hb8 : b < 8 := hd.2.2.2.1 b (by rw [esp]; exact List.mem_cons_of_mem _ List.mem_cons_self)
  have i0 : (d.sp.map fun k => rCellN (plc k n c))[0]? = some (rCellN (plc a n c)) := by rw [esp] <;> rfl
  have i1 : (d.sp.map fun k => rCellN (plc k n c))[1]? = some (rCellN (plc b n c)) := by rw [esp] <;> rfl
  have v0 : (d.sp.map fun _ => rAI)[0]? = some rAI := by rw [esp] <;> rfl
  have v1 : (d.sp.map fun _ => rAI)[1]? = some rAI := by rw [esp] <;> rfl
  refine st_if (eb_test (ev_eqS (ev_fld (vr 0) fa.cl (fa.na _ (by decide)) rfl) kS)) (fun _ => ?_) (fun _ => ?_)
  · exact st_dput hdom hok hl (vr 4) (ev_ixL (vr 7) kI (atN (n := 1) i1)) (ev_ixL (vr 8) kI (atN (n := 0) v0)) (hin b hb8) (st_nxt (st_end q))
  refine st_if (eb_test (ev_eqS (ev_fld (vr 0) fa.cl (fa.na _ (by decide)) rfl) kS)) (fun _ => ?_) (fun _ => ?_)
  · refine st_dput hdom hok hl (vr 4) (ev_ixL (vr 7) kI (atN (n := 0) i0)) (ev_callH rfl (ev_call () trivial (ea2 (ev_ixL (vr 8) kI (atN (n := 0) v0)) (ev_ixL (vr 8) kI (atN (n := 1) v1))))) (hin a ha8) ?_
    exact st_dput hdom hok hl (vr 4) (ev_ixL (vr 7) kI (atN (n := 1) i1)) (ev_callH rfl (ev_call () trivial (ea2 (ev_ixL (vr 8) kI (atN (n := 0) v0)) (ev_ixL (vr 8) kI (atN (n := 1) v1))))) (hin b hb8) (st_nxt (st_nxt (st_end q)))
  · refine st_for (n := (((d.sp.map fun k => rCellN (plc k n c)).length : Int) - 1).toNat) (Ys := fun i => some (dI (1 + (i : Int)))) (fun _ => [some (rDeed K d), some (dI n), some (dI c.1), some (dI c.2), some (rV (.ref at_)), some (rV (.ref fm)), some (rV (.ref fj)), some (rL (d.sp.map fun k => rCellN (plc k n c))), some (rL (d.sp.map fun _ => rAI)), none, none, none]) (fun J _ => J) fam_id ?_ (.same (.same (.same (.same (.same (.same (.same (.same (.same (.skip (.skip (.skip .nil)))))))))))) (fun J k R hJ hk hR => ?_) ?_
    · have h62 : (2 : Int) ^ 62 = 4611686018427387904 := by decide
      exact ei_rng2 (lo := 1) (ea2 kI (ev_lenL (vr 7))) (by rw [List.length_map]; omega)
    · obtain rfl : dI (1 + (k : Int)) = R := Option.some.inj hR
      rw [List.length_map] at hk
      have hk1 : k + 1 < d.sp.length := by omega
      have e1 : (1 + (k : Int)) = ((k + 1 : Nat) : Int) := by omega
      have e2 : ((k + 1 : Nat) : Int) - 1 = (k : Int) := by omega
      rw [e1]
      refine ⟨_, _, tg_name, ?_⟩
      have ek := List.getElem?_eq_getElem hk1
      have ek2 := List.getElem?_eq_getElem (show k < d.sp.length by omega)
      exact st_dput hdom hok hl (vr 4) (ev_ixL (vr 7) (vr 9) (atN (get_map (f := fun k => rCellN (plc k n c)) ek))) (ev_ixL (vr 8) ((ev_sub (vr 9) kI).to (congrArg dI e2)) (atN (get_map (f := fun _ => rAI) ek2))) (hin _ (hd.2.2.2.1 _ (List.mem_of_getElem? ek))) (st_to (.same (.same (.same (.same (.same (.same (.same (.same (.same (.skip (.skip (.skip .nil)))))))))))) fun B H h => h)
    · have hlast : atI (d.sp.map fun _ => rAI) (-1) = some rAI := by
        have e : (d.sp.map fun _ => rAI) = ((d.sp.map fun _ => rAI).dropLast) ++ [rAI] := by
          have hne : (d.sp.map fun _ => rAI) ≠ [] := by rw [esp]; exact List.cons_ne_nil _ _
          have h1 := List.dropLast_concat_getLast hne
          have h2 : (d.sp.map fun _ => rAI).getLast hne = rAI := by rw [List.getLast_map]
          rw [h2] at h1
          exact h1.symm
        rw [e]
        exact atI_last _ _
      exact st_dput hdom hok hl (vr 4) (ev_ixL (vr 7) kI (atN (n := 0) i0)) (ev_ixL (vr 8) (ev_neg kI) hlast) (hin a ha8) (st_nxt (st_nxt (st_end q)))
end
end Sq
/-! Sq, part F8: rounds. -/
namespace Sq
open PySem PySem.Spec PyProof.Rows L2
/-- a nest: its loops and deeds -/
structure Ns where
  over : Lp
  below : Lp
  deeds : List Dd
def NsOk (z : Ns) : Prop := LpOk false z.over ∧ LpOk true z.below ∧ (∀ d ∈ z.deeds, DdOk d) ∧ 1 ≤ z.deeds.length ∧ z.deeds.length ≤ 6
theorem lp_true {l : Lp} {b : Bool} (h : LpOk b l) : LpOk true l := ⟨h.1, h.2.1, .inl rfl⟩
theorem opt_any {l : Lp} {i : Int} {R : Rp} (h : LpOk false l) : Le R (rOpt2 l i) := by
  unfold rOpt2
  rw [if_pos (h.2.2.resolve_left fun z => nomatch z)]
  exact fun _ _ _ => trivial
theorem opt_int {l : Lp} {i : Int} : Le (dI i) (rOpt2 l i) := by
  unfold rOpt2
  split
  · exact fun _ _ _ => trivial
  · exact Le.refl _
abbrev nn : List Str := ["over", "below", "texts", "parsed"]
abbrev nRs (K : PySem.W.Frag) (z : Ns) : List Rp := [dS (loopText z.over), dS (loopText z.below), rT K (z.deeds.map fun d => dS (deedText d)), rL (z.deeds.map (rDeed K))]
abbrev rNest (K : PySem.W.Frag) (z : Ns) : Rp := rO (He.ga K "Nest") nn (nRs K z)
abbrev pn : List Str := ["parts"]
abbrev rProg (K : PySem.W.Frag) (p : List Ns) : Rp := rO (He.ga K "Program") pn [rT K (p.map (rNest K))]
def PgOk (p : List Ns) : Prop := (∀ z ∈ p, NsOk z) ∧ p.length ≤ 4
/-! rounds at some cells -/
def inB (z : Ns) (n : Int) (c : Cell) : Bool := (decide (lo z.over n 0 ≤ c.1) && decide (c.1 < hi z.over n 0)) && (decide (lo z.below n c.1 ≤ c.2) && decide (c.2 < hi z.below n c.1))
def sg (b : Bool) (i : Int) : Int := if b = true then -i else i
abbrev rQd (K : PySem.W.Frag) (z : Ns) (c : Cell) : Rp := rT K [dI (sg z.over.2.2 c.1), dI (sg z.below.2.2 c.2), dI c.1, dI c.2]
def qdD (z : Ns) (c : Cell) : PyData := .tuple [.int (sg z.over.2.2 c.1), .int (sg z.below.2.2 c.2), .int c.1, .int c.2]
theorem le_qd {K : PySem.W.Frag} {z : Ns} {c : Cell} : Le (rQd K z c) (rD K (qdD z c)) := Le.trans (le_T (.cons le_id (.cons le_id (.cons le_id (.cons le_id .nil))))) (le_td (ds := [.int (sg z.over.2.2 c.1), .int (sg z.below.2.2 c.2), .int c.1, .int c.2]))
section
variable {P : Program} {w : World} {K : PySem.W.Frag} {mg : Str → Option Value} {base : Heap} {m : Mt} {Γ : Gm} {ta tb te : TE}
theorem ev_sg {b : Bool} {i : Int} {tt : TT} (hc : EvB m tt Γ (· = b)) (ha : EvG m ta Γ (dI i)) : EvG m (tIf tt (tUn (rU fun i => .int (-i)) ta) ta) Γ (dI (sg b i)) :=
  ev_if hc (fun h => (ev_neg ha).to (by unfold sg; rw [if_pos h.symm])) (fun h => ha.to (by unfold sg; rw [if_neg (by rw [← h]; decide)]))
abbrev a_orbit_rounds : Mt → Ns × Int × List Cell → List Rp := fun _ z => [rNest K z.1, dI z.2.1, rT K (z.2.2.map rCellN)]
abbrev sp_orbit_rounds : Sp := spF (a_orbit_rounds (K := K)) (fun z => NsOk z.1 ∧ z.2.2.length ≤ 8) (fun _ z => rEx (fun rs : List Cell => ∀ c ∈ rs, c ∈ z.2.2) fun rs => rL (rs.map (rCell K)))
theorem c_orbit_rounds (T : Ty w K mg) (c_in_loop : Cal P w K mg base 3 "in_loop" sp_in_loop) (c_goes_down : Cal P w K mg base 1 "goes_down" sp_goes_down) (D : Df K mg "orbit_rounds" "orbit_rounds" s_orbit_rounds) : Cal P w K mg base 4 "orbit_rounds" (sp_orbit_rounds (K := K)) := by
  refine cal_of D sc_orbit_rounds (fun _ _ _ _ _ _ us hl => match us, hl with | [_, _, _], _ => rfl) (fun _ _ => rfl) (by decide) (fun f cdv A outer s H E hr => ⟨_, (pss_cons (ps_set (i := 3) sc_orbit_rounds.nd rfl (.inl rfl) (pe_lst pa_nil))
  (pss_cons (ps_for PassesOwn.never rfl (pi_seqK (K := K) rfl (pv 2)) (pg_unK (K := K) rfl rfl rfl rfl (pgs_cons (pg_nameX (i := 4) sc_orbit_rounds.nd rfl (.inl rfl) (.inr rfl)) (pgs_cons (pg_nameX (i := 5) sc_orbit_rounds.nd rfl (.inl rfl) (.inr rfl)) pgs_nil)))
  (pss_cons (ps_if (PW.pt (pw_and (pt_val (pe_cal c_in_loop hr (by decide) (by rfl) (pa_cons (pe_fldK (K := K) rfl (pv 0) rfl) (pa_cons (pv 1) (pa_cons pe_non (pa_cons (pv 4) pa_nil)))))) (pw_and1 (pt_val (pe_cal c_in_loop hr (by decide) (by rfl) (pa_cons (pe_fldK (K := K) rfl (pv 0) rfl) (pa_cons (pv 1) (pa_cons (pv 4) (pa_cons (pv 5) pa_nil)))))))))
  (pss_cons (ps_expr (pe_bm PySem.F.plainAttrs_list PySem.F.slot_list_append PySem.F.type_list_append mt_append (pv 3) (pa_cons (pe_tup (pa_cons (pe_ifExp (pt_val (pe_cal c_goes_down hr (by decide) (by rfl) (pa_cons (pe_fldK (K := K) rfl (pv 0) rfl) pa_nil))) (pe_un un_neg (pv 4)) (pv 4)) (pa_cons (pe_ifExp (pt_val (pe_cal c_goes_down hr (by decide) (by rfl) (pa_cons (pe_fldK (K := K) rfl (pv 0) rfl) pa_nil))) (pe_un un_neg (pv 5)) (pv 5)) (pa_cons (pv 4) (pa_cons (pv 5) pa_nil))))) pa_nil)))
  pss_nil)
  pss_nil)
  pss_nil))
  (pss_cons (ps_ret (pe_lcX (own := [("first", 6), ("then", 7), ("i", 4), ("j", 5)]) rfl sc_orbit_rounds.nd (pi_seqK (K := K) rfl (pe_callB (cr_sortD hr) (by rfl) T.b_sorted (by decide +kernel) (pa_cons (pv 3) pa_nil))) (blkOk_by (N := ["nest", "size", "cells", "found", "i", "j", "first", "then"]) (sc := defScope s_orbit_rounds) (own := [("first", 6), ("then", 7), ("i", 4), ("j", 5)]) (by decide +kernel)) (fun _ _ _ _ _ => (pg_unK (K := K) rfl rfl rfl rfl (pgs_cons (pg_nameX (i := 6) sc_orbit_rounds.nd rfl (.inl rfl) (.inr rfl)) (pgs_cons (pg_nameX (i := 7) sc_orbit_rounds.nd rfl (.inl rfl) (.inr rfl)) (pgs_cons (pg_nameX (i := 4) sc_orbit_rounds.nd rfl (.inl rfl) (.inr rfl)) (pgs_cons (pg_nameX (i := 5) sc_orbit_rounds.nd rfl (.inl rfl) (.inr rfl)) pgs_nil)))))) (fun _ _ _ _ _ => pts_nil) (fun _ _ _ _ _ => (pe_tup (pa_cons (pv 4) (pa_cons (pv 5) pa_nil)))) (fun _ => rfl)))
  pss_nil))), fun m B0 H0 ⟨z, n, cs⟩ Q hp ha q => ?_⟩)
  obtain ⟨⟨h1, h2, h3, h4, h5⟩, hl⟩ := ha
  simp only at h1 h2 h3 h4 h5 hl
  have fa := T.f_Nest
  have fb := T.toTx
  have z8 : 8 < sizeLine := by decide
  refine st_newL fun a => ?_
  refine st_forM (xs := cs) (R0 := rCellN) (fun _ => [some (rNest K z), some (dI n), some (rT K (cs.map rCellN)), some (rV (.ref a)), none, none, none, none]) (fun J k => iLst J a (((cs.take k).filter (inB z n)).map (rQd K z))) fam_lst (ei_seqT (vr 2)) (.same (.same (.same (.same (.skip (.skip (.skip (.skip .nil)))))))) (fun J k c hJ hk => ⟨_, _, tg_le (tg_unT tgs2) le_Tn, ?_⟩) ?_
  · have hlt : ((cs.take k).filter (inB z n)).length < sizeLine := Nat.lt_of_le_of_lt (Nat.le_trans (List.length_filter_le _ _) (by rw [List.length_take]; omega)) z8
    have e1 : ((cs.take (k + 1)).filter (inB z n)).map (rQd K z) = ((cs.take k).filter (inB z n)).map (rQd K z) ++ (if inB z n c = true then [rQd K z c] else []) := by
      rw [List.take_add_one, hk, List.filter_append, List.map_append]
      congr 1
      show (List.filter (inB z n) [c]).map _ = _
      cases e : inB z n c with
      | true => rw [List.filter_cons, if_pos e] <;> rfl
      | false => rw [List.filter_cons, if_neg (by rw [e]; decide)] <;> rfl
    refine st_if (P := fun b => b = inB z n c) (eb_andE (eb_B (ev_call (z.over, n, 0, c.1) (lp_true h1) (ea_cons (ev_fld (vr 0) fa.cl (fa.na _ (by decide)) rfl) (ea_cons (vr 1) (ea2 (kN.le (opt_any h1)) (vr 4)))))) (fun _ => eb_B (ev_call (z.below, n, c.1, c.2) h2 (ea_cons (ev_fld (vr 0) fa.cl (fa.na _ (by decide)) rfl) (ea_cons (vr 1) (ea2 ((vr 4).le opt_int) (vr 5))))))) (fun h => ?_) (fun h => st_nxt (st_to (.same (.same (.same (.same (.skip (.skip (.skip (.skip .nil)))))))) fun B H hi => ?_))
    · refine st_app (R := rQd K z c) (vr 3) (ev_tup (ea_cons (ev_sg (eb_B (ev_call z.over (lp_true h1) (ea1 (ev_fld (vr 0) fa.cl (fa.na _ (by decide)) rfl)))) (vr 4)) (ea_cons (ev_sg (eb_B (ev_call z.below h2 (ea1 (ev_fld (vr 0) fa.cl (fa.na _ (by decide)) rfl)))) (vr 5)) (ea2 (vr 4) (vr 5))))) (by rw [List.length_map]; exact hlt) (st_nxt (st_to (.same (.same (.same (.same (.skip (.skip (.skip (.skip .nil)))))))) fun B H hi => ?_))
      rw [e1, if_pos h.symm]
      exact hi
    · rw [e1, if_neg (by rw [← h]; decide), List.append_nil]
      exact hi
  · refine st_frz 3 rfl ?_
    rw [List.take_of_length_le (Nat.le_refl _)]
    let bs := cs.filter (inB z n)
    have hb8 : bs.length ≤ 8 := Nat.le_trans (List.length_filter_le _ _) hl
    have hbm : ∀ c ∈ bs.mergeSort (PySem.W.dataLe false (qdD z)), c ∈ cs := fun c hc => (List.mem_filter.mp ((List.mergeSort_perm _ _).mem_iff.mp hc)).1
    refine st_ret ((ev_lcA (xs := bs.mergeSort (PySem.W.dataLe false (qdD z))) (R0 := rQd K z) (rCell K) (by rw [List.length_mergeSort]; omega) (ei_seqL (ev_sorted (F := rQd K z) (enc := qdD z) (vr 3) (fun b _ => le_qd) (PySem.W.AllAlike.of fun b b' => by simp [PySem.W.alike, PySem.W.alikeAll, qdD]) (.inl fun d hd => ?_) (fun b _ => by simp [qdD, PyData.depth, PyData.depthAll]))) (fun c hc => ⟨_, _, tg_unT tgs4, fun j hj => hj, ev_tup (ea2 (vr 4) (vr 5))⟩)).le (le_ex (P := fun rs : List Cell => ∀ c ∈ rs, c ∈ cs) (R := fun rs => rL (rs.map (rCell K))) _ hbm (Le.refl _))) q
    obtain ⟨b, _, rfl⟩ := List.mem_map.mp hd
    exact ⟨_, _, rfl⟩
end
end Sq
set_option exponentiation.threshold 500
/-! Sq, part F9: the effect of a program. -/
namespace Sq
open PySem PySem.Spec PyProof.Rows L2
section
variable {m : Mt} {Γ Δ : Gm} {I J : Iv m} {D : Ends} {u tb : TS} {te ta tc td : TE} {R S : Rp} {K : PySem.W.Frag} {i : Nat} {g : TG} {d : Addr} {Po : HO → Prop}
/-! ### an object of one's own that callees may change -/
theorem obj_pre {B H : Hp} (h : (iObj I d Po).p B H) : Pre (m.add d Po) B H := by
  obtain ⟨h1, hf, hb, o, ho, hP⟩ := h
  have hp := I.pre h1
  refine ⟨hp.sub, fun a ha => ?_, fun a ha => ?_⟩
  · by_cases z : a = d
    · subst z; exact ⟨o, ho, fun _ => hP, fun ne => absurd rfl ne⟩
    · obtain ⟨v, e, k⟩ := hp.po a (ha.resolve_right z)
      exact ⟨v, e, fun e => absurd e z, fun _ => k⟩
  · rcases ha with ha | ha
    · exact hp.out a ha
    · rw [ha]; exact hb
theorem obj_step {B H B' H' : Hp} (h : (iObj I d Po).p B H) (s : Step (m.add d Po) B H B' H') : (iObj I d Po).p B' H' := by
  obtain ⟨h1, hf, hb, o, ho, hP⟩ := h
  obtain ⟨v, e, k⟩ := s.po d (.inr rfl)
  refine ⟨I.stepX h1 hf hb s, hf, ?_, v, e, k.1 rfl⟩
  cases q : B' d with
  | none => rfl
  | some w =>
    rcases s.new d w q with z | z
    · rw [hb] at z; cases z
    · rw [ho] at z; cases z
theorem st_dropX (he : EvG (m.add d Po) te Γ R) (h : StG m u Γ (iObj I d Po) D) : StG m (tSeq (tDrop te) u) Γ (iObj I d Po) D := fun σ B H hs hi =>
  he σ B H hs (obj_pre hi) _ fun v B' H' s _ => h σ B' H' (hs.mono s.sub) (obj_step hi s)
theorem st_retX (he : EvG (m.add d Po) te Γ R) (q : Rt I D.rt R) : StG m (tSeq (tRet te) u) Γ (iObj I d Po) D := fun σ B H hs hi =>
  he σ B H hs (obj_pre hi) _ fun v B' H' s r => q v B' H' (obj_step hi s).1 r
theorem add_ok {cs : List Cell} (o : HO) : (m.add d (DcOk cs)).ok d o ↔ DcOk cs o := ⟨fun h => h.1 rfl, fun h => ⟨fun _ => h, fun ne => absurd rfl ne⟩⟩
/-! ### a loop over a list that is told by a letter -/
theorem st_forx {α : Type} {P : α → Prop} {Rs : α → List Rp} (Is : Iv m → Iv m) (fam : Fam (m := m) (fun I _ => Is I)) (he : EvG m te Γ (rEx P fun a => rL (Rs a))) (Γ1 : Gm) (h0 : LeG Γ Γ1)
    (hb : ∀ (J : Iv m) a R, P a → Imp J I → R ∈ Rs a → ∃ Δ js, TgG m g Γ1 R Δ js ∧ StG m tb Δ (Is J) { D with nx := nxOf Γ1 (Is J), ct := nxOf Γ1 (Is J), bk := u D })
    (hd : StG m u Γ1 (Is I) D) : StG m (tSeq (tFor (iSeq K te) g tb) u) Γ (Is I) D := fun σ B H hs hi => by
  refine Or.inl (he σ B H hs ((Is I).pre hi) _ fun v B1 H1 s1 ⟨a, pa, x, xs, ex, hx, r⟩ => ?_)
  have i1 := (Is I).step hi s1
  have hp1 := (Is I).pre i1
  have sq : ∀ H', Sub B1 H' → SqL K H' x xs := fun H' sb => SqL.of (sb x _ hx)
  refine ⟨x, ex, ⟨xs, sq H1 hp1.sub⟩, fun k c σ H => c = xs.length - k ∧ k ≤ xs.length ∧ nxOf Γ1 (Is (iSub I B1)) σ H, ⟨xs.length, rfl, Nat.zero_le _, B1, (hs.mono s1.sub).le h0, fam.to (k := 0) i1 (Sub.refl _)⟩, ?_⟩
  rintro k c σ2 H2 ⟨rfl, hk, B2, hs2, hi2⟩
  obtain ⟨hi3, sb⟩ := fam.back (k := 0) hi2
  have hp2 := (Is I).pre hi3
  by_cases hlt : k < xs.length
  · refine .inr ⟨⟨xs, xs[k], sq H2 (sb.trans hp2.sub), List.getElem?_eq_getElem hlt⟩, nxOf Γ1 (Is (iSub I B1)), fun σ' H' h' => ⟨xs.length - (k + 1), by omega, rfl, hlt, h'⟩, fun y H' hy => ?_⟩
    obtain ⟨rfl, f⟩ := hy
    obtain ⟨R, e2, e3⟩ := r.get (f xs (sq _ (sb.trans hp2.sub)))
    obtain ⟨Δ, js, hg, hB⟩ := hb (iSub I B1) a R pa Imp.sub (List.mem_of_getElem? e2)
    refine hg σ2 B2 _ y hs2 ((Is (iSub I B1)).pre hi2) (R.mono sb e3) _ fun σ3 hs3 _ => ?_
    exact hB σ3 B2 _ hs3 hi2
  · have e : k = xs.length := by omega
    subst e
    exact .inl ⟨⟨xs, sq H2 (sb.trans hp2.sub), Nat.le_refl _⟩, hd σ2 B2 H2 hs2 hi3⟩
/-! ### letters chosen one by one -/
theorem all_choose {α β : Type} {P : α → Prop} {F : α → Rp} {B : Hp} : ∀ {ys : List β} {vs : List V}, AllR (ys.map fun _ => rEx P F) B vs → ∃ zs : List α, zs.length = ys.length ∧ (∀ z ∈ zs, P z) ∧ AllR (zs.map F) B vs
  | [], vs, h => ⟨[], rfl, fun _ h => absurd h List.not_mem_nil, h⟩
  | y :: ys, _, ⟨v, r, e, ⟨a, pa, ra⟩, t⟩ => by
    obtain ⟨zs, h1, h2, h3⟩ := all_choose t
    refine ⟨a :: zs, by rw [List.length_cons, List.length_cons, h1], fun z hz => ?_, v, r, e, ra, h3⟩
    rcases List.mem_cons.mp hz with q | q
    · rw [q]; exact pa
    · exact h2 z q
theorem le_choose {α β : Type} {P : α → Prop} {F : α → Rp} {ys : List β} : Le (rL (ys.map fun _ => rEx P F)) (rEx (fun zs : List α => zs.length = ys.length ∧ ∀ z ∈ zs, P z) fun zs => rL (zs.map F)) := fun B v ⟨a, xs, e, h, t⟩ => by
  obtain ⟨zs, h1, h2, h3⟩ := all_choose t
  exact ⟨zs, ⟨h1, h2⟩, a, xs, e, h, h3⟩
theorem ev_call1x {ι α : Type} {args : Mt → ι → List Rp} {pre : ι → Prop} {res : Mt → ι → Rp} {P : α → Prop} {F : α → Rp} (he : EvG m te Γ (rEx P F)) (f : α → ι) (h : ∀ a, P a → pre (f a) ∧ args m (f a) = [F a]) : EvG m (tCl (spF args pre res) (tCons te tNil)) Γ (rEx P fun a => res m (f a)) := fun σ B H hs hB Q q =>
  he σ B H hs hB _ fun v B1 H1 s1 ⟨a, pa, ra⟩ => by
    obtain ⟨h1, h2⟩ := h a pa
    exact ⟨m, B1, f a, hB.step s1, h1, by rw [h2]; exact ⟨v, [], rfl, ra, rfl⟩, fun x B2 H2 s2 r2 => q x B2 H2 (Step.trans hB s1 s2) ⟨a, pa, r2⟩⟩
/-! ### dict(zip(..)) of one's own -/
theorem cellsN_of {B : Hp} : ∀ {cs : List Cell} {xs : List V}, AllR (cs.map rCellN) B xs → ∃ ks : List (Addr × List Key), xs = ks.map (fun p => V.ref p.1) ∧ (∀ p ∈ ks, B p.1 = some (.tup (p.2.map kV))) ∧ ks.map (·.2) = cs.map cellK
  | [], _, h => ⟨[], h, fun _ h => absurd h List.not_mem_nil, rfl⟩
  | c :: cs, _, ⟨v, r, e, h, t⟩ => by
    obtain ⟨a, rfl, ha⟩ := celln_at h
    obtain ⟨ks, h1, h2, h3⟩ := cellsN_of t
    refine ⟨(a, cellK c) :: ks, by rw [e, h1] <;> rfl, fun p hp => ?_, by rw [List.map_cons, List.map_cons, h3]⟩
    rcases List.mem_cons.mp hp with q | q
    · rw [q]; exact ha
    · exact h2 p q
theorem st_newDZ {cs : List Cell} {zs : List Int} (ha : EvG m ta Γ (rT K (cs.map rCellN))) (hb : EvG m tc Γ (rL (zs.map dI))) (hl : zs.length = cs.length) (h0 : 0 < cs.length) (h100 : cs.length ≤ 100) (nd : cs.Nodup) (hz : ∀ z ∈ zs, z % 2 = 0)
    (h : ∀ d, StG m u (Γ.set i (some (rV (.ref d)))) (iObj I d (DcOk cs)) D) : StG m (tSeq (tAsg (tDZ K ta tc) (gName i)) u) Γ I D := fun σ B H hs hi => by
  refine ha σ B H hs (I.pre hi) _ fun x B1 H1 s1 ⟨a, xs, ex, hT, r⟩ => ?_
  have i1 := I.step hi s1
  refine hb σ B1 H1 (hs.mono s1.sub) (I.pre i1) _ fun y B2 H2 s2 ⟨b, ys, ey, hL, r2⟩ => ?_
  have i2 := I.step i1 s2
  have hp2 := I.pre i2
  obtain ⟨ks, e1, e2, e3⟩ := cellsN_of (r.mono s2.sub)
  subst e1
  obtain rfl := r2.ints
  have hk : ks.length = cs.length := by have := congrArg List.length e3; simpa using this
  refine ⟨a, b, ks, zs.map V.int, ex, ey, hp2.sub.sqT (s2.sub.sqT hT), SqL.of (hp2.sub _ _ hL), by omega, by omega, by rw [List.length_map]; omega, fun p hp => hp2.sub _ _ (e2 p hp), ?_, fun d nD => ?_⟩
  · rw [e3]
    exact List.pairwise_map.mpr (List.Pairwise.imp (fun h e => h (cellK_inj e)) nd)
  · have bd : B2 d = none := by
      cases e : B2 d with
      | none => rfl
      | some o => rw [hp2.sub d o e] at nD; cases nD
    have s3 : Step m B2 H2 B2 (upd H2 d (.dT ((ks.map (·.2)).zip (zs.map V.int)))) := (hp2.new nD).less (Sub.refl _) (hp2.new nD).sub
    refine h d _ B2 _ ((hs.mono (s1.sub.trans s2.sub)).set rfl) ⟨I.step i2 s3, I.news i2 nD, bd, _, upd_same, _, rfl, ?_, fun p hp => ?_⟩
    · rw [List.map_fst_zip (by rw [List.length_map, List.length_map]; omega), e3]
    · have := (List.of_mem_zip (a := p.1) (b := p.2) hp).2
      obtain ⟨z, hz', e⟩ := List.mem_map.mp this
      exact ⟨z, e.symm, hz z hz'⟩
end
theorem stV_even (n k : Nat) : stV n k % 2 = 0 := by
  unfold stV
  rw [sh1_nat]
  obtain ⟨e, he⟩ : ∃ e, 2 ^ k = e + 1 := ⟨2 ^ k - 1, by have := Nat.two_pow_pos k; omega⟩
  rw [he, Int.pow_succ, ← Int.mul_assoc]
  omega
theorem ded_len : ∀ (cs acc : List Cell), (ded acc cs).length ≤ acc.length + cs.length
  | [], acc => Nat.le_refl _
  | c :: cs, acc => by
    unfold ded
    split
    · exact Nat.le_trans (ded_len cs acc) (by rw [List.length_cons]; omega)
    · exact Nat.le_trans (ded_len cs _) (by rw [List.length_append, List.length_cons, List.length_cons, List.length_nil]; omega)
theorem imgs_len {n : Int} {c : Cell} : 0 < (imgs n c).length ∧ (imgs n c).length ≤ 8 ∧ (imgs n c).Nodup := by
  have hs := orb_sorted (cells8 n c.1 c.2)
  have hm := mem_orb (cells8 n c.1 c.2)
  have nd : (imgs n c).Nodup := by
    refine List.Pairwise.imp ?_ hs
    intro a b h e
    rw [e] at h
    exact clt_irrefl b h
  refine ⟨List.length_pos_of_mem ((hm (c.1, c.2)).mpr List.mem_cons_self), ?_, nd⟩
  have h1 := ded_len ((cells8 n c.1 c.2).mergeSort cle) []
  rw [List.length_mergeSort] at h1
  exact Nat.le_trans h1 (Nat.le_of_eq rfl)
/-- x is a or its mirror -/
def Nr (n a x : Int) : Prop := x = a ∨ x = n - 1 - a
theorem Nr.trans {n a x y : Int} (h : Nr n a x) (k : Nr n x y) : Nr n a y := by unfold Nr at *; omega
theorem mem8 {n a b x y : Int} : (x, y) ∈ cells8 n a b ↔ (Nr n a x ∧ Nr n b y) ∨ (Nr n b x ∧ Nr n a y) := by
  simp only [cells8, List.cons_append, List.nil_append, List.mem_cons, List.not_mem_nil, or_false, Prod.mk.injEq]
  constructor
  · rintro (⟨h1, h2⟩ | ⟨h1, h2⟩ | ⟨h1, h2⟩ | ⟨h1, h2⟩ | ⟨h1, h2⟩ | ⟨h1, h2⟩ | ⟨h1, h2⟩ | ⟨h1, h2⟩)
    exact .inl ⟨.inl h1, .inl h2⟩
    exact .inr ⟨.inl h1, .inl h2⟩
    exact .inl ⟨.inl h1, .inr h2⟩
    exact .inr ⟨.inr h1, .inl h2⟩
    exact .inl ⟨.inr h1, .inl h2⟩
    exact .inr ⟨.inl h1, .inr h2⟩
    exact .inl ⟨.inr h1, .inr h2⟩
    exact .inr ⟨.inr h1, .inr h2⟩
  · rintro (⟨h1 | h1, h2 | h2⟩ | ⟨h1 | h1, h2 | h2⟩)
    exact .inl ⟨h1, h2⟩
    exact .inr (.inr (.inl ⟨h1, h2⟩))
    exact .inr (.inr (.inr (.inr (.inl ⟨h1, h2⟩))))
    exact .inr (.inr (.inr (.inr (.inr (.inr (.inl ⟨h1, h2⟩))))))
    exact .inr (.inl ⟨h1, h2⟩)
    exact .inr (.inr (.inr (.inr (.inr (.inl ⟨h1, h2⟩)))))
    exact .inr (.inr (.inr (.inl ⟨h1, h2⟩)))
    exact .inr (.inr (.inr (.inr (.inr (.inr (.inr ⟨h1, h2⟩))))))
theorem plc_nr {k : Nat} (hk : k < 8) (n x y : Int) : (Nr n x (numV (spR k) n x y) ∧ Nr n y (numV (spC k) n x y)) ∨ (Nr n y (numV (spR k) n x y) ∧ Nr n x (numV (spC k) n x y)) := by
  have hk' : k = 0 ∨ k = 1 ∨ k = 2 ∨ k = 3 ∨ k = 4 ∨ k = 5 ∨ k = 6 ∨ k = 7 := by omega
  rcases hk' with e | e | e | e | e | e | e | e <;> subst e
  exact .inl ⟨.inl rfl, .inl rfl⟩
  exact .inr ⟨.inl rfl, .inl rfl⟩
  exact .inl ⟨.inl rfl, .inr rfl⟩
  exact .inr ⟨.inr rfl, .inl rfl⟩
  exact .inl ⟨.inr rfl, .inl rfl⟩
  exact .inr ⟨.inl rfl, .inr rfl⟩
  exact .inl ⟨.inr rfl, .inr rfl⟩
  exact .inr ⟨.inr rfl, .inr rfl⟩
/-- every place of every round at the images is one of them -/
theorem plc_in {n : Int} {c d : Cell} (hd : d ∈ imgs n c) {k : Nat} (hk : k < 8) : plc k n d ∈ imgs n c := by
  have hm := mem_orb (cells8 n c.1 c.2)
  obtain ⟨x, y⟩ := d
  have h := mem8.mp ((hm (x, y)).mp hd)
  refine (hm _).mpr (mem8.mpr ?_)
  rcases plc_nr hk n x y with ⟨h1, h2⟩ | ⟨h1, h2⟩ <;> rcases h with ⟨h3, h4⟩ | ⟨h3, h4⟩
  exact .inl ⟨h3.trans h1, h4.trans h2⟩
  exact .inr ⟨h3.trans h1, h4.trans h2⟩
  exact .inr ⟨h4.trans h1, h3.trans h2⟩
  exact .inl ⟨h4.trans h1, h3.trans h2⟩
section
variable {P : Program} {w : World} {K : PySem.W.Frag} {mg : Str → Option Value} {base : Heap} {m : Mt} {Γ : Gm} {ta tb te : TE}
/-- moves of a program at so many images -/
def MvOk (k : Nat) (ms : List Int) : Prop := ∃ ts : List Int, ts.length = k ∧ (∀ t ∈ ts, t % 2 = 0) ∧ ms = mvL ts
abbrev rMoves (K : PySem.W.Frag) (k : Nat) : Rp := rEx (fun ts : List Int => ts.length = k ∧ ∀ t ∈ ts, t % 2 = 0) fun ts => rT K ((mvL ts).map dI)
abbrev a_effect_on : Mt → List Ns × Int × Cell → List Rp := fun _ z => [rProg K z.1, dI z.2.1, rCell K z.2.2]
abbrev sp_effect_on : Sp := spF (a_effect_on (K := K)) (fun z => PgOk z.1 ∧ InT z.2.1 z.2.2) (fun _ z => rMoves K (imgs z.2.1 z.2.2).length)
theorem c_effect_on (T : Ty w K mg) (c_images_of : Cal P w K mg base 1 "images_of" (sp_images_of (K := K))) (c_starts : Cal P w K mg base 1 "starts" sp_starts) (c_orbit_rounds : Cal P w K mg base 4 "orbit_rounds" (sp_orbit_rounds (K := K)))
    (c_do_deed : Cal P w K mg base 3 "do_deed" (sp_do_deed (K := K) (He.ga K "meet_rows") (He.ga K "join_rows"))) (c_moves_from : Cal P w K mg base 1 "moves_from" (sp_moves_from (K := K))) (D : Df K mg "effect_on" "effect_on" s_effect_on) : Cal P w K mg base 5 "effect_on" (sp_effect_on (K := K)) := by
  refine cal_of D sc_effect_on (fun _ _ _ _ _ _ us hl => match us, hl with | [_, _, _], _ => rfl) (fun _ _ => rfl) (by decide) (fun f cdv A outer s H E hr => ⟨_, (pss_cons (ps_set (i := 3) sc_effect_on.nd rfl (.inl rfl) (pe_cal c_images_of hr (by decide) (by rfl) (pa_cons (pv 1) (pa_cons (pv 2) pa_nil))))
  (pss_cons (ps_set (i := 4) sc_effect_on.nd rfl (.inr rfl) (pe_dictzip hr rfl rfl (by rfl) T.b_dict (by rfl) T.b_zip (pv 3) (pe_cal c_starts hr (by decide) (by rfl) (pa_cons (pe_callB (call_lenK (K := K) rfl) (by rfl) T.b_len (by decide +kernel) (pa_cons (pv 3) pa_nil)) pa_nil))))
  (pss_cons (ps_for PassesOwn.never rfl (pi_seqK (K := K) rfl (pe_fldK (K := K) rfl (pv 0) rfl)) (pg_nameX (i := 5) sc_effect_on.nd rfl (.inl rfl) (.inr rfl))
  (pss_cons (ps_for PassesOwn.never rfl (pi_seqK (K := K) rfl (pe_cal c_orbit_rounds hr (by decide) (by rfl) (pa_cons (pv 5) (pa_cons (pv 1) (pa_cons (pv 3) pa_nil))))) (pg_unK (K := K) rfl rfl rfl rfl (pgs_cons (pg_nameX (i := 6) sc_effect_on.nd rfl (.inl rfl) (.inr rfl)) (pgs_cons (pg_nameX (i := 7) sc_effect_on.nd rfl (.inl rfl) (.inr rfl)) pgs_nil)))
  (pss_cons (ps_for PassesOwn.never rfl (pi_seqK (K := K) rfl (pe_fldK (K := K) rfl (pv 5) rfl)) (pg_nameX (i := 8) sc_effect_on.nd rfl (.inl rfl) (.inr rfl))
  (pss_cons (ps_expr (pe_cal c_do_deed hr (by decide) (by rfl) (pa_cons (pv 8) (pa_cons (pv 1) (pa_cons (pv 6) (pa_cons (pv 7) (pa_cons (pv 4) (pa_cons (C8.pe_gc (by rfl) T.g_meet_rows) (pa_cons (C8.pe_gc (by rfl) T.g_join_rows) pa_nil)))))))))
  pss_nil))
  pss_nil))
  pss_nil))
  (pss_cons (ps_ret (pe_cal c_moves_from hr (by decide) (by rfl) (pa_cons (pe_lcX (own := [("image", 9)]) rfl sc_effect_on.nd (pi_seqK (K := K) rfl (pv 3)) (blkOk_by (N := ["program", "size", "cell", "cells", "content", "nest", "i", "j", "deed", "image"]) (sc := defScope s_effect_on) (own := [("image", 9)]) (by decide +kernel)) (fun _ _ _ _ _ => (pg_nameX (i := 9) sc_effect_on.nd rfl (.inl rfl) (.inr rfl))) (fun _ _ _ _ _ => pts_nil) (fun _ _ _ _ _ => (pe_dget (hu_of hr) (pv 4) (pv 9) (fun _ _ => rfl))) (fun _ => rfl)) pa_nil)))
  pss_nil)))), fun m B0 H0 ⟨p, n, c⟩ Q hp ha q => ?_⟩)
  obtain ⟨⟨hp1, hp2⟩, hc⟩ := ha
  simp only at hp1 hp2 hc
  have fN := T.f_Nest
  have fP := T.f_Program
  obtain ⟨l0, l8, nd⟩ := imgs_len (n := n) (c := c)
  generalize ecs : imgs n c = cs at l0 l8 nd
  have hpl : ∀ d ∈ cs, ∀ k, k < 8 → plc k n d ∈ cs := fun d hd k hk => by rw [← ecs] at hd ⊢; exact plc_in hd hk
  refine st_set (R := rT K (cs.map rCellN)) (((ev_call (n, c) hc (ea2 (vr 1) (vr 2))).le le_Tf).to (by rw [← ecs])) ?_
  refine st_newDZ (cs := cs) (zs := (List.range cs.length).map (stV cs.length)) (vr 3) ((ev_call cs.length l8 (ea1 ((ev_lenT (vr 3)).to (by rw [List.length_map])))).to (by rw [List.map_map] <;> rfl)) (by rw [List.length_map, List.length_range]) l0 (by omega) nd (fun z hz => by obtain ⟨k, _, rfl⟩ := List.mem_map.mp hz; exact stV_even _ _) fun da => ?_
  let Γ1 : Gm := [some (rProg K p), some (dI n), some (rCell K c), some (rT K (cs.map rCellN)), some (rV (.ref da)), none, none, none, none, none]
  refine st_forM (xs := p) (R0 := rNest K) (fun _ => Γ1) (fun J _ => iObj J da (DcOk cs)) fam_obj (ei_seqT (ev_fld (vr 0) fP.cl (fP.na _ (by decide)) rfl)) (.same (.same (.same (.same (.same (.skip (.skip (.skip (.skip (.skip .nil)))))))))) (fun J k z hJ hk => ⟨_, _, tg_name, ?_⟩) ?_
  · have hz : NsOk z := hp1 z (List.mem_of_getElem? hk)
    let Γ2 : Gm := [some (rProg K p), some (dI n), some (rCell K c), some (rT K (cs.map rCellN)), some (rV (.ref da)), some (rNest K z), none, none, none, none]
    refine st_forx (P := fun rs : List Cell => ∀ c ∈ rs, c ∈ cs) (Rs := fun rs => rs.map (rCell K)) (fun J => iObj J da (DcOk cs)) fam_obj (ev_call (z, n, cs) ⟨hz, l8⟩ (ea_cons (vr 5) (ea2 (vr 1) (vr 3)))) Γ2 (.same (.same (.same (.same (.same (.same (.skip (.skip (.skip (.skip .nil)))))))))) (fun J2 rs R hrs hJ2 hR => ?_) (st_nxt (st_to (.same (.same (.same (.same (.same (.skip (.skip (.skip (.skip (.skip .nil)))))))))) fun B H h => h))
    obtain ⟨e, he, rfl⟩ := List.mem_map.mp hR
    have hecs := hrs e he
    refine ⟨_, _, tg_unT tgs2, ?_⟩
    let Γ3 : Gm := [some (rProg K p), some (dI n), some (rCell K c), some (rT K (cs.map rCellN)), some (rV (.ref da)), some (rNest K z), some (dI e.1), some (dI e.2), none, none]
    refine st_forM (xs := z.deeds) (R0 := rDeed K) (fun _ => Γ3) (fun J _ => iObj J da (DcOk cs)) fam_obj (ei_seqL (ev_fld (vr 5) fN.cl (fN.na _ (by decide)) rfl)) (.same (.same (.same (.same (.same (.same (.same (.same (.skip (.skip .nil)))))))))) (fun J3 k3 dd hJ3 hk3 => ⟨_, _, tg_name, ?_⟩) (st_nxt (st_to (.same (.same (.same (.same (.same (.same (.skip (.skip (.skip (.skip .nil)))))))))) fun B H h => h))
    have hdd : DdOk dd := hz.2.2.1 dd (List.mem_of_getElem? hk3)
    exact st_dropX (ev_callM (m := m.add da (DcOk cs)) (⟨dd, n, e, da, cs⟩ : Do) ⟨hdd, .inr rfl, add_ok, (show cs.length ≤ 100 by omega), fun k hk => hpl e hecs k hk⟩ (ea_cons (vr 8) (ea_cons (vr 1) (ea_cons (vr 6) (ea_cons (vr 7) (ea_cons (vr 4) (ea2 ev_c ev_c))))))) (st_nxt (st_to (.same (.same (.same (.same (.same (.same (.same (.same (.skip (.skip .nil)))))))))) fun B H h => h))
  · refine st_retX ((ev_call1x (P := fun zs : List Int => zs.length = cs.length ∧ ∀ z ∈ zs, z % 2 = 0) (F := fun zs => rL (zs.map dI)) ((ev_lcA (m := m.add da (DcOk cs)) (xs := cs) (R0 := rCellN) (fun _ => rAI) (by have : sizeLine = 16777216 := sizeLine_eq; omega) (ei_seqT (vr 3)) (fun x hx => ⟨_, _, tg_name, fun j hj => hj, ev_dget (.inr rfl) add_ok (vr 4) (vr 9) hx⟩)).le le_choose) id fun zs hzs => ⟨by show zs.length ≤ 8; omega, rfl⟩).to ?_) q
    rw [ecs]
    rfl
end
end Sq
/-! Sq, part F10: whether a program leaves its table. -/
namespace Sq
open PySem PySem.Spec PyProof.Rows L2
section
variable {m : Mt} {Γ Δ : Gm} {I J : Iv m} {D : Ends} {t u tb : TS} {te ta tc td : TE} {R S : Rp} {K : PySem.W.Frag} {φ ψ : Prop}
/-- a plain fact, kept from turn to turn -/
def iFact (I : Iv m) (φ : Prop) : Iv m where
  p := fun B H => I.p B H ∧ φ
  fr := I.fr
  pre := fun h => I.pre h.1
  step := fun h s => ⟨I.step h.1 s, h.2⟩
  frz := fun h hf e => ⟨I.frz h.1 hf e, h.2⟩
  chg := fun h hf hb e => ⟨I.chg h.1 hf hb e, h.2⟩
  news := fun h e => I.news h.1 e
  nm := fun h => I.nm h
  stepX := fun h hf hb s => ⟨I.stepX h.1 hf hb s, h.2⟩
theorem fam_fact {φ : Nat → Prop} : Fam (m := m) (fun I k => iFact I (φ k)) := ⟨fun h s => ⟨⟨h.1, s⟩, h.2⟩, fun h => ⟨⟨h.1.1, h.2⟩, h.1.2⟩⟩
theorem st_fact (h : φ → StG m t Γ I D) : StG m t Γ (iFact I φ) D := fun σ B H hs hi => h hi.2 σ B H hs hi.1
theorem st_know (hφ : φ) (h : StG m t Γ (iFact I φ) D) : StG m t Γ I D := fun σ B H hs hi => h σ B H hs ⟨hi, hφ⟩
end
/-! ### what it computes -/
def foldN (n : Int) : Int := if n > 7 then 6 + n % 2 else n
def outAt (z : Ns) (n i : Int) : Bool := decide (lo z.below n i < hi z.below n i) && (decide (i < 0) || (decide (n ≤ i) || (decide (lo z.below n i < 0) || decide (n < hi z.below n i))))
def fallN (z : Ns) (n : Int) : Bool := (List.range (hi z.over n 0 - lo z.over n 0).toNat).any fun k => outAt z n (lo z.over n 0 + (k : Int))
def fallsB (p : List Ns) (n : Int) : Bool := p.any fun z => fallN z (foldN n)
theorem endVal_bd {a : Nat} (ha : a < 12) {n : Int} (h0 : 0 ≤ n) (i : Int) : -1 ≤ endVal a n i ∧ endVal a n i ≤ n + 1 := by
  unfold endVal
  have h3 : a % 3 < 3 := Nat.mod_lt _ (by decide)
  have h4 : a / 3 < 4 := by omega
  have hb : 0 ≤ baseVal (a / 3) n i ∧ baseVal (a / 3) n i ≤ n := by
    have hc : a / 3 = 0 ∨ a / 3 = 1 ∨ a / 3 = 2 ∨ a / 3 = 3 := by omega
    rcases hc with e | e | e | e <;> rw [e] <;> simp only [baseVal] <;> omega
  omega
theorem lohi_bd {l : Lp} (h : LpOk false l) {n : Int} (h0 : 0 ≤ n) (i : Int) : -1 ≤ lo l n i ∧ lo l n i ≤ n + 1 ∧ -1 ≤ hi l n i ∧ hi l n i ≤ n + 1 := by
  have h12 := h.2.2.resolve_left fun z => nomatch z
  have h1 := endVal_bd h12.1 h0 i
  have h2 := endVal_bd h12.2 h0 i
  refine ⟨h1.1, h1.2, ?_, ?_⟩ <;> unfold hi <;> split <;> omega
section
variable {P : Program} {w : World} {K : PySem.W.Frag} {mg : Str → Option Value} {base : Heap} {m : Mt} {Γ : Gm} {ta tb te : TE}
abbrev a_falls_at : Mt → List Ns × Int → List Rp := fun _ z => [rProg K z.1, dI z.2]
abbrev sp_falls_at : Sp := spF (a_falls_at (K := K)) (fun z => PgOk z.1 ∧ 1 ≤ z.2) (fun _ z => dB (fallsB z.1 z.2))
theorem c_falls_at (T : Ty w K mg) (c_loop_range : Cal P w K mg base 2 "loop_range" (sp_loop_range (K := K))) (D : Df K mg "falls_at" "falls_at" s_falls_at) : Cal P w K mg base 3 "falls_at" (sp_falls_at (K := K)) := by
  refine cal_of D sc_falls_at (fun _ _ _ _ _ _ us hl => match us, hl with | [_, _], _ => rfl) (fun _ _ => rfl) (by decide) (fun f cdv A outer s H E hr => ⟨_, (C8.pss_cut (ps_if (pt_cmpR op_gt (pv 1) pe_int (nomark _))
  (pss_cons (ps_set (i := 1) sc_falls_at.nd rfl (.inl rfl) (pe_op op_addA pe_int (pe_op op_mod (pe_callTy call_int1 (by rfl) T.b_int (by decide +kernel) (pa_cons (pv 1) pa_nil)) pe_int)))
  pss_nil)
  pss_nil)
  (pss_cons (ps_for PassesOwn.never rfl (pi_seqK (K := K) rfl (pe_fldK (K := K) rfl (pv 0) rfl)) (pg_nameX (i := 2) sc_falls_at.nd rfl (.inl rfl) (.inr rfl))
  (pss_cons (ps_asg (pe_cal c_loop_range hr (by decide) (by rfl) (pa_cons (pe_fldK (K := K) rfl (pv 2) rfl) (pa_cons (pv 1) (pa_cons pe_non pa_nil)))) (pg_unK (K := K) rfl rfl rfl rfl (pgs_cons (pg_nameX (i := 3) sc_falls_at.nd rfl (.inl rfl) (.inr rfl)) (pgs_cons (pg_nameX (i := 4) sc_falls_at.nd rfl (.inl rfl) (.inr rfl)) (pgs_cons (pg_nameX (i := 5) sc_falls_at.nd rfl (.inl rfl) (.inr rfl)) pgs_nil)))))
  (pss_cons (ps_for PassesOwn.never rfl (pi_range2 (by rfl) T.b_range (pa_cons (pv 3) (pa_cons (pv 4) pa_nil))) (pg_nameX (i := 6) sc_falls_at.nd rfl (.inl rfl) (.inr rfl))
  (pss_cons (ps_asg (pe_cal c_loop_range hr (by decide) (by rfl) (pa_cons (pe_fldK (K := K) rfl (pv 2) rfl) (pa_cons (pv 1) (pa_cons (pv 6) pa_nil)))) (pg_unK (K := K) rfl rfl rfl rfl (pgs_cons (pg_nameX (i := 7) sc_falls_at.nd rfl (.inl rfl) (.inr rfl)) (pgs_cons (pg_nameX (i := 8) sc_falls_at.nd rfl (.inl rfl) (.inr rfl)) (pgs_cons (pg_nameX (i := 9) sc_falls_at.nd rfl (.inl rfl) (.inr rfl)) pgs_nil)))))
  (pss_cons (ps_if (PW.pt (pw_and (pt_cmpR op_lt (pv 7) (pv 8) (nomark _)) (pw_and1 (PW.pt (pw_or (pt_cmpR op_lt (pv 6) pe_int (nomark _)) (pw_or (pt_cmpR op_ge (pv 6) (pv 1) (nomark _)) (pw_or (pt_cmpR op_lt (pv 7) pe_int (nomark _)) (pw_or1 (pt_cmpR op_gt (pv 8) (pv 1) (nomark _))))))))))
  (pss_cons (ps_ret pe_bl)
  pss_nil)
  pss_nil)
  pss_nil)))
  pss_nil)))
  (pss_cons (ps_ret pe_bl)
  pss_nil))), fun m B0 H0 ⟨p, n⟩ Q hp ha q => ?_⟩)
  obtain ⟨⟨hp1, hp2⟩, h1⟩ := ha
  simp only at hp1 hp2 h1
  have fN := T.f_Nest
  have fP := T.f_Program
  have hq : Rt (I0 m B0 H0 hp) Q (dB (fallsB p n)) := q
  have hf : 1 ≤ foldN n ∧ foldN n ≤ 7 := by unfold foldN; split <;> omega
  generalize en : foldN n = k at hf
  refine st_cut [some (rProg K p), some (dI k), none, none, none, none, none, none, none, none] (I0 m B0 H0 hp) ?_ ?_
  · refine st_if (eb_test (ev_gt (vr 1) kI)) (fun h => ?_) (fun h => st_nxt (st_to (.same (.cons (le_eq ?_) (.same (.same (.same (.same (.same (.same (.same (.same .nil)))))))))) fun B H h => h))
    · refine st_set (R := dI k) ((ev_add kI (ev_mod (ev_int (vr 1)) kI (by decide))).to (congrArg dI ?_)) (st_nxt (st_to (.same (.same (.same (.same (.same (.same (.same (.same (.same (.same .nil)))))))))) fun B H h => h))
      rw [← en]
      unfold foldN
      rw [if_pos (of_decide_eq_true h.symm)]
    · rw [← en]
      unfold foldN
      rw [if_neg (of_decide_eq_false h.symm)]
  refine st_know (φ := ∀ z ∈ p.take 0, fallN z k = false) (fun z hz => absurd hz List.not_mem_nil) ?_
  refine st_forM (xs := p) (R0 := rNest K) (fun _ => [some (rProg K p), some (dI k), none, none, none, none, none, none, none, none]) (fun J j => iFact J (∀ z ∈ p.take j, fallN z k = false)) fam_fact (ei_seqT (ev_fld (vr 0) fP.cl (fP.na _ (by decide)) rfl)) (LeG.refl _) (fun J j z hJ hj => ⟨_, _, tg_name, ?_⟩) ?_
  · refine st_fact fun hno => ?_
    obtain ⟨hz1, hz2, _⟩ := hp1 z (List.mem_of_getElem? hj)
    have bd := lohi_bd hz1 (show (0 : Int) ≤ k by omega) 0
    have h62 : (2 : Int) ^ 62 = 4611686018427387904 := by decide
    refine st_asg (ev_call (z.over, k, 0) (lp_true hz1) (ea_cons (ev_fld (vr 2) fN.cl (fN.na _ (by decide)) rfl) (ea2 (vr 1) (kN.le (opt_any hz1))))) (tg_unT tgs3) ?_
    refine st_know (φ := ∀ i, i < 0 → outAt z k (lo z.over k 0 + (i : Nat)) = false) (fun i hi => absurd hi (Nat.not_lt_zero _)) ?_
    refine st_for (Ys := fun i => some (dI (lo z.over k 0 + (i : Nat)))) (fun _ => [some (rProg K p), some (dI k), some (rNest K z), some (dI (lo z.over k 0)), some (dI (hi z.over k 0)), none, none, none, none, none]) (fun J i => iFact J (∀ i', i' < i → outAt z k (lo z.over k 0 + (i' : Nat)) = false)) fam_fact (ei_rng2 (lo := lo z.over k 0) (n := hi z.over k 0) (ea2 (vr 3) (vr 4)) (by omega)) (.same (.same (.same (.same (.same (.skip (.same (.same (.same (.same .nil)))))))))) (fun J2 i R hJ2 hi hR => ?_) ?_
    · obtain rfl : dI (lo z.over k 0 + (i : Nat)) = R := Option.some.inj hR
      refine ⟨_, _, tg_name, st_fact fun hno2 => ?_⟩
      refine st_asg (ev_call (z.below, k, lo z.over k 0 + (i : Nat)) hz2 (ea_cons (ev_fld (vr 2) fN.cl (fN.na _ (by decide)) rfl) (ea2 (vr 1) ((vr 6).le opt_int)))) (tg_unT tgs3) ?_
      refine st_if (P := fun b => b = outAt z k (lo z.over k 0 + (i : Nat))) (eb_andE (eb_test (ev_lt (vr 7) (vr 8))) (fun _ => eb_orE (eb_test (ev_lt (vr 6) kI)) (fun _ => eb_orE (eb_test (ev_ge (vr 6) (vr 1))) (fun _ => eb_orE (eb_test (ev_lt (vr 7) kI)) (fun _ => eb_test (ev_gt (vr 8) (vr 1))))))) (fun h => ?_) (fun h => st_nxt (st_to (.same (.same (.same (.same (.same (.skip (.skip (.skip (.skip (.skip .nil)))))))))) fun B H hi2 => ?_))
      · refine st_ret kB ((hq.of (fun B H h => hJ B H (hJ2 B H h))).le (le_eq (congrArg dB ?_)))
        refine (List.any_eq_true.mpr ⟨z, List.mem_of_getElem? hj, ?_⟩).symm
        rw [en]
        exact List.any_eq_true.mpr ⟨i, List.mem_range.mpr hi, h.symm⟩
      · refine ⟨hi2, fun i' hi' => ?_⟩
        rcases Nat.lt_succ_iff_lt_or_eq.mp hi' with e | e
        · exact hno2 i' e
        · rw [e]; exact h.symm
    · refine st_fact fun hno3 => st_nxt (st_to (.same (.same (.skip (.skip (.skip (.same (.same (.same (.same (.same .nil)))))))))) fun B H hi2 => ?_)
      refine ⟨hi2, fun z' hz' => ?_⟩
      rw [List.take_add_one, hj] at hz'
      rcases List.mem_append.mp hz' with e | e
      · exact hno z' e
      · obtain rfl : z' = z := List.mem_singleton.mp e
        refine List.any_eq_false.mpr fun i hi => ?_
        rw [hno3 i (List.mem_range.mp hi)]
        decide
  · refine st_fact fun hno => st_ret kB (hq.le (le_eq (congrArg dB ?_)))
    rw [List.take_of_length_le (Nat.le_refl _)] at hno
    refine (List.any_eq_false.mpr fun z hz => ?_).symm
    rw [en, hno z hz]
    decide
end
end Sq
/-! Sq, part F11: sets of sizes. -/
namespace Sq
open PySem PySem.Spec PyProof.Rows L2
section
variable {m : Mt} {Γ Δ : Gm} {I J : Iv m} {D : Ends} {t u tb : TS} {te ta tc td : TE} {tt : TT} {R S : Rp} {K : PySem.W.Frag}
/-- while, by a letter that goes down -/
theorem st_while {α : Type} {P : α → Prop} (Γs : α → Gm) (μ : α → Nat) (a0 : α) (h0 : P a0)
    (hs : ∀ a, P a → ∃ Pb : Bool → Prop, EvB m tt (Γs a) Pb ∧ (Pb true → StG m tb (Γs a) I { D with nx := fun σ H => ∃ a', P a' ∧ μ a' < μ a ∧ nxOf (Γs a') I σ H, ct := fun σ H => ∃ a', P a' ∧ μ a' < μ a ∧ nxOf (Γs a') I σ H, bk := u D }) ∧ (Pb false → StG m u (Γs a) I D)) :
    StG m (tSeq (tWhile tt tb) u) (Γs a0) I D := fun σ B H hsl hi => by
  refine ⟨fun k σ H => ∃ a, P a ∧ k = μ a ∧ nxOf (Γs a) I σ H, ⟨μ a0, a0, h0, rfl, B, hsl, hi⟩, ?_⟩
  rintro k σ1 H1 ⟨a, pa, rfl, B1, hs1, hi1⟩
  obtain ⟨Pb, hc, h1, h2⟩ := hs a pa
  refine hc σ1 B1 H1 hs1 (I.pre hi1) _ fun b B2 H2 s pb => ?_
  cases b with
  | true => exact ⟨_, fun σ' H' ⟨a', q1, q2, q3⟩ => ⟨μ a', q2, a', q1, rfl, q3⟩, h1 pb σ1 B2 H2 (hs1.mono s.sub) (I.step hi1 s)⟩
  | false => exact h2 pb σ1 B2 H2 (hs1.mono s.sub) (I.step hi1 s)
theorem st_wto {α : Type} {P : α → Prop} {Γs : α → Gm} {μ : α → Nat} {n : Nat} {rt : VK} {bk ct : L2.St → Hp → Prop} (a : α) (ha : P a) (hm : μ a < n) (k : LeG Γ (Γs a)) : StG m tNext Γ I ⟨fun σ H => ∃ a', P a' ∧ μ a' < n ∧ nxOf (Γs a') I σ H, rt, bk, ct⟩ := fun σ B H hs hi => ⟨a, ha, hm, B, hs.le k, hi⟩
end
/-! ### options -/
def rOI : Option Int → Rp
  | none => dN
  | some i => dI i
section
variable {P : Program} {w : World} {K : PySem.W.Frag} {mg : Str → Option Value} {base : Heap} {m : Mt} {Γ : Gm} {ta tb te : TE}
theorem ev_oiN (o : Option Int) (h : EvG m ta Γ (rOI o)) : EvG m (tOp (fun x y H Q => y = .non ∧ Q (.bl (!decide (x = .non))) H) ta (tC .non)) Γ (dB o.isSome) :=
  ev_notN h fun B v r => by
    cases o with
    | none => rw [show v = .non from r] <;> rfl
    | some i => rw [show v = .int i from r] <;> rfl
/-! check_listed, check_tail -/
def LsOk (xs : List Int) (mo : Int) : Prop := xs.Pairwise (· < ·) ∧ ∀ x ∈ xs, 1 ≤ x ∧ x ≤ mo
def lastOf (xs : List Int) (k : Nat) : Int := if k = 0 then 0 else xs.getD (k - 1) 0
theorem last_lt {xs : List Int} {mo : Int} (h : LsOk xs mo) {k : Nat} {x : Int} (hk : xs[k]? = some x) : lastOf xs k + 1 ≤ x ∧ x ≤ mo := by
  obtain ⟨h1, h2⟩ := h
  have hx := h2 x (List.mem_of_getElem? hk)
  refine ⟨?_, hx.2⟩
  unfold lastOf
  split
  · omega
  · rename_i hne
    have hkl := (List.getElem?_eq_some_iff.mp hk).1
    have := List.pairwise_iff_getElem.mp h1 (k - 1) k (by omega) hkl (by omega)
    rw [List.getD_eq_getElem?_getD, List.getElem?_eq_getElem (by omega)]
    have e : xs[k] = x := (List.getElem?_eq_some_iff.mp hk).2
    show xs[k - 1] + 1 ≤ x
    omega
abbrev a_check_listed : Mt → List Int × Int → List Rp := fun _ z => [rT K (z.1.map dI), dI z.2]
abbrev sp_check_listed : Sp := spF (a_check_listed (K := K)) (fun z => LsOk z.1 z.2) (fun _ _ => dN)
theorem c_check_listed (T : Ty w K mg) (c_within_values : Cal P w K mg base 2 "within_values" sp_within) (D : Df K mg "check_listed" "check_listed" s_check_listed) : Cal P w K mg base 3 "check_listed" (sp_check_listed (K := K)) := by
  refine cal_of D sc_check_listed (fun _ _ _ _ _ _ us hl => match us, hl with | [_, _], _ => rfl) (fun _ _ => rfl) (by decide) (fun f cdv A outer s H E hr => ⟨_, (pss_cons (ps_if (pt_not (pt_val (pe_callB call_isi (by rfl) T.b_isinstance (by decide +kernel) (pa_cons (pv 0) (pa_cons (pe_bltn (v := .ty "tuple") (by rfl) T.b_tuple (by decide +kernel) rfl) pa_nil)))))
  (pss_cons ps_never
  pss_nil)
  pss_nil)
  (pss_cons (ps_set (i := 2) sc_check_listed.nd rfl (.inl rfl) pe_int)
  (pss_cons (ps_for PassesOwn.never rfl (pi_enumT (by rfl) T.b_enumerate (pa_cons (pv 0) pa_nil)) (pg_unK (K := K) rfl rfl rfl rfl (pgs_cons (pg_nameX (i := 3) sc_check_listed.nd rfl (.inl rfl) (.inr rfl)) (pgs_cons (pg_nameX (i := 4) sc_check_listed.nd rfl (.inl rfl) (.inr rfl)) pgs_nil)))
  (pss_cons (ps_if (pt_not (pt_val (pe_cal c_within_values hr (by decide) (by rfl) (pa_cons (pv 4) (pa_cons (pe_op op_addA (pv 2) pe_int) (pa_cons (pv 1) pa_nil))))))
  (pss_cons ps_never
  pss_nil)
  pss_nil)
  (pss_cons (ps_set (i := 2) sc_check_listed.nd rfl (.inl rfl) (pv 4))
  pss_nil)))
  pss_nil))), fun m B0 H0 ⟨xs, mo⟩ Q hp ha q => ?_⟩)
  refine st_if (eb_notE (eb_B (ev_isTup (vr 0)))) (fun h => nomatch h) (fun _ => st_nxt (st_set kI ?_))
  refine st_for (Γ := [some (rT K (xs.map dI)), some (dI mo), some (dI 0), none, none]) (n := (xs.map dI).length) (Ys := fun i => ((xs.map dI)[i]?).map fun R => rT K [dI (i : Int), R]) (fun k => [some (rT K (xs.map dI)), some (dI mo), some (dI (lastOf xs k)), none, none]) (fun J _ => J) fam_id (ei_enT (vr 0)) (.same (.same (.cons (Le.refl _) (.skip (.skip .nil))))) (fun J k R hJ hk hR => ?_) (st_end q)
  rw [List.length_map] at hk
  have ek := List.getElem?_eq_getElem hk
  rw [List.getElem?_map, ek] at hR
  obtain rfl : rT K [dI (k : Int), dI xs[k]] = R := Option.some.inj hR
  refine ⟨_, _, tg_unT tgs2, ?_⟩
  have hl := last_lt ha ek
  refine st_if (eb_to (eb_notE (eb_B (ev_call (xs[k], lastOf xs k + 1, mo) trivial (ea_cons (vr 4) (ea2 (ev_add (vr 2) kI) (vr 1)))))) (show _ = false by simp only [within_true hl.1 hl.2] <;> rfl)) (fun h => nomatch h) (fun _ => st_nxt ?_)
  refine st_set (vr 4) (st_to (.same (.same (.cons (le_eq ?_) (.skip (.skip .nil))))) fun B H h => h)
  unfold lastOf
  rw [if_neg (Nat.succ_ne_zero k), Nat.add_sub_cancel, List.getD_eq_getElem?_getD, ek] <;> rfl
def TlOk (o : Option Int) (r mo : Int) : Prop := ∀ i, o = some i → 1 ≤ i ∧ i ≤ mo ∧ i % 2 = r
abbrev a_check_tail : Mt → Option Int × Int × Int → List Rp := fun _ z => [rOI z.1, dI z.2.1, dI z.2.2]
abbrev sp_check_tail : Sp := spF a_check_tail (fun z => TlOk z.1 z.2.1 z.2.2) (fun _ _ => dN)
theorem c_check_tail (T : Ty w K mg) (c_within_values : Cal P w K mg base 2 "within_values" sp_within) (D : Df K mg "check_tail" "check_tail" s_check_tail) : Cal P w K mg base 3 "check_tail" sp_check_tail := by
  refine cal_of D sc_check_tail (fun _ _ _ _ _ _ us hl => match us, hl with | [_, _, _], _ => rfl) (fun _ _ => rfl) (by decide) (fun f cdv A outer s H E hr => ⟨_, (pss_cons (ps_if (PW.pt (pw_and (pt_cmpR op_notN (pv 0) pe_non (nomark _)) (pw_and1 (pt_not (PW.pt (pw_and (pt_val (pe_cal c_within_values hr (by decide) (by rfl) (pa_cons (pv 0) (pa_cons pe_int (pa_cons (pv 2) pa_nil))))) (pw_and1 (pt_cmpR (op_eqK (K := K) hr rfl rfl) (pe_op op_mod (pe_callTy call_int1 (by rfl) T.b_int (by decide +kernel) (pa_cons (pv 0) pa_nil)) pe_int) (pv 1) (nomark _)))))))))
  (pss_cons ps_never
  pss_nil)
  pss_nil)
  pss_nil), fun m B0 H0 ⟨o, r, mo⟩ Q hp ha q => ?_⟩)
  refine st_if (eb_to (eb_andE (b := o.isSome) (c := false) (eb_test (ev_oiN o (vr 0))) (fun h => ?_)) (Bool.and_false _)) (fun h => nomatch h) (fun _ => st_nxt (st_end q))
  cases o with
  | none => cases h
  | some i =>
    obtain ⟨h1, h2, h3⟩ := ha i rfl
    simp only at h1 h2 h3
    exact eb_notE (b := true) (eb_to (eb_andE (b := true) (c := true) (eb_B ((ev_call (i, 1, mo) trivial (ea_cons (vr 0 (R := dI i)) (ea2 kI (vr 2)))).to (congrArg dB (within_true h1 h2)))) (fun _ => eb_test ((ev_eqI (ev_mod (ev_int (vr 0 (R := dI i))) kI (by decide)) (vr 1)).to (congrArg dB (decide_eq_true h3))))) rfl)
/-! tail_from -/
def TlInv (xs : List Int) (b b' : Option Int) : Prop := (b = none → b' = none) ∧ ∀ e, b = some e → ∃ e', b' = some e' ∧ e' ≤ e ∧ (e - e') % 2 = 0 ∧ ∀ v, e' ≤ v → v < e → (e - v) % 2 = 0 → v ∈ xs
def tmu : Option Int → Nat
  | none => 0
  | some e => (e + 2).toNat
abbrev a_tail_from : Mt → List Int × Option Int → List Rp := fun _ z => [rT K (z.1.map dI), rOI z.2]
abbrev sp_tail_from : Sp := spF (a_tail_from (K := K)) (fun z => ∀ x ∈ z.1, 1 ≤ x) (fun _ z => rEx (TlInv z.1 z.2) rOI)
theorem c_tail_from (T : Ty w K mg) (D : Df K mg "tail_from" "tail_from" s_tail_from) : Cal P w K mg base 1 "tail_from" (sp_tail_from (K := K)) := by
  refine cal_of D sc_tail_from (fun _ _ _ _ _ _ us hl => match us, hl with | [_, _], _ => rfl) (fun _ _ => rfl) (by decide) (fun f cdv A outer s H E hr => ⟨_, (pss_cons (ps_while PassesOwn.never (PW.pt (pw_and (pt_cmpR op_notN (pv 1) pe_non (nomark _)) (pw_and1 (pt_cmpR (op_inK (K := K) hr rfl rfl) (pe_op op_sub (pv 1) pe_int) (pv 0) (by rfl)))))
  (pss_cons (ps_set (i := 1) sc_tail_from.nd rfl (.inl rfl) (pe_op op_sub (pv 1) pe_int))
  pss_nil))
  (pss_cons (ps_ret (pv 1))
  pss_nil)), fun m B0 H0 ⟨xs, b⟩ Q hp ha q => ?_⟩)
  refine st_while (P := TlInv xs b) (fun o => [some (rT K (xs.map dI)), some (rOI o)]) tmu b ⟨fun h => h, fun e he => ⟨e, he, Int.le_refl _, by omega, fun v h1 h2 _ => by omega⟩⟩ (fun o ho => ?_)
  cases o with
  | none => exact ⟨(· = false), eb_to (eb_andE (b := false) (c := false) (eb_test (ev_oiN none (vr 1))) (fun h => nomatch h)) rfl, fun h => (nomatch h), fun _ => st_ret ((vr 1).le (le_ex none ho (Le.refl _))) q⟩
  | some e =>
    refine ⟨(· = (true && decide (e - 2 ∈ xs))), eb_andE (eb_test (ev_oiN (some e) (vr 1))) (fun _ => eb_test (ev_inIT (ev_sub (vr 1 (R := dI e)) kI) (vr 0))), fun h => ?_, fun _ => st_ret ((vr 1).le (le_ex (some e) ho (Le.refl _))) q⟩
    have hm : e - 2 ∈ xs := of_decide_eq_true ((Bool.true_and _).symm.trans h.symm)
    have h1 : 1 ≤ e - 2 := ha _ hm
    refine st_set (R := dI (e - 2)) (ev_sub (vr 1 (R := dI e)) kI) (st_wto (some (e - 2)) ⟨fun hb => ?_, fun e0 he0 => ?_⟩ (show (e - 2 + 2).toNat < (e + 2).toNat by omega) (.same (.same .nil)))
    · have := ho.1 hb; cases this
    · obtain ⟨e', h2, h3, h4, h5⟩ := ho.2 e0 he0
      cases h2
      refine ⟨e - 2, rfl, by omega, by omega, fun v hv1 hv2 hv3 => ?_⟩
      by_cases z : e ≤ v
      · exact h5 v z hv2 hv3
      · have : v = e - 2 := by omega
        rw [this]; exact hm
/-! goes_on -/
def goesB (e o : Option Int) (v : Int) : Bool := match (if v % 2 = 0 then e else o) with
  | none => false
  | some b => decide (b ≤ v)
abbrev a_goes_on : Mt → Option Int × Option Int × Int → List Rp := fun _ z => [rT K [rOI z.1, rOI z.2.1], dI z.2.2]
abbrev sp_goes_on : Sp := spF (a_goes_on (K := K)) (fun _ => True) (fun _ z => dB (goesB z.1 z.2.1 z.2.2))
theorem c_goes_on (T : Ty w K mg) (D : Df K mg "goes_on" "goes_on" s_goes_on) : Cal P w K mg base 1 "goes_on" (sp_goes_on (K := K)) := by
  refine cal_of D sc_goes_on (fun _ _ _ _ _ _ us hl => match us, hl with | [_, _], _ => rfl) (fun _ _ => rfl) (by decide) (fun f cdv A outer s H E hr => ⟨_, (pss_cons (ps_set (i := 2) sc_goes_on.nd rfl (.inl rfl) (pe_ix (ix_seqK (K := K) rfl) (pv 0) (pe_op op_mod (pe_callTy call_int1 (by rfl) T.b_int (by decide +kernel) (pa_cons (pv 1) pa_nil)) pe_int) (fun _ _ => rfl)))
  (pss_cons (ps_ret (pe_and (pe_cmpR op_notN (pv 2) pe_non (nomark _)) (pe_one (pe_cmpR op_le (pv 2) (pv 1) (nomark _)))))
  pss_nil)), fun m B0 H0 ⟨e, o, v⟩ Q hp ha q => ?_⟩)
  refine st_set (R := rOI (if v % 2 = 0 then e else o)) (ev_ixT (vr 0) (ev_mod (ev_int (vr 1)) kI (by decide)) ?_) ?_
  · rcases (show v % 2 = 0 ∨ v % 2 = 1 by omega) with h | h
    · rw [h, if_pos rfl]; exact atN (n := 0) rfl
    · rw [h, if_neg (by decide)]; exact atN (n := 1) rfl
  · cases h : (if v % 2 = 0 then e else o) with
    | none => exact st_ret ((ev_andE (b := false) (c := false) (ev_oiN none (vr 2)) (fun h => nomatch h)).to (congrArg dB (by unfold goesB; rw [h] <;> rfl))) q
    | some b => exact st_ret ((ev_andE (ev_oiN (some b) (vr 2)) (fun _ => ev_le (vr 2 (R := dI b)) (vr 1))).to (congrArg dB (by unfold goesB; rw [h] <;> rfl))) q
/-! Sizes -/
structure Gp where
  ev : Option Int
  od : Option Int
  few : List Int
def memG (g : Gp) (v : Int) : Bool := decide (v ∈ g.few) || goesB g.ev g.od v
abbrev zn : List Str := ["tails", "few"]
abbrev rSizes (K : PySem.W.Frag) (g : Gp) : Rp := rO (He.ga K "Sizes") zn [rT K [rOI g.ev, rOI g.od], rT K (g.few.map dI)]
abbrev a_Sizes___contains : Mt → Gp × Int → List Rp := fun _ z => [rSizes K z.1, dI z.2]
abbrev sp_Sizes___contains (K : PySem.W.Frag) : Sp := spM (a_Sizes___contains (K := K)) (fun _ _ => True) (fun _ z => dB (memG z.1 z.2))
theorem c_Sizes___contains (T : Ty w K mg) (c_is_integer : Cal P w K mg base 1 "is_integer" sp_is_integer) (c_goes_on : Cal P w K mg base 1 "goes_on" (sp_goes_on (K := K))) (D : DfO K (He.ga K "Sizes") "__contains__" "Sizes.__contains__" s_Sizes___contains) : Own P w K mg base 2 (He.ga K "Sizes") "__contains__" (sp_Sizes___contains K) := by
  refine own_of D sc_Sizes___contains (fun _ _ _ _ _ _ us hl => match us, hl with | [_, _], _ => rfl) (fun _ _ => rfl) (by decide) (fun f cdv A outer s H E hr => ⟨_, (pss_cons (ps_ret (pe_and (pe_cal c_is_integer hr (by decide) (by rfl) (pa_cons (pv 1) pa_nil)) (pe_one (pe_or (pe_cmpR (op_inK (K := K) hr rfl rfl) (pv 1) (pe_fldK (K := K) rfl (pv 0) rfl) (by rfl)) (pe_one (pe_cal c_goes_on hr (by decide) (by rfl) (pa_cons (pe_fldK (K := K) rfl (pv 0) rfl) (pa_cons (pv 1) pa_nil))))))))
  pss_nil), fun m B0 H0 ⟨g, v⟩ Q hp ha q => ?_⟩)
  have fS := T.f_Sizes
  exact st_ret (ev_andE (b := true) (ev_call v trivial (ea1 (vr 1))) (fun _ => ev_orE (ev_inIT (vr 1) (ev_fld (vr 0) fS.cl (fS.na _ (by decide)) rfl)) (fun _ => ev_call (g.ev, g.od, v) trivial (ea2 (ev_fld (vr 0) fS.cl (fS.na _ (by decide)) rfl) (vr 1))))) q
end
end Sq
/-! Sq, part F12: Sizes(..), sizes_where. -/
namespace Sq
open PySem PySem.Spec PyProof.Rows L2
section
variable {P : Program} {w : World} {K : PySem.W.Frag} {mg : Str → Option Value} {base : Heap} {m : Mt} {Γ : Gm} {ta tb te : TE} {I : Iv m} {D : Ends} {t u : TS} {C : Addr} {ns : List Str} {Rs : List Rp}
theorem st_insX {α : Type} {P : α → Prop} {Ss : α → List Rp} {a : Addr} (ho : ∀ B vs, AllR Rs B vs → ∃ x, P x ∧ AllR (Ss x) B vs) (h : ∀ x, P x → StG m t Γ (iIns I a C ns (Ss x)) D) : StG m t Γ (iIns I a C ns Rs) D := fun σ B H hs hi => by
  obtain ⟨g1, g2, g3, o, g4, dx, vs, e, g5⟩ := hi
  obtain ⟨x, px, hx⟩ := ho B vs g5
  exact h x px σ B H hs ⟨g1, g2, g3, o, g4, dx, vs, e, hx⟩
theorem imp_ins {Ss : List Rp} {a : Addr} (h : Les Rs Ss) : Imp (iIns I a C ns Rs) (iIns I a C ns Ss) := fun B H ⟨g1, g2, g3, o, g4, dx, vs, e, g5⟩ => ⟨g1, g2, g3, o, g4, dx, vs, e, g5.le h⟩
/-! C(e, k = v, ..) -/
structure IniK (P : Program) (w : World) (K : PySem.W.Frag) (mg : Str → Option Value) (base : Heap) (k : Nat) (C : Addr) (n : Nat) (ks : List Str) (sp : Sp) : Prop where
  ex : ∃ (f : Addr) (fd : FuncData) (ps : List Str), Mk K C f ∧ FnOk P w K mg base CX0 k f fd ps sp ∧ KBn K fd ps (n + 1) ks (fun us ws => us ++ ws) (fun vs zs => vs ++ zs)
structure DfK (K : PySem.W.Frag) (C : Addr) (qual : Str) (st : Stmt) : Prop where
  ex : ∃ (f : Addr) (fd : FuncData) (dvs : List V) (kws : List (Str × V)), Mk K C f ∧ dvs.length = 1 ∧ kws ≠ [] ∧ FunD K "__init__" qual (defArgs st) (defBody st) (defScope st) dvs kws f fd
theorem pe_newK {X : Cx} {k j n : Nat} {C : Addr} {sp : Sp} {x : Str} {p pos : Pos} {e : Expr} {es : List Expr} {kws : List Keyword} {t tk : TA} {ks : List Str} (c : IniK X.prog X.w X.K X.mg X.base k C n ks sp) {A : Around} (hr : Room j A) (hk : k + 1 ≤ j) (hm : X.mg x = some (.ref C)) (hg : Gl X x) (ha : PA X (e :: es) t) (hkw : PK X kws tk) (hA : X.A = A := by rfl)
    (hall : (backToKw pos (keywordEach kws X.env)).all (·.1.isSome) = true := by rfl) (hks : (backToKw pos (keywordEach kws X.env)).filterMap (·.1) = ks := by rfl) (hdb : (x == ("__debug__" : Str)) = false := by decide)
    (he : starEach (e :: es) X.env = (false, eval e X.env) :: starEach es X.env := by rfl) (hpl : ((backTo pos (starEach (e :: es) X.env)).any (·.1) || (backToKw pos (keywordEach kws X.env)).any (·.1.isNone)) = false := by rfl) :
    PE X (.Call (.Name x p) (e :: es) kws pos) (tMakeK C n ks.length sp (fun vs zs => vs ++ zs) E0 t tk) := by
  obtain ⟨f, fd, ps, h1, h2, h3⟩ := c.ex
  exact pe_makeK h1 h2 (show Room (k + 1) X.A by rw [hA]; exact hr.mono hk) hg hm h3 pass0 ha hkw hall hks hdb he hpl
theorem ev_newK {ι : Type} {args : Mt → ι → List Rp} {pre : ι → Prop} {res : Mt → ι → List Rp} {t tk : TA} {R1 R2 : List Rp} {n k : Nat} (i : ι) (hp : pre i) (ha : EvA m t Γ R1) (hk : EvA m tk Γ R2) (hargs : args m i = R1 ++ R2) (h1 : R1.length = n) (h2 : R2.length = k) :
    EvG m (tMakeK C n k (spI args pre C ns res) (fun vs zs => vs ++ zs) E0 t tk) Γ (rO C ns (res m i)) := fun σ B H hs hB Q q =>
  ha σ B H hs hB _ fun vs B1 H1 s1 r1 => hk σ B1 H1 (hs.mono s1.sub) (hB.step s1) _ fun zs B2 H2 s2 r2 => ⟨by rw [r1.len, h1], by rw [r2.len, h2], fun x dx hx hd ne => by
    have hp2 := (hB.step s1).step s2
    have hb : B2 x = none := by
      cases e : B2 x with
      | none => rfl
      | some o => rw [hp2.sub x o e] at hx; cases hx
    exact ⟨m, B2, H2, B2, i, x, dx, vs ++ zs, rfl, hp2, new_pre hp2 hx hd ne, hx, hb, upd_same, hp, by rw [hargs]; exact (r1.mono s2.sub).app r2, fun B' H' s3 r3 => ⟨rfl, q _ B' H' (Step.trans hB (Step.trans hB s1 s2) s3) r3⟩⟩⟩
/-! Sizes -/
structure Zi where
  xs : List Int
  ev : Option Int
  od : Option Int
  mo : Int
def ZiOk (z : Zi) : Prop := LsOk z.xs z.mo ∧ TlOk z.ev 0 z.mo ∧ TlOk z.od 1 z.mo ∧ z.xs.length ≤ 100
abbrev zRs (K : PySem.W.Frag) (z : Zi) : List Rp := [rT K [rEx (TlInv z.xs z.ev) rOI, rEx (TlInv z.xs z.od) rOI], rEx (fun fs : List Int => ∀ v ∈ fs, v ∈ z.xs) fun fs => rT K (fs.map dI)]
abbrev sp_Sizes___init (K : PySem.W.Frag) : Sp := spI (fun _ (z : Zi) => [rT K (z.xs.map dI), rOI z.ev, rOI z.od, dI z.mo]) ZiOk (He.ga K "Sizes") zn (fun _ z => zRs K z)
def GpOk (z : Zi) (g : Gp) : Prop := TlInv z.xs z.ev g.ev ∧ TlInv z.xs z.od g.od ∧ ∀ v ∈ g.few, v ∈ z.xs
theorem zRs_le {z : Zi} : Le (rO (He.ga K "Sizes") zn (zRs K z)) (rEx (GpOk z) (rSizes K)) := fun B v ⟨a, dx, vs, e, h, v1, r1, e1, ⟨b, xs, eb, hT, x1, q1, f1, ⟨ev, h1, hv1⟩, x2, q2, f2, ⟨od, h2, hv2⟩, q3⟩, v2, r2, e2, ⟨fs, h3, hv3⟩, r3⟩ =>
  ⟨⟨ev, od, fs⟩, ⟨h1, h2, h3⟩, a, dx, vs, e, h, v1, r1, e1, ⟨b, xs, eb, hT, x1, q1, f1, hv1, x2, q2, f2, hv2, q3⟩, v2, r2, e2, hv3, r3⟩
theorem c_Sizes___init (T : Ty w K mg) (c_check_listed : Cal P w K mg base 3 "check_listed" (sp_check_listed (K := K))) (c_check_tail : Cal P w K mg base 3 "check_tail" sp_check_tail) (c_tail_from : Cal P w K mg base 1 "tail_from" (sp_tail_from (K := K))) (c_goes_on : Cal P w K mg base 1 "goes_on" (sp_goes_on (K := K)))
    (D : DfK K (He.ga K "Sizes") "Sizes.__init__" s_Sizes___init) : IniK P w K mg base 4 (He.ga K "Sizes") 1 ["even", "odd", "most"] (sp_Sizes___init K) := by
  obtain ⟨f, fd, dvs, kws, M, hl, hk, F⟩ := D.ex
  have G : FnOk P w K mg base CX0 (3 + 1) f fd ["self", "listed", "even", "odd", "most"] (sp_Sizes___init K) := by
    refine F.ok sc_Sizes___init (fun vs H Q E h => ?_) (fun cdv A outer s H vs Q E hr h => ⟨_, (pss_cons (ps_expr (pe_cal c_check_listed hr (by decide) (by rfl) (pa_cons (pv 1) (pa_cons (pv 4) pa_nil))))
  (pss_cons (ps_expr (pe_cal c_check_tail hr (by decide) (by rfl) (pa_cons (pv 2) (pa_cons pe_int (pa_cons (pv 4) pa_nil)))))
  (pss_cons (ps_expr (pe_cal c_check_tail hr (by decide) (by rfl) (pa_cons (pv 3) (pa_cons pe_int (pa_cons (pv 4) pa_nil)))))
  (pss_cons (ps_fld (pv 0) (pe_tup (pa_cons (pe_cal c_tail_from hr (by decide) (by rfl) (pa_cons (pv 1) (pa_cons (pv 2) pa_nil))) (pa_cons (pe_cal c_tail_from hr (by decide) (by rfl) (pa_cons (pv 1) (pa_cons (pv 3) pa_nil))) pa_nil))) rfl)
  (pss_cons (ps_fld (pv 0) (pe_callTy (call_tupleK (K := K) rfl) (by rfl) T.b_tuple (by decide +kernel) (pa_cons (pe_lcX (own := [("size", 5)]) rfl sc_Sizes___init.nd (pi_seqK (K := K) rfl (pv 1)) (blkOk_by (N := ["self", "listed", "even", "odd", "most", "size"]) (sc := defScope s_Sizes___init) (own := [("size", 5)]) (by decide +kernel)) (fun _ _ _ _ _ => (pg_nameX (i := 5) sc_Sizes___init.nd rfl (.inl rfl) (.inr rfl))) (fun _ _ _ _ _ => (pts_one (pt_not (pt_val (pe_cal c_goes_on hr (by decide) (by rfl) (pa_cons (pe_fldK (K := K) rfl (pv 0) rfl) (pa_cons (pv 5) pa_nil))))))) (fun _ _ _ _ _ => (pv 5)) (fun _ => rfl)) pa_nil)) rfl)
  pss_nil))))) , ini_run (args := fun _ (z : Zi) => [rT K (z.xs.map dI), rOI z.ev, rOI z.od, dI z.mo]) (pre := ZiOk) (res := fun _ z => zRs K z) (fun _ _ => by show 5 ≤ 6; decide) (fun m B0 H0 z x Q hp ha q => ?_) h⟩)
    · obtain ⟨m, B0, H0, B, i, x, dx, us, rfl, _, _, _, _, _, _, ha, _⟩ := h
      rw [List.length_cons, ha.len] <;> rfl
    · obtain ⟨xs, ev, od, mo⟩ := z
      obtain ⟨h1, h2, h3, h4⟩ := ha
      simp only at h1 h2 h3 h4
      have fS := T.f_Sizes
      refine st_drop (ev_call (xs, mo) h1 (ea2 (vr 1) (vr 4))) (st_drop (ev_call (ev, 0, mo) h2 (ea_cons (vr 2) (ea2 kI (vr 4)))) (st_drop (ev_call (od, 1, mo) h3 (ea_cons (vr 3) (ea2 kI (vr 4)))) ?_))
      have hp1 : ∀ x ∈ xs, 1 ≤ x := fun x hx => (h1.2 x hx).1
      refine st_fld (R := rT K [rEx (TlInv xs ev) rOI, rEx (TlInv xs od) rOI]) (ev_tup (ea2 (ev_call (xs, ev) hp1 (ea2 (vr 1) (vr 2))) (ev_call (xs, od) hp1 (ea2 (vr 1) (vr 3))))) rfl fS.cl (fS.na _ (by decide)) (by decide) rfl (by simp) ?_
      refine st_insX (α := Option Int × Option Int) (P := fun o => TlInv xs ev o.1 ∧ TlInv xs od o.2) (Ss := fun o => [rT K [rOI o.1, rOI o.2]]) (fun B vs ⟨v1, r1, e1, ⟨b, ys, eb, hT, x1, q1, f1, ⟨a1, g1, k1⟩, x2, q2, f2, ⟨a2, g2, k2⟩, q3⟩, r2⟩ => ⟨(a1, a2), ⟨g1, g2⟩, v1, r1, e1, ⟨b, ys, eb, hT, x1, q1, f1, k1, x2, q2, f2, k2, q3⟩, r2⟩) (fun o ho => ?_)
      obtain ⟨a1, a2⟩ := o
      refine st_fldZ (R := rT K ((xs.filter fun v => !goesB a1 a2 v).map dI)) rfl (ev_tupleL (ev_lcM (xs := xs) (R0 := dI) (fun v => !goesB a1 a2 v) dI (by have : sizeLine = 16777216 := sizeLine_eq; omega) (ei_seqT (vr 1)) (fun v hv => ⟨_, _, tg_name, fun j hj => hj, eb_notE (eb_B (ev_call (a1, a2, v) trivial (ea2 (ev_fld (vr 0) fS.cl (fS.na _ (by decide)) rfl) (vr 5)))), fun _ => vr 5⟩))) noIns_T fS.cl (fS.na _ (by decide)) (by decide) rfl (by simp) ?_
      refine st_end (q.of (imp_ins (.cons (le_T (.cons (le_ex a1 ho.1 (Le.refl _)) (.cons (le_ex a2 ho.2 (Le.refl _)) .nil))) (.cons (le_ex (P := fun fs : List Int => ∀ v ∈ fs, v ∈ xs) (R := fun fs => rT K (fs.map dI)) _ (fun v hv => (List.mem_filter.mp hv).1) (Le.refl _)) .nil))))
  obtain ⟨its, mv, hB⟩ := F.kbinds (ps := ["self", "listed", "even", "odd", "most"]) 2 ["even", "odd", "most"] [] (fun us _ _ ws => us ++ ws) (by intro e; rw [e] at hl; cases hl) hk (fun q hq => absurd hq List.not_mem_nil) (fun r1 _ _ r4 => r1.append r4) (fun T D doc pm an cdv ct us its mv ws l1 l2 l3 l4 => by
    rw [hl] at l2
    match us, its, mv, ws, l1, l2, l3, l4 with
    | [a, b], [c], [], [d, e, g], _, _, _, _ => exact ⟨_, rfl, rfl⟩)
  exact ⟨f, fd, _, M, G, hB⟩
end
end Sq
/-! Sq, part F13: sizes_where, actions. -/
namespace Sq
open PySem PySem.Spec PyProof.Rows L2
def bAt (bs : List Bool) (k : Nat) : Bool := bs.getD k false
def whereXs (bs : List Bool) : List Int := ((List.range 9).filter (bAt bs)).map fun (k : Nat) => 1 + (k : Int)
def endOf (bs : List Bool) (v : Nat) : Option Int := if bAt bs (v - 1) = true then some (v : Int) else none
def whereZ (bs : List Bool) : Zi := ⟨whereXs bs, endOf bs 10, endOf bs 11, 11⟩
theorem whereZ_ok (bs : List Bool) : ZiOk (whereZ bs) := by
  refine ⟨⟨?_, fun x hx => ?_⟩, fun i hi => ?_, fun i hi => ?_, ?_⟩
  · refine List.pairwise_map.mpr (List.Pairwise.imp (fun h => ?_) (List.Pairwise.filter _ List.pairwise_lt_range))
    omega
  · obtain ⟨k, hk, rfl⟩ := List.mem_map.mp hx
    have := List.mem_range.mp (List.mem_filter.mp hk).1
    show 1 ≤ 1 + (k : Int) ∧ 1 + (k : Int) ≤ 11
    omega
  · have hi' : endOf bs 10 = some i := hi
    unfold endOf at hi'
    split at hi'
    · cases hi'; exact ⟨by decide, (show (10 : Int) ≤ 11 by decide), by decide⟩
    · cases hi'
  · have hi' : endOf bs 11 = some i := hi
    unfold endOf at hi'
    split at hi'
    · cases hi'; exact ⟨by decide, (show (11 : Int) ≤ 11 by decide), by decide⟩
    · cases hi'
  · show (whereXs bs).length ≤ 100
    unfold whereXs
    rw [List.length_map]
    exact Nat.le_trans (List.length_filter_le _ _) (by rw [List.length_range]; decide)
section
variable {P : Program} {w : World} {K : PySem.W.Frag} {mg : Str → Option Value} {base : Heap} {m : Mt} {Γ : Gm} {ta tb te : TE}
theorem b_get {bs : List Bool} (hl : bs.length = 11) {k : Nat} (hk : k < 11) : (bs.map dB)[k]? = some (dB (bAt bs k)) := by
  rw [List.getElem?_map, List.getElem?_eq_getElem (by omega)]
  unfold bAt
  rw [List.getD_eq_getElem?_getD, List.getElem?_eq_getElem (by omega)] <;> rfl
abbrev a_sizes_where : Mt → List Bool → List Rp := fun _ bs => [rL (bs.map dB)]
abbrev sp_sizes_where : Sp := spF a_sizes_where (fun bs => bs.length = 11) (fun _ bs => rEx (GpOk (whereZ bs)) (rSizes K))
theorem c_sizes_where (T : Ty w K mg) (c_Sizes___init : IniK P w K mg base 4 (He.ga K "Sizes") 1 ["even", "odd", "most"] (sp_Sizes___init K)) (D : Df K mg "sizes_where" "sizes_where" s_sizes_where) : Cal P w K mg base 6 "sizes_where" (sp_sizes_where (K := K)) := by
  refine cal_of D sc_sizes_where (fun _ _ _ _ _ _ us hl => match us, hl with | [_], _ => rfl) (fun _ _ => rfl) (by decide) (fun f cdv A outer s H E hr => ⟨_, (pss_cons (ps_set (i := 1) sc_sizes_where.nd rfl (.inl rfl) (pe_callB (call_lenK (K := K) rfl) (by rfl) T.b_len (by decide +kernel) (pa_cons (pv 0) pa_nil)))
  (pss_cons (ps_set (i := 2) sc_sizes_where.nd rfl (.inl rfl) (pe_callTy (call_tupleK (K := K) rfl) (by rfl) T.b_tuple (by decide +kernel) (pa_cons (pe_lcX (own := [("size", 4)]) rfl sc_sizes_where.nd (pi_range2 (by rfl) T.b_range (pa_cons pe_int (pa_cons (pe_op op_sub (pv 1) pe_int) pa_nil))) (blkOk_by (N := ["truths", "many", "few", "ends", "size"]) (sc := defScope s_sizes_where) (own := [("size", 4)]) (by decide +kernel)) (fun _ _ _ _ _ => (pg_nameX (i := 4) sc_sizes_where.nd rfl (.inl rfl) (.inr rfl))) (fun _ _ _ _ _ => (pts_one (pt_val (pe_ix (ix_seqK (K := K) rfl) (pv 0) (pe_op op_sub (pv 4) pe_int) (fun _ _ => rfl))))) (fun _ _ _ _ _ => (pv 4)) (fun _ => rfl)) pa_nil)))
  (pss_cons (ps_setLcX (i := 3) (own := [("size", 4)]) rfl sc_sizes_where.nd rfl rfl (sw_true rfl rfl rfl (by decide +kernel)) (pi_seqK (K := K) rfl (pe_tup (pa_cons (pe_op op_sub (pv 1) pe_int) (pa_cons (pv 1) pa_nil)))) (blkOk_by (N := ["truths", "many", "few", "ends", "size"]) (sc := defScope s_sizes_where) (own := [("size", 4)]) (by decide +kernel)) (fun _ _ _ _ _ => (pg_nameX (i := 4) sc_sizes_where.nd rfl (.inl rfl) (.inr rfl))) (fun _ _ _ _ _ => pts_nil) (fun _ _ _ _ _ => (pe_ifExp (pt_val (pe_ix (ix_seqK (K := K) rfl) (pv 0) (pe_op op_sub (pv 4) pe_int) (fun _ _ => rfl))) (pv 4) pe_non)) (fun _ => rfl))
  (pss_cons (ps_if (pt_cmpR (op_eqK (K := K) hr rfl rfl) (pe_op op_mod (pe_callTy call_int1 (by rfl) T.b_int (by decide +kernel) (pa_cons (pv 1) pa_nil)) pe_int) pe_int (nomark _))
  (pss_cons (ps_ret (pe_newK c_Sizes___init hr (by decide) T.m_Sizes (by rfl) (pa_cons (pv 2) pa_nil) (pk_cons (pe_ix (ix_seqK (K := K) rfl) (pv 3) pe_int (fun _ _ => rfl)) (pk_cons (pe_ix (ix_seqK (K := K) rfl) (pv 3) pe_int (fun _ _ => rfl)) (pk_cons (pv 1) pk_nil)))))
  pss_nil)
  pss_nil)
  (pss_cons (ps_ret (pe_newK c_Sizes___init hr (by decide) T.m_Sizes (by rfl) (pa_cons (pv 2) pa_nil) (pk_cons (pe_ix (ix_seqK (K := K) rfl) (pv 3) pe_int (fun _ _ => rfl)) (pk_cons (pe_ix (ix_seqK (K := K) rfl) (pv 3) pe_int (fun _ _ => rfl)) (pk_cons (pv 1) pk_nil)))))
  pss_nil))))), fun m B0 H0 bs Q hp ha q => ?_⟩)
  have hl : bs.length = 11 := ha
  refine st_set (R := dI 11) ((ev_lenL (vr 0)).to (by rw [List.length_map, hl] <;> rfl)) ?_
  refine st_set (R := rT K ((whereXs bs).map dI)) ((ev_tupleL (ev_lcF (n := 9) (Ys := fun i => some (dI (1 + (i : Int)))) (bAt bs) (fun k => dI (1 + (k : Int))) (by decide) (ei_rng2 (lo := 1) (n := 11 - 1) (ea2 kI (ev_sub (vr 1) kI)) (by decide)) (fun k R hk hR => ?_))).to (by unfold whereXs; rw [List.map_map] <;> rfl)) ?_
  · obtain rfl : dI (1 + (k : Int)) = R := Option.some.inj hR
    exact ⟨_, _, tg_name, fun j hj => hj, eb_B (ev_ixL (vr 0) ((ev_sub (vr 4) kI).to (congrArg dI (show 1 + (k : Int) - 1 = ((k : Nat) : Int) by omega))) (atN (b_get hl (by omega)))), fun _ => vr 4⟩
  refine st_set (R := rL [rOI (endOf bs 10), rOI (endOf bs 11)]) ((ev_lcA (xs := [10, 11]) (R0 := fun v : Nat => dI (v : Int)) (fun v => rOI (endOf bs v)) (by decide) ?_ (fun v hv => ⟨_, _, tg_name, fun j hj => hj, ?_⟩)).to rfl) ?_
  · exact ei_seqT (ev_tup (Rs := [dI (10 : Int), dI (11 : Int)]) (ea2 ((ev_sub (vr 1 (R := dI 11)) kI).to rfl) (vr 1)))
  · have hv' : v = 10 ∨ v = 11 := by simpa using hv
    refine ev_if (eb_B (ev_ixL (vr 0) ((ev_sub (vr 4) kI).to (congrArg dI (show (v : Int) - 1 = ((v - 1 : Nat) : Int) by omega))) (atN (b_get hl (by omega))))) (fun h => (vr 4).to ?_) (fun h => kN.to ?_)
    · unfold endOf
      rw [if_pos h.symm] <;> rfl
    · unfold endOf
      rw [if_neg (by rw [← h]; decide)] <;> rfl
  refine st_if (eb_test (b := true) ((ev_eqI (ev_mod (ev_int (vr 1)) kI (by decide)) kI).to rfl)) (fun _ => ?_) (fun h => nomatch h)
  exact st_ret ((ev_newK (whereZ bs) (whereZ_ok bs) (ea1 (vr 2)) (ea_cons (ev_ixL (vr 3) kI (atN (n := 0) rfl)) (ea2 (ev_ixL (vr 3) kI (atN (n := 1) rfl)) (vr 1))) rfl rfl rfl).le zRs_le) q
/-! Action -/
abbrev an : List Str := ["moves", "gaps"]
abbrev acRs (K : PySem.W.Frag) (P : Program) (w : World) (z : (Kd → Rp) × Zi) : List Rp := [rMv K P w kinds z.1, rEx (GpOk z.2) (rSizes K)]
abbrev sp_Action___init (K : PySem.W.Frag) (P : Program) (w : World) : Sp := spI (fun _ z => acRs K P w z) (fun _ => True) (He.ga K "Action") an (fun _ z => acRs K P w z)
theorem c_Action___init (T : Ty w K mg) (D : DfI K (He.ga K "Action") "Action.__init__" s_Action___init) : Ini P w K mg base 1 (He.ga K "Action") (sp_Action___init K P w) := by
  refine ini_of D sc_Action___init (fun _ _ _ _ _ _ us hl => match us, hl with | [_, _, _], _ => rfl) (fun _ _ => rfl) (by decide) (fun f cdv A outer s H E hr => ⟨_, (pss_cons (ps_fld (pv 0) (pv 1) rfl)
  (pss_cons (ps_fld (pv 0) (pv 2) rfl)
  pss_nil)), fun m B0 H0 _ x Q hp ha q => ?_⟩)
  have fa := T.f_Action
  refine st_fld (vr 1) rfl fa.cl (fa.na _ (by decide)) (by decide) rfl (by simp) ?_
  exact st_fld (vr 2) rfl fa.cl (fa.na _ (by decide)) (by decide) rfl (by simp) (st_end q)
end
end Sq
set_option exponentiation.threshold 500
/-! Sq, part F14: Action.of, result, reaches. -/
namespace Sq
open PySem PySem.Spec PyProof.Rows L2
section
variable {P : Program} {w : World} {K : PySem.W.Frag} {mg : Str → Option Value} {base : Heap} {m : Mt} {Γ : Gm} {ta tb te : TE} {C : Addr}
/-! isinstance of one's own class; classmethods -/
theorem ev_isIns {ns : List Str} {Rs : List Rp} (c : C8.InsC K C) (ha : EvG m ta Γ (rO C ns Rs)) : EvG m (tCB (rIsi K) (tCons ta (tCons (tC (.ref C)) tNil))) Γ (dB true) :=
  ev_isi ha ev_c (.own C) (fun B H v hp ⟨a, dx, vs, e, h, _⟩ => by rw [e]; exact .base (TyOf.ins (hp.sub _ _ h) c.cl c.ha c.hn c.htk c.hm)) c.me
structure Cme (P : Program) (w : World) (K : PySem.W.Frag) (mg : Str → Option Value) (base : Heap) (k : Nat) (C : Addr) (name : Str) (sp : Sp) : Prop where
  ex : ∃ (mc : Value) (p g : Addr), ClX.CRead K C mc ∧ ClX.CMet K C mc name p g ∧ FnR P w K mg base CX0 k g sp
structure DfM (K : PySem.W.Frag) (C : Addr) (name qual : Str) (st : Stmt) : Prop where
  ex : ∃ (mc : Value) (p g : Addr) (fd : FuncData), ClX.CRead K C mc ∧ ClX.CMet K C mc name p g ∧ Fun K name qual st g fd
theorem cme_of {ι : Type} {args : Mt → ι → List Rp} {pre : Mt → ι → Prop} {res : Mt → ι → Rp} {name qual : Str} {st : Stmt} {N ps : List Str} {k : Nat} (D : DfM K C name qual st) (S : FnScope N ps (defScope st))
    (hb : ∀ (kV doc pm : Value) (an : Option Addr) (cdv ct : Value) (us : List Value), us.length = ps.length → bindArgs (PySem.W.fnOf name qual (defArgs st) (defBody st) (defScope st) .none kV doc pm an cdv ct) ⟨us, []⟩ = pure (ps.zip us))
    (hl : ∀ m i, (args m i).length = ps.length) (hN : ps.length ≤ N.length)
    (hbody : ∀ (f : Addr) (cdv : Value) (A : Around) (outer : List Env) (s : Shared) (H : Hp) (E : XK), Room k (A.deeper (envOfC qual (defScope st) s.heap.objs.size f cdv)) →
      ∃ t, PSs (cxOf CX0 P w K mg base N qual (defScope st) f cdv A outer s H E).nox (defBody st) t ∧
        ∀ (m : Mt) (B0 H0 : Hp) (i : ι) (Q : VK) (hp : Pre m B0 H0), pre m i → Rt (I0 m B0 H0 hp) Q (res m i) → StG m t (gam N (args m i)) (I0 m B0 H0 hp) { nx := fun _ H' => Q .non H', rt := Q }) : Cme P w K mg base (k + 1) C name (spM args pre res) := by
  obtain ⟨mc, p, g, fd, r, c, F⟩ := D.ex
  exact ⟨mc, p, g, r, c, ((fn_body F S hl hN hbody).raw (F.binds hb) .nil).imp fun vs H Q E h => by rw [List.append_nil]; exact h⟩
theorem pe_cme {X : Cx} {k j : Nat} {name : Str} {sp : Sp} {o e : Expr} {es : List Expr} {apos pos : Pos} {t : TA} {pl : Sem Bool} {A : Around} (c : Cme X.prog X.w X.K X.mg X.base k C name sp) (hr : Room j A) (hk : k ≤ j) (hA : X.A = A) (he : PE X o ta) (ha : PA X (e :: es) t)
    (hst : starEach (e :: es) X.env = (false, eval e X.env) :: starEach es X.env) (hpl : (backTo pos (starEach es X.env)).any (·.1) = false)
    (ht : eval (.Call (.Attribute o name apos) (e :: es) [] pos) X.env = (do
      let ov ← eval o X.env
      standAt apos.atName
      let (f, first) ← holding [ov] (getMethod ov name pl)
      callWith pos f first (backTo pos (starEach (e :: es) X.env)) (backToKw pos (keywordEach [] X.env)))) : PE X (.Call (.Attribute o name apos) (e :: es) [] pos) (ClX.tCMeth C sp E0 ta t) := by
  obtain ⟨mc, p, g, h1, h2, h3⟩ := c.ex
  exact ClX.pe_cmeth he h1 h2 h3 (show Room k X.A by rw [hA]; exact hr.mono hk) pass0 ha hst hpl ht
theorem ev_cme {ι : Type} {args : Mt → ι → List Rp} {pre : Mt → ι → Prop} {res : Mt → ι → Rp} {t : TA} {Ra : List Rp} (i : ι) (hp : pre m i) (ho : EvG m ta Γ (rV (.ref C))) (ha : EvA m t Γ Ra) (hargs : args m i = rV (.ref C) :: Ra) : EvG m (ClX.tCMeth C (spM args pre res) E0 ta t) Γ (res m i) := fun σ B H hs hB Q q =>
  ho σ B H hs hB _ fun x B1 H1 s1 r1 => ⟨r1, ha σ B1 H1 (hs.mono s1.sub) (hB.step s1) _ fun us B2 H2 s2 r2 => ⟨m, B2, i, (hB.step s1).step s2, hp, by rw [hargs]; exact ⟨_, us, rfl, rfl, r2⟩, fun v B3 H3 s3 r3 => q v B3 H3 (Step.trans hB (Step.trans hB s1 s2) s3) r3⟩⟩
/-! check_program -/
abbrev a_check_program : Mt → List Ns → List Rp := fun _ p => [rProg K p]
abbrev sp_check_program : Sp := spF (a_check_program (K := K)) (fun _ => True) (fun _ _ => dN)
theorem c_check_program (T : Ty w K mg) (D : Df K mg "check_program" "check_program" s_check_program) : Cal P w K mg base 1 "check_program" (sp_check_program (K := K)) := by
  refine cal_of D sc_check_program (fun _ _ _ _ _ _ us hl => match us, hl with | [_], _ => rfl) (fun _ _ => rfl) (by decide) (fun f cdv A outer s H E hr => ⟨_, (pss_cons (ps_if (pt_not (pt_val (pe_callB call_isi (by rfl) T.b_isinstance (by decide +kernel) (pa_cons (pv 0) (pa_cons (C8.pe_gc (by rfl) T.g_Program) pa_nil)))))
  (pss_cons ps_never
  pss_nil)
  pss_nil)
  pss_nil), fun m B0 H0 p Q hp ha q => ?_⟩)
  exact st_if (eb_notE (eb_B (ev_isIns T.i_Program (vr 0)))) (fun h => nomatch h) (fun _ => st_nxt (st_end q))
/-! of -/
theorem le_mv {α : Type} [Inhabited α] {Pk : Kd → α → Prop} {F : Kd → α → Rp} {ks : List Kd} : Le (rMv K P w ks (fun k => rEx (Pk k) (F k))) (rEx (fun M : Kd → α => ∀ k ∈ ks, Pk k (M k)) fun M => rMv K P w ks (fun k => F k (M k))) := fun B v ⟨D, xs, e, h, hk, nd, t⟩ => by
  have hx : ∀ k, k ∈ ks → ∃ a, Pk k a ∧ ∃ ka b, atKey xs (kdKey k) = some (ka, .ref b) ∧ (F k a).p B (.ref b) := fun k hm => by
    obtain ⟨ka, b, h1, a, h2, h3⟩ := t k hm
    exact ⟨a, h2, ka, b, h1, h3⟩
  let M : Kd → α := fun k => open Classical in if hm : k ∈ ks then (hx k hm).choose else default
  have hM : ∀ k (hm : k ∈ ks), M k = (hx k hm).choose := fun k hm => dif_pos hm
  refine ⟨M, fun k hm => ?_, D, xs, e, h, hk, nd, fun k hm => ?_⟩
  · rw [hM k hm]; exact (hx k hm).choose_spec.1
  · show ∃ ka b, atKey xs (kdKey k) = some (ka, Value.ref b) ∧ (F k (M k)).p B (V.ref b)
    rw [hM k hm]; exact (hx k hm).choose_spec.2
theorem kinds_ok : ∀ k ∈ kinds, (0 ≤ k.1 ∧ k.1 ≤ 1 ∧ 0 ≤ k.2.1 ∧ k.2.1 ≤ 2) ∧ (0 ≤ (cnr k).1 ∧ (cnr k).1 < lsz k ∧ 0 ≤ (cnr k).2 ∧ (cnr k).2 < lsz k) ∧ 1 ≤ lsz k ∧ lsz k ≤ 10 := by
  unfold lsz cnr
  decide +kernel
theorem kinds_nd : kinds.Nodup := by decide +kernel
def klen (k : Kd) : Nat := (imgs (lsz k) (cnr k)).length
def trs (p : List Ns) : List Bool := (List.range 11).map fun (k : Nat) => fallsB p (1 + (k : Int))
/-- an action: its moves by kinds, its gaps -/
abbrev rAct (K : PySem.W.Frag) (P : Program) (w : World) (M : Kd → List Int) (g : Gp) : Rp := rO (He.ga K "Action") an [rMv K P w kinds (fun k => rT K ((M k).map dI)), rSizes K g]
def AcOk (p : List Ns) (z : (Kd → List Int) × Gp) : Prop := (∀ k ∈ kinds, MvOk (klen k) (z.1 k)) ∧ GpOk (whereZ (trs p)) z.2
theorem le_act {p : List Ns} : Le (rO (He.ga K "Action") an [rMv K P w kinds (fun k => rMoves K (klen k)), rEx (GpOk (whereZ (trs p))) (rSizes K)]) (rEx (AcOk p) fun z => rAct K P w z.1 z.2) := fun B v ⟨a, dx, vs, e, h, v1, r1, e1, hv1, v2, r2, e2, ⟨g, hg, hv2⟩, r3⟩ => by
  obtain ⟨M, hM, hv⟩ := le_mv (F := fun _ ts => rT K ((mvL ts).map dI)) B v1 hv1
  exact ⟨(fun k => mvL (M k), g), ⟨fun k hk => ⟨M k, (hM k hk).1, (hM k hk).2, rfl⟩, hg⟩, a, dx, vs, e, h, v1, r1, e1, hv, v2, r2, e2, hv2, r3⟩
abbrev a_Action_of : Mt → List Ns → List Rp := fun _ p => [rV (.ref (He.ga K "Action")), rProg K p]
abbrev sp_Action_of (K : PySem.W.Frag) (P : Program) (w : World) : Sp := spM (a_Action_of (K := K)) (fun _ p => PgOk p) (fun _ p => rEx (AcOk p) fun z => rAct K P w z.1 z.2)
theorem c_Action_of (T : Ty w K mg) (c_check_program : Cal P w K mg base 1 "check_program" (sp_check_program (K := K))) (c_effect_on : Cal P w K mg base 5 "effect_on" (sp_effect_on (K := K))) (c_least_size : Cal P w K mg base 1 "least_size" (sp_least_size (K := K))) (c_corner : Cal P w K mg base 1 "corner" (sp_corner (K := K)))
    (c_sizes_where : Cal P w K mg base 6 "sizes_where" (sp_sizes_where (K := K))) (c_falls_at : Cal P w K mg base 3 "falls_at" (sp_falls_at (K := K))) (c_Action___init : Ini P w K mg base 1 (He.ga K "Action") (sp_Action___init K P w)) (D : DfM K (He.ga K "Action") "of" "Action.of" s_Action_of) : Cme P w K mg base 7 (He.ga K "Action") "of" (sp_Action_of K P w) := by
  refine cme_of D sc_Action_of (fun _ _ _ _ _ _ us hl => match us, hl with | [_, _], _ => rfl) (fun _ _ => rfl) (by decide) (fun f cdv A outer s H E hr => ⟨_, (pss_cons (ps_expr (pe_cal c_check_program hr (by decide) (by rfl) (pa_cons (pv 1) pa_nil)))
  (pss_cons (ps_setDcT (i := 2) (own := [("kind", 3)]) hr rfl rfl sc_Action_of.nd rfl rfl (swd_true rfl rfl rfl (by decide +kernel)) (pi_seqK (K := K) rfl (C8.pe_gc (by rfl) T.g_KINDS)) (blkOk_by (N := ["cls", "program", "moves", "kind", "size"]) (sc := defScope s_Action_of) (own := [("kind", 3)]) (by decide +kernel)) (fun _ _ _ _ _ => (pg_nameX (i := 3) sc_Action_of.nd rfl (.inl rfl) (.inr rfl))) (fun _ _ _ _ _ => (pv 3)) (fun _ _ _ _ _ => (pe_cal c_effect_on hr (by decide) (by rfl) (pa_cons (pv 1) (pa_cons (pe_cal c_least_size hr (by decide) (by rfl) (pa_cons (pv 3) pa_nil)) (pa_cons (pe_cal c_corner hr (by decide) (by rfl) (pa_cons (pv 3) pa_nil)) pa_nil))))) (fun _ => rfl))
  (pss_cons (ps_ret (pe_newL c_Action___init hr (by decide) (i := 0) rfl (Or.inl rfl) (pa_cons (pv 2) (pa_cons (pe_cal c_sizes_where hr (by decide) (by rfl) (pa_cons (pe_lcX (own := [("size", 4)]) rfl sc_Action_of.nd (pi_range2 (by rfl) T.b_range (pa_cons pe_int (pa_cons (pe_op op_addA (C8.pe_gc (by rfl) T.g_DECIDING) pe_int) pa_nil))) (blkOk_by (N := ["cls", "program", "moves", "kind", "size"]) (sc := defScope s_Action_of) (own := [("size", 4)]) (by decide +kernel)) (fun _ _ _ _ _ => (pg_nameX (i := 4) sc_Action_of.nd rfl (.inl rfl) (.inr rfl))) (fun _ _ _ _ _ => pts_nil) (fun _ _ _ _ _ => (pe_cal c_falls_at hr (by decide) (by rfl) (pa_cons (pv 1) (pa_cons (pv 4) pa_nil)))) (fun _ => rfl)) pa_nil)) pa_nil))))
  pss_nil))), fun m B0 H0 p Q hp ha q => ?_⟩)
  have hpg : PgOk p := ha
  refine st_drop (ev_call p trivial (ea1 (vr 1))) ?_
  refine st_set (R := rMv K P w kinds (fun k => rMoves K (klen k))) (ev_dcT kinds_nd (by decide) (fun k B v ⟨ts, _, a, xs, e, _⟩ => ⟨a, e⟩) (ei_seqT (ev_c.le fun B v e => by rw [show v = _ from e]; exact T.t_KINDS B)) (fun k hk => ⟨_, _, tg_name, fun j hj => hj, vr 3, ?_⟩)) ?_
  · obtain ⟨h1, h2, _⟩ := kinds_ok k hk
    exact ev_call (p, lsz k, cnr k) ⟨hpg, h2⟩ (ea_cons (vr 1) (ea2 (ev_call k h1 (ea1 (vr 3))) (ev_call k trivial (ea1 (vr 3)))))
  refine st_ret ((ev_loc rfl (ev_new (fun k => rMoves K (klen k), whereZ (trs p)) trivial (ea2 (vr 2) (ev_call (trs p) (by unfold trs; rw [List.length_map, List.length_range]) (ea1 ((ev_lc (n := 11) (Ys := fun i => some (dI (1 + (i : Int)))) (fun k => dB (fallsB p (1 + (k : Int)))) (by decide) (ei_rng2 (lo := 1) (n := 11 + 1) (ea2 kI (ev_add ev_c kI)) (by decide)) (fun k R hk hR => ?_)).to (by unfold trs; rw [List.map_map] <;> rfl))))))).le le_act) q
  obtain rfl : dI (1 + (k : Int)) = R := Option.some.inj hR
  exact ⟨_, _, tg_name, fun j hj => hj, ev_call (p, 1 + (k : Int)) ⟨hpg, by show 1 ≤ 1 + (k : Int); omega⟩ (ea2 (vr 1) (vr 4))⟩
end
end Sq
set_option exponentiation.threshold 500
/-! Sq, part F15: result, reaches. -/
namespace Sq
open PySem PySem.Spec PyProof.Rows L2
theorem pow_cast (n : Nat) : ((2 : Int) ^ n) = ((2 ^ n : Nat) : Int) := by rw [Int.natCast_pow]; rfl
theorem sum_bits (f : Nat → Int) (h : ∀ k, f k = 0 ∨ f k = 1) : ∀ n : Nat, 0 ≤ ((List.range n).map fun k => f k * 2 ^ ((k : Int)).toNat).sum ∧ ((List.range n).map fun k => f k * 2 ^ ((k : Int)).toNat).sum < ((2 ^ n : Nat) : Int)
  | 0 => by simp
  | n + 1 => by
    obtain ⟨h1, h2⟩ := sum_bits f h n
    rw [List.range_succ, List.map_append, List.sum_append]
    show 0 ≤ _ + (f n * 2 ^ ((n : Int)).toNat + 0) ∧ _ + (f n * 2 ^ ((n : Int)).toNat + 0) < _
    rw [Int.toNat_natCast, pow_cast, Nat.pow_succ]
    have hp : 0 < ((2 ^ n : Nat) : Int) := Int.natCast_pos.mpr (Nat.two_pow_pos n)
    rcases h n with e | e <;> rw [e] <;> push_cast at * <;> omega
theorem mvV_bd (ts : List Int) (c : Nat) : 0 ≤ mvV ts c ∧ mvV ts c < ((2 ^ ts.length : Nat) : Int) := sum_bits (fun k => b1 (ts.getD k 0) c) (fun k => b1_01 _ _) _
theorem mvL_len (ts : List Int) : (mvL ts).length = 2 ^ ts.length := by unfold mvL; rw [List.length_map, List.length_range]
theorem mvL_get (ts : List Int) (c : Nat) : (mvL ts).getD c 0 = if c < 2 ^ ts.length then mvV ts c else 0 := by
  unfold mvL
  rw [List.getD_eq_getElem?_getD, List.getElem?_map]
  by_cases h : c < 2 ^ ts.length
  · rw [List.getElem?_range h, if_pos h] <;> rfl
  · rw [List.getElem?_eq_none (by rw [List.length_range]; omega), if_neg h] <;> rfl
theorem mv_bd {k : Nat} {ms : List Int} (h : MvOk k ms) (c : Nat) : 0 ≤ ms.getD c 0 ∧ ms.getD c 0 < ((2 ^ k : Nat) : Int) := by
  obtain ⟨ts, rfl, _, rfl⟩ := h
  rw [mvL_get]
  split
  · exact mvV_bd ts c
  · exact ⟨Int.le_refl _, Int.natCast_pos.mpr (Nat.two_pow_pos _)⟩
theorem mv_len {k : Nat} {ms : List Int} (h : MvOk k ms) : ms.length = 2 ^ k := by
  obtain ⟨ts, rfl, _, rfl⟩ := h
  exact mvL_len ts
theorem mv_zero {k : Nat} {ms : List Int} (h : MvOk k ms) : ms.getD 0 0 = 0 := by
  obtain ⟨ts, rfl, he, rfl⟩ := h
  rw [mvL_get, if_pos (Nat.two_pow_pos _)]
  unfold mvV
  have hz : ∀ k, b1 (ts.getD k 0) 0 = 0 := fun k => by
    unfold b1
    rw [bitAnd_m1]
    show ts.getD k 0 / 1 % 2 = 0
    rw [Int.ediv_one, List.getD_eq_getElem?_getD]
    cases e : ts[k]? with
    | none => rfl
    | some t => exact he t (List.mem_of_getElem? e)
  have : ∀ xs : List Nat, (xs.map fun k => b1 (ts.getD k 0) 0 * 2 ^ ((k : Int)).toNat).sum = 0 := fun xs => by
    induction xs with
    | nil => rfl
    | cons x xs ih => rw [List.map_cons, List.sum_cons, ih, hz, Int.zero_mul] <;> rfl
  exact this _
theorem bits_ne : ∀ c, c < 256 → 0 < c → bitsOf ((c : Nat) : Int) ≠ [] := by decide +kernel
theorem bits_lt {c n e : Nat} (h : c < 2 ^ n) (he : e ∈ bitsOf (c : Int)) : e < n := by
  have h1 := tb1_ge (mem_bits.mp he).2
  exact (Nat.pow_lt_pow_iff_right (by decide)).mp (Nat.lt_of_le_of_lt h1 h)
theorem least_mem {ms : List Int} {k c : Nat} (h : c ∈ leastC ms k) (h0 : ms.getD 0 0 = 0) : c < ms.length ∧ 0 < c := by
  obtain ⟨h1, h2⟩ := List.mem_filter.mp h
  refine ⟨List.mem_range.mp h1, Nat.pos_of_ne_zero fun e => ?_⟩
  subst e
  unfold isLeast at h2
  rw [h0] at h2
  have : tb1 0 k = false := by
    unfold tb1 b1
    rw [Int.zero_ediv] <;> rfl
  rw [this] at h2
  cases h2
theorem reach_bd {ms : List Int} {n : Nat} (h : ∀ c, 0 ≤ ms.getD c 0 ∧ ms.getD c 0 < ((2 ^ n : Nat) : Int)) (e : Nat) : ∀ k, 0 ≤ reachV ms e k ∧ reachV ms e k < ((2 ^ n : Nat) : Int)
  | 0 => ⟨Int.le_refl _, Int.natCast_pos.mpr (Nat.two_pow_pos _)⟩
  | k + 1 => by
    have ih := reach_bd h e k
    rw [reachV_succ]
    unfold reachS
    split
    · have ha := h k
      have hb := h (k + 2 ^ e)
      have hx : Builtin.bitXor (ms.getD k 0) (ms.getD (k + 2 ^ e) 0) = ((((ms.getD k 0).toNat ^^^ (ms.getD (k + 2 ^ e) 0).toNat) : Nat) : Int) := Bits.bitXor_pp ha.1 hb.1
      have hx2 : ((ms.getD k 0).toNat ^^^ (ms.getD (k + 2 ^ e) 0).toNat) < 2 ^ n := Nat.xor_lt_two_pow (by omega) (by omega)
      rw [hx, Bits.bitOr_pp ih.1 (Int.natCast_nonneg _), Int.toNat_natCast]
      have ho : ((reachV ms e k).toNat ||| ((ms.getD k 0).toNat ^^^ (ms.getD (k + 2 ^ e) 0).toNat)) < 2 ^ n := Nat.or_lt_two_pow (by omega) hx2
      exact ⟨Int.natCast_nonneg _, Int.ofNat_lt.mpr ho⟩
    · exact ih
/-! the cells of a content -/
def pick (n : Int) (c : Cell) (x : Int) : List Cell := (bitsOf x).map fun k => (imgs n c).getD k (0, 0)
def encT (cs : List Cell) : PyData := .tuple (cs.map cellD)
def idxC (n : Int) (c : Cell) : Nat := (imgs n c).idxOf c
def resV (ms : List Int) (n : Int) (c : Cell) : List (List Cell) := ((leastC ms (idxC n c)).map fun (x : Nat) => pick n c (x : Int)).mergeSort (PySem.W.dataLe false encT)
def reaV (ms : List Int) (n : Int) (c : Cell) : List Cell := pick n c (reachV ms (idxC n c) ms.length)
theorem self_mem (n : Int) (c : Cell) : c ∈ imgs n c := (mem_orb _ _).mpr List.mem_cons_self
theorem idx_get (n : Int) (c : Cell) : (imgs n c)[idxC n c]? = some c ∧ (∀ k, k < idxC n c → (imgs n c)[k]? ≠ some c) ∧ idxC n c < (imgs n c).length := by
  have hm := self_mem n c
  have hl : idxC n c < (imgs n c).length := List.idxOf_lt_length_of_mem hm
  have hg : (imgs n c)[idxC n c]? = some c := by
    rw [List.getElem?_eq_getElem hl]
    exact congrArg some (List.getElem_idxOf hl)
  refine ⟨hg, fun k hk e => ?_, hl⟩
  have hkl : k < (imgs n c).length := Nat.lt_trans hk hl
  have nd := (imgs_len (n := n) (c := c)).2.2
  rw [List.getElem?_eq_getElem hkl] at e
  have e2 : (imgs n c)[k] = (imgs n c)[idxC n c] := (Option.some.inj e).trans (List.getElem_idxOf hl).symm
  have := (List.getElem_inj nd).mp e2
  omega
theorem cells_alike : ∀ a b : List Cell, PySem.W.alikeAll (a.map cellD) (b.map cellD) = true
  | [], _ => by unfold PySem.W.alikeAll; rfl
  | _ :: _, [] => rfl
  | x :: a, y :: b => by
    show (PySem.W.alike (cellD x) (cellD y) && PySem.W.alikeAll (a.map cellD) (b.map cellD)) = true
    rw [cells_alike a b] <;> rfl
section
variable {P : Program} {w : World} {K : PySem.W.Frag} {mg : Str → Option Value} {base : Heap} {m : Mt} {Γ : Gm} {ta tb te : TE} {C : Addr}
abbrev rCs (K : PySem.W.Frag) (cs : List Cell) : Rp := rT K (cs.map (rCell K))
theorem le_encT {cs : List Cell} : Le (rCs K cs) (rD K (encT cs)) := by
  refine Le.trans (le_T (les_map (fun c => le_cd) cs)) ?_
  have h := le_td (K := K) (ds := cs.map cellD)
  rw [List.map_map] at h
  exact h
theorem ev_pick {n : Int} {c : Cell} {x : Int} {wi : TI} {i : Nat} {vs : List Nat} (hw : EvI m wi Γ (dK (bitsOf x)).length (fun i => (dK (bitsOf x))[i]?)) (hb : ∀ k ∈ bitsOf x, k < (imgs n c).length) (hi : i ∈ vs) (he : ∀ k, EvG m te ((wipeG Γ vs).set i (some (dI ((k : Nat) : Int)))) (dI (k : Int))) (hc : ∀ R, EvG m ta ((wipeG Γ vs).set i (some R)) (rT K ((imgs n c).map rCellN))) :
    EvG m (tLc wi (gName i) tYes (tOp (rIx K) ta te) vs) Γ (rL ((pick n c x).map (rCell K))) :=
  (ev_lcA (xs := bitsOf x) (R0 := fun (k : Nat) => dI (k : Int)) (fun k => rCell K ((imgs n c).getD k (0, 0))) (Nat.lt_of_le_of_lt (bits_len x) (by decide)) hw (fun k hk => ⟨_, _, tg_name, fun j hj => by rw [List.mem_singleton.mp hj]; exact hi, (ev_ixT (hc _) (he k) (atN (by
    have hl := hb k hk
    rw [List.getElem?_map, List.getElem?_eq_getElem hl, List.getD_eq_getElem?_getD, List.getElem?_eq_getElem hl] <;> rfl))).le le_Tn⟩)).to (by unfold pick; rw [List.map_map] <;> rfl)
structure Rq where
  M : Kd → List Int
  g : Gp
  n : Int
  c : Cell
def RqOk (z : Rq) : Prop := (1 ≤ z.n ∧ z.n ≤ 10 ^ 30) ∧ InT z.n z.c ∧ memG z.g z.n = false ∧ kdOf z.n z.c ∈ kinds ∧ MvOk (imgs z.n z.c).length (z.M (kdOf z.n z.c))
abbrev a_rq (K : PySem.W.Frag) (P : Program) (w : World) : Mt → Rq → List Rp := fun _ z => [rAct K P w z.M z.g, dI z.n, rCell K z.c]
abbrev sp_Action_result (K : PySem.W.Frag) (P : Program) (w : World) : Sp := spM (a_rq K P w) (fun _ z => RqOk z) (fun _ z => rT K ((resV (z.M (kdOf z.n z.c)) z.n z.c).map (rCs K)))
theorem c_Action_result (T : Ty w K mg) (c_check_size : Cal P w K mg base 3 "check_size" sp_check_size) (c_check_cell : Cal P w K mg base 4 "check_cell" (sp_check_cell (K := K))) (c_images_of : Cal P w K mg base 1 "images_of" (sp_images_of (K := K))) (c_found_kind : Cal P w K mg base 1 "found_kind" (sp_found_kind (K := K))) (c_least_contents : Cal P w K mg base 2 "least_contents" (sp_least_contents (K := K))) (c_bits_of : Cal P w K mg base 1 "bits_of" sp_bits_of)
    (c_Sizes___contains : Own P w K mg base 2 (He.ga K "Sizes") "__contains__" (sp_Sizes___contains K)) (D : DfO K (He.ga K "Action") "result" "Action.result" s_Action_result) : Own P w K mg base 5 (He.ga K "Action") "result" (sp_Action_result K P w) := by
  refine own_of D sc_Action_result (fun _ _ _ _ _ _ us hl => match us, hl with | [_, _, _], _ => rfl) (fun _ _ => rfl) (by decide) (fun f cdv A outer s H E hr => ⟨_, (pss_cons (ps_expr (pe_cal c_check_size hr (by decide) (by rfl) (pa_cons (pv 1) pa_nil)))
  (pss_cons (ps_expr (pe_cal c_check_cell hr (by decide) (by rfl) (pa_cons (pv 1) (pa_cons (pv 2) pa_nil))))
  (pss_cons (ps_if (pt_cmpR (op_own_in c_Sizes___contains hr (by decide) rfl) (pv 1) (pe_fldK (K := K) rfl (pv 0) rfl) (by rfl))
  (pss_cons ps_never
  pss_nil)
  pss_nil)
  (pss_cons (ps_set (i := 3) sc_Action_result.nd rfl (.inr rfl) (pe_cal c_images_of hr (by decide) (by rfl) (pa_cons (pv 1) (pa_cons (pv 2) pa_nil))))
  (pss_cons (ps_set (i := 4) sc_Action_result.nd rfl (.inl rfl) (pe_cal c_least_contents hr (by decide) (by rfl) (pa_cons (pe_mvget hr rfl (pe_fldK (K := K) rfl (pv 0) rfl) (pe_cal c_found_kind hr (by decide) (by rfl) (pa_cons (pv 1) (pa_cons (pv 2) pa_nil))) (fun _ _ => rfl)) (pa_cons (pe_tindexF (K := K) hr rfl rfl (pv 3) (pa_cons (pv 2) pa_nil) rfl rfl rfl rfl rfl) pa_nil))))
  (pss_cons (ps_ret (pe_callTy (call_tupleK (K := K) rfl) (by rfl) T.b_tuple (by decide +kernel) (pa_cons (pe_callB (cr_sortD hr) (by rfl) T.b_sorted (by decide +kernel) (pa_cons (pe_lcX (own := [("content", 5)]) rfl sc_Action_result.nd (pi_seqK (K := K) rfl (pv 4)) (blkOk_by (N := ["self", "size", "cell", "cells", "contents", "content", "k"]) (sc := defScope s_Action_result) (own := [("content", 5)]) (by decide +kernel)) (fun _ _ _ _ _ => (pg_nameX (i := 5) sc_Action_result.nd rfl (.inl rfl) (.inr rfl))) (fun _ _ _ _ _ => pts_nil) (fun _ _ _ _ _ => (pe_callTy (call_tupleK (K := K) rfl) (by rfl) T.b_tuple (by decide +kernel) (pa_cons (pe_lcX (own := [("k", 6)]) rfl sc_Action_result.nd (pi_seqK (K := K) rfl (pe_cal c_bits_of hr (by decide) (by rfl) (pa_cons (pv 5) pa_nil))) (blkOk_by (own := [("k", 6)]) (by rfl)) (fun _ _ _ _ _ => (pg_nameX (i := 6) sc_Action_result.nd rfl (.inl rfl) (.inr rfl))) (fun _ _ _ _ _ => pts_nil) (fun _ _ _ _ _ => (pe_ix (ix_seqK (K := K) rfl) (pv 3) (pv 6) (fun _ _ => rfl))) (fun _ => rfl)) pa_nil))) (fun _ => rfl)) pa_nil)) pa_nil)))
  pss_nil)))))), fun m B0 H0 ⟨M, g, n, c⟩ Q hp ha q => ?_⟩)
  obtain ⟨h1, h2, h3, h4, h5⟩ := ha
  simp only at h1 h2 h3 h4 h5
  have fA := T.f_Action
  obtain ⟨l0, l8, nd⟩ := imgs_len (n := n) (c := c)
  obtain ⟨i1, i2, i3⟩ := idx_get n c
  have hml := mv_len h5
  have h256 : (M (kdOf n c)).length ≤ 256 := by rw [hml]; exact p8 l8
  refine st_drop (ev_call n h1 (ea1 (vr 1))) (st_drop (ev_call (n, c) h2 (ea2 (vr 1) (vr 2))) ?_)
  refine st_if (eb_test (ev_ownin (b := false) (g, n) trivial (vr 1) (ev_fld (vr 0) fA.cl (fA.na _ (by decide)) rfl) rfl (by rw [show memG (g, n).1 (g, n).2 = false from h3]))) (fun h => nomatch h) (fun _ => st_nxt ?_)
  refine st_set (R := rTf ((imgs n c).map rCellN)) (ev_call (n, c) h2 (ea2 (vr 1) (vr 2))) ?_
  refine st_set (R := rL (dK (leastC (M (kdOf n c)) (idxC n c)))) (ev_call (M (kdOf n c), idxC n c) h256 (ea2 (ev_mvget (ks := kinds) (R := fun k => rT K ((M k).map dI)) (k := kdOf n c) (ev_fld (vr 0) fA.cl (fA.na _ (by decide)) rfl) (ev_call (n, c) trivial (ea2 (vr 1) (vr 2))) h4) (ev_tindex (vr 3) (vr 2) i1 i2))) ?_
  have hcs : ∀ x ∈ leastC (M (kdOf n c)) (idxC n c), x < 2 ^ (imgs n c).length ∧ 0 < x ∧ x < 256 := fun x hx => by
    obtain ⟨g1, g2⟩ := least_mem hx (mv_zero h5)
    exact ⟨by rw [← hml]; exact g1, g2, by omega⟩
  refine st_ret (ev_tupleL (ev_sorted (F := rCs K) (enc := encT) (bs := (leastC (M (kdOf n c)) (idxC n c)).map fun (x : Nat) => pick n c (x : Int)) ((ev_lcA (xs := leastC (M (kdOf n c)) (idxC n c)) (R0 := fun (x : Nat) => dI (x : Int)) (fun x => rCs K (pick n c (x : Int))) ?_ (ei_seqL (vr 4)) (fun x hx => ⟨_, _, tg_name, fun j hj => hj, ev_tupleL (ev_pick (i := 6) (ei_seqL (ev_call ((x : Nat) : Int) trivial (ea1 (vr 5)))) (fun k hk => bits_lt (hcs x hx).1 hk) (by decide) (fun k => vr 6) (fun R => (vr 3).le le_Tf))⟩)).to ?_) (fun b _ => le_encT) (PySem.W.AllAlike.of fun b b' => ?_) (.inl fun d hd => ?_) (fun b _ => ?_))) q
  · unfold leastC
    refine Nat.lt_of_le_of_lt (List.length_filter_le _ _) ?_
    rw [List.length_range]
    have : sizeLine = 16777216 := sizeLine_eq
    omega
  · rw [List.map_map] <;> rfl
  · show PySem.W.alikeAll (b.map cellD) (b'.map cellD) = true
    exact cells_alike b b'
  · obtain ⟨cs, hc, rfl⟩ := List.mem_map.mp hd
    obtain ⟨x, hx, rfl⟩ := List.mem_map.mp hc
    obtain ⟨_, g2, g3⟩ := hcs x hx
    have hne := bits_ne x g3 g2
    unfold pick
    cases e : bitsOf ((x : Nat) : Int) with
    | nil => exact absurd e hne
    | cons y ys => exact ⟨_, _, rfl⟩
  · have := (cells_lay b).2
    show (PyData.tuple (b.map cellD)).depth ≤ 60
    simp only [PyData.depth]
    omega
abbrev sp_Action_reaches (K : PySem.W.Frag) (P : Program) (w : World) : Sp := spM (a_rq K P w) (fun _ z => RqOk z) (fun _ z => rCs K (reaV (z.M (kdOf z.n z.c)) z.n z.c))
theorem c_Action_reaches (T : Ty w K mg) (c_check_size : Cal P w K mg base 3 "check_size" sp_check_size) (c_check_cell : Cal P w K mg base 4 "check_cell" (sp_check_cell (K := K))) (c_images_of : Cal P w K mg base 1 "images_of" (sp_images_of (K := K))) (c_found_kind : Cal P w K mg base 1 "found_kind" (sp_found_kind (K := K))) (c_reached_bits : Cal P w K mg base 2 "reached_bits" (sp_reached_bits (K := K)))
    (c_Sizes___contains : Own P w K mg base 2 (He.ga K "Sizes") "__contains__" (sp_Sizes___contains K)) (D : DfO K (He.ga K "Action") "reaches" "Action.reaches" s_Action_reaches) : Own P w K mg base 5 (He.ga K "Action") "reaches" (sp_Action_reaches K P w) := by
  refine own_of D sc_Action_reaches (fun _ _ _ _ _ _ us hl => match us, hl with | [_, _, _], _ => rfl) (fun _ _ => rfl) (by decide) (fun f cdv A outer s H E hr => ⟨_, (pss_cons (ps_expr (pe_cal c_check_size hr (by decide) (by rfl) (pa_cons (pv 1) pa_nil)))
  (pss_cons (ps_expr (pe_cal c_check_cell hr (by decide) (by rfl) (pa_cons (pv 1) (pa_cons (pv 2) pa_nil))))
  (pss_cons (ps_if (pt_cmpR (op_own_in c_Sizes___contains hr (by decide) rfl) (pv 1) (pe_fldK (K := K) rfl (pv 0) rfl) (by rfl))
  (pss_cons ps_never
  pss_nil)
  pss_nil)
  (pss_cons (ps_set (i := 3) sc_Action_reaches.nd rfl (.inr rfl) (pe_cal c_images_of hr (by decide) (by rfl) (pa_cons (pv 1) (pa_cons (pv 2) pa_nil))))
  (pss_cons (ps_ret (pe_callTy (call_tupleK (K := K) rfl) (by rfl) T.b_tuple (by decide +kernel) (pa_cons (pe_lcX (own := [("k", 4)]) rfl sc_Action_reaches.nd (pi_seqK (K := K) rfl (pe_cal c_reached_bits hr (by decide) (by rfl) (pa_cons (pe_mvget hr rfl (pe_fldK (K := K) rfl (pv 0) rfl) (pe_cal c_found_kind hr (by decide) (by rfl) (pa_cons (pv 1) (pa_cons (pv 2) pa_nil))) (fun _ _ => rfl)) (pa_cons (pe_tindexF (K := K) hr rfl rfl (pv 3) (pa_cons (pv 2) pa_nil) rfl rfl rfl rfl rfl) pa_nil)))) (blkOk_by (N := ["self", "size", "cell", "cells", "k"]) (sc := defScope s_Action_reaches) (own := [("k", 4)]) (by decide +kernel)) (fun _ _ _ _ _ => (pg_nameX (i := 4) sc_Action_reaches.nd rfl (.inl rfl) (.inr rfl))) (fun _ _ _ _ _ => pts_nil) (fun _ _ _ _ _ => (pe_ix (ix_seqK (K := K) rfl) (pv 3) (pv 4) (fun _ _ => rfl))) (fun _ => rfl)) pa_nil)))
  pss_nil))))), fun m B0 H0 ⟨M, g, n, c⟩ Q hp ha q => ?_⟩)
  obtain ⟨h1, h2, h3, h4, h5⟩ := ha
  simp only at h1 h2 h3 h4 h5
  have fA := T.f_Action
  obtain ⟨l0, l8, nd⟩ := imgs_len (n := n) (c := c)
  obtain ⟨i1, i2, i3⟩ := idx_get n c
  have hml := mv_len h5
  refine st_drop (ev_call n h1 (ea1 (vr 1))) (st_drop (ev_call (n, c) h2 (ea2 (vr 1) (vr 2))) ?_)
  refine st_if (eb_test (ev_ownin (b := false) (g, n) trivial (vr 1) (ev_fld (vr 0) fA.cl (fA.na _ (by decide)) rfl) rfl (by rw [show memG (g, n).1 (g, n).2 = false from h3]))) (fun h => nomatch h) (fun _ => st_nxt ?_)
  refine st_set (R := rTf ((imgs n c).map rCellN)) (ev_call (n, c) h2 (ea2 (vr 1) (vr 2))) ?_
  have hbd := reach_bd (mv_bd h5) (idxC n c) (M (kdOf n c)).length
  have hcast : reachV (M (kdOf n c)) (idxC n c) (M (kdOf n c)).length = (((reachV (M (kdOf n c)) (idxC n c) (M (kdOf n c)).length).toNat : Nat) : Int) := (Int.toNat_of_nonneg hbd.1).symm
  refine st_ret (ev_tupleL (ev_pick (i := 4) (ei_seqL (ev_call (M (kdOf n c), idxC n c, (imgs n c).length) ⟨l8, hml, i3⟩ (ea2 (ev_mvget (ks := kinds) (R := fun k => rT K ((M k).map dI)) (k := kdOf n c) (ev_fld (vr 0) fA.cl (fA.na _ (by decide)) rfl) (ev_call (n, c) trivial (ea2 (vr 1) (vr 2))) h4) (ev_tindex (vr 3) (vr 2) i1 i2)))) (fun k hk => ?_) (by decide) (fun k => vr 4) (fun R => (vr 3).le le_Tf))) q
  rw [hcast] at hk
  exact bits_lt ((Int.toNat_lt hbd.1).mpr hbd.2) hk
end
end Sq
/-! Sq, part F16: nests, programs. -/
namespace Sq
open PySem PySem.Spec PyProof.Rows L2
section
variable {P : Program} {w : World} {K : PySem.W.Frag} {mg : Str → Option Value} {base : Heap} {m : Mt} {Γ : Gm} {ta tb te : TE} {C : Addr} {ns : List Str} {ι : Type} {Ra Rb : Mt → ι → List Rp} {pre : ι → Prop} {res : Mt → ι → List Rp} {N : List Str}
theorem all_split {B : Hp} : ∀ {Rs Ss : List Rp} {vs : List V}, AllR (Rs ++ Ss) B vs → ∃ us ws, vs = us ++ ws ∧ AllR Rs B us ∧ AllR Ss B ws
  | [], _, vs, h => ⟨[], vs, rfl, rfl, h⟩
  | R :: Rs, Ss, _, ⟨v, r, e, h, t⟩ => by
    obtain ⟨us, ws, e2, h1, h2⟩ := all_split t
    exact ⟨v :: us, ws, by rw [e, e2] <;> rfl, ⟨v, us, rfl, h, h1⟩, h2⟩
/-- __init__(self, .., *rest) -/
theorem ini_star {qual pv : Str} {st : Stmt} {ps : List Str} {k : Nat} (D : DfI K C qual st) (S : FnScope N (ps ++ [pv]) (defScope st))
    (hb : ∀ (kV doc pm : Value) (an : Option Addr) (cdv ct : Value) (us rest : List Value), us.length = ps.length → bindArgs (PySem.W.fnOf "__init__" qual (defArgs st) (defBody st) (defScope st) .none kV doc pm an cdv ct) ⟨us ++ rest, []⟩ = (newTuple rest >>= fun t => pure (ps.zip us ++ [(pv, t)])))
    (hl : ∀ m i, (Ra m i).length + 1 = ps.length) (hN : ps.length + 1 ≤ N.length) (hz : ∀ m i, pre i → (Rb m i).length ≤ sizeLine)
    (hbody : ∀ (f : Addr) (cdv : Value) (A : Around) (outer : List Env) (s : Shared) (H : Hp) (E : XK), Room k (A.deeper (envOfC qual (defScope st) s.heap.objs.size f cdv)) →
      ∃ t, PSs (cxOf CX0 P w K mg base N qual (defScope st) f cdv A outer s H E).nox (defBody st) t ∧
        ∀ (m : Mt) (B0 H0 : Hp) (i : ι) (x : Addr) (Q : VK) (hp : Pre m B0 H0), pre i → Rt (iIns (I0 m B0 H0 hp) x C ns (res m i)) Q dN → StG m t (gam N (rV (.ref x) :: (Ra m i ++ [rT K (Rb m i)]))) (iIns (I0 m B0 H0 hp) x C [] []) { nx := fun _ H' => Q .non H', rt := Q }) : Ini P w K mg base (k + 1) C (spI (fun m i => Ra m i ++ Rb m i) pre C ns res) := by
  obtain ⟨f, fd, M, F⟩ := D.ex
  obtain ⟨oc, od, kV, doc, pm, an, cdv, ct, osl, rfl, lk, hcd⟩ := F.ex
  have G := StX.fn_star (P := P) (w := w) (mg := mg) (base := base) (k := k) (sp := spI (fun m i => Ra m i ++ [rT K (Rb m i)]) pre C ns res) lk hcd S StX.cxUp_none (hb kV doc pm an cdv ct) (fun A outer s H vs Q E hr h => by
    obtain ⟨t, h1, h2⟩ := hbody f cdv A outer s H E hr
    exact ⟨t, h1.nox, ini_run (fun m i => by have := hl m i; rw [List.length_append]; show (Ra m i).length + 1 + 1 ≤ _; omega) h2 h⟩)
  refine ⟨f, M, G.imp fun vs H Q E h => ?_⟩
  obtain ⟨m, B0, H0, B, i, x, dx, us, rfl, hp, s, hx, bx, hH, hpre, ha, q⟩ := h
  obtain ⟨u1, u2, rfl, h1, h2⟩ := all_split ha
  refine ⟨.ref x :: u1, u2, rfl, by rw [List.length_cons, h1.len]; exact hl m i, by rw [h2.len]; exact hz m i hpre, fun p np => ?_⟩
  have hp1 := hp.step s
  have s2 : Step m B H (upd B p (.tup u2)) (upd H p (.tup u2)) := hp1.new np
  have ne : x ≠ p := fun e => by rw [← e, hH] at np; cases np
  refine ⟨m, B0, H0, upd B p (.tup u2), i, x, dx, u1 ++ [.ref p], rfl, hp, Step.trans hp s s2, hx, by rw [upd_ne ne]; exact bx, by rw [upd_ne ne]; exact hH, hpre, (h1.mono s2.sub).app ⟨.ref p, [], rfl, ⟨p, u2, rfl, SqT.of upd_same, h2.mono s2.sub⟩, rfl⟩, fun B' H' s3 r3 => q B' H' s3 r3⟩
abbrev na (z : Ns) : List Rp := [dS (loopText z.over), dS (loopText z.below)]
abbrev nd (z : Ns) : List Rp := z.deeds.map fun d => dS (deedText d)
abbrev sp_Nest___init (K : PySem.W.Frag) : Sp := spI (fun _ z => na z ++ nd z) NsOk (He.ga K "Nest") nn (fun _ z => nRs K z)
theorem c_Nest___init (T : Ty w K mg) (c_is_loop : Cal P w K mg base 2 "is_loop" sp_is_loop) (c_parsed_deed : Cal P w K mg base 3 "parsed_deed" (sp_parsed_deed (K := K))) (D : DfI K (He.ga K "Nest") "Nest.__init__" s_Nest___init) : Ini P w K mg base 4 (He.ga K "Nest") (sp_Nest___init K) := by
  refine ini_star (Ra := fun _ z => na z) (Rb := fun _ z => nd z) (pre := NsOk) (res := fun _ z => nRs K z) (ps := ["self", "outer", "inner"]) (pv := "deeds") (k := 3) D sc_Nest___init (fun _ _ _ _ _ _ us rest hl => match us, rest, hl with | [_, _, _], [], _ => rfl | [_, _, _], _ :: _, _ => rfl) (fun _ _ => rfl) (by decide) (fun _ z hz => by
    rw [List.length_map]
    exact Nat.le_trans hz.2.2.2.2 (by decide)) (fun f cdv A outer s H E hr => ⟨_, (pss_cons (ps_if (pt_not (pt_val (pe_cal c_is_loop hr (by decide) (by rfl) (pa_cons (pv 1) (pa_cons pe_bl pa_nil)))))
  (pss_cons ps_never
  pss_nil)
  pss_nil)
  (pss_cons (ps_if (pt_not (pt_val (pe_cal c_is_loop hr (by decide) (by rfl) (pa_cons (pv 2) (pa_cons pe_bl pa_nil)))))
  (pss_cons ps_never
  pss_nil)
  pss_nil)
  (pss_cons (ps_set (i := 4) sc_Nest___init.nd rfl (.inl rfl) (pe_lst pa_nil))
  (pss_cons (ps_for PassesOwn.never rfl (pi_enumT (by rfl) T.b_enumerate (pa_cons (pv 3) pa_nil)) (pg_unK (K := K) rfl rfl rfl rfl (pgs_cons (pg_nameX (i := 5) sc_Nest___init.nd rfl (.inl rfl) (.inr rfl)) (pgs_cons (pg_nameX (i := 6) sc_Nest___init.nd rfl (.inl rfl) (.inr rfl)) pgs_nil)))
  (pss_cons (ps_set (i := 7) sc_Nest___init.nd rfl (.inl rfl) (pe_cal c_parsed_deed hr (by decide) (by rfl) (pa_cons (pv 6) pa_nil)))
  (pss_cons (ps_if (PW.pt (pw_or (pt_cmpR op_isN (pv 7) pe_non (nomark _)) (pw_or1 (pt_cmpR op_ge (pv 5) (C8.pe_gc (by rfl) T.g_MOST_DEEDS) (nomark _)))))
  (pss_cons ps_never
  pss_nil)
  pss_nil)
  (pss_cons (ps_expr (pe_bm PySem.F.plainAttrs_list PySem.F.slot_list_append PySem.F.type_list_append mt_append (pv 4) (pa_cons (pv 7) pa_nil)))
  pss_nil))))
  (pss_cons (ps_fld (pv 0) (pv 1) rfl)
  (pss_cons (ps_fld (pv 0) (pv 2) rfl)
  (pss_cons (ps_fld (pv 0) (pv 3) rfl)
  (pss_cons (ps_fld (pv 0) (pv 4) rfl)
  pss_nil)))))))) , fun m B0 H0 z x Q hp ha q => ?_⟩)
  obtain ⟨h1, h2, h3, h4, h5⟩ := ha
  have fa := T.f_Nest
  refine st_if (eb_notE (eb_B (ev_call (z.over, false) h1 (ea2 (vr 1) kB)))) (fun h => nomatch h) (fun _ => st_nxt ?_)
  refine st_if (eb_notE (eb_B (ev_call (z.below, true) h2 (ea2 (vr 2) kB)))) (fun h => nomatch h) (fun _ => st_nxt ?_)
  refine st_newL fun a => ?_
  refine st_for (n := (nd z).length) (Ys := fun i => ((nd z)[i]?).map fun R => rT K [dI (i : Int), R]) (fun _ => [some (rV (.ref x)), some (dS (loopText z.over)), some (dS (loopText z.below)), some (rT K (nd z)), some (rV (.ref a)), none, none, none]) (fun J k => iLst J a ((z.deeds.take k).map (rDeed K))) fam_lst (ei_enT (vr 3)) (.same (.same (.same (.same (.same (.skip (.skip (.skip .nil)))))))) (fun J k R hJ hk hR => ?_) ?_
  · rw [List.length_map] at hk
    have ek := List.getElem?_eq_getElem hk
    rw [List.getElem?_map, ek] at hR
    obtain rfl : rT K [dI (k : Int), dS (deedText z.deeds[k])] = R := Option.some.inj hR
    refine ⟨_, _, tg_unT tgs2, ?_⟩
    refine st_set (ev_call z.deeds[k] (h3 _ (List.getElem_mem hk)) (ea1 (vr 6))) ?_
    refine st_if (eb_to (eb_orE (b := false) (c := false) (eb_test (ev_isN (b := false) (R := rDeed K z.deeds[k]) (vr 7) fun B v ⟨a, dx, vs, e, _⟩ => by rw [e] <;> rfl)) (fun _ => eb_test ((ev_ge (vr 5) (ev_c : EvG _ _ _ (dI 6))).to (congrArg dB (decide_eq_false (by omega)))))) rfl) (fun h => nomatch h) (fun _ => st_nxt ?_)
    refine st_app (vr 4) (vr 7) (by rw [List.length_map, List.length_take]; exact Nat.lt_of_le_of_lt (Nat.le_trans (Nat.min_le_right _ _) h5) (by decide)) (st_nxt (st_to (.same (.same (.same (.same (.same (.skip (.skip (.skip .nil)))))))) fun B H hi => ?_))
    rw [List.take_add_one, ek, List.map_append]
    exact hi
  · refine st_frz 4 rfl ?_
    refine st_fld (vr 1) rfl fa.cl (fa.na _ (by decide)) (by decide) rfl (by simp) ?_
    refine st_fld (vr 2) rfl fa.cl (fa.na _ (by decide)) (by decide) rfl (by simp) ?_
    refine st_fld (vr 3) rfl fa.cl (fa.na _ (by decide)) (by decide) rfl (by simp) ?_
    refine st_fld (vr 4) rfl fa.cl (fa.na _ (by decide)) (by decide) rfl (by simp) (st_end (q.of (imp_ins ?_)))
    exact .cons (Le.refl _) (.cons (Le.refl _) (.cons (Le.refl _) (.cons (le_eq (by rw [List.length_map, List.take_of_length_le (Nat.le_refl _)])) .nil)))
abbrev sp_Program___init (K : PySem.W.Frag) : Sp := spI (fun _ p => p.map (rNest K)) (fun p : List Ns => p.length ≤ 4) (He.ga K "Program") pn (fun _ p => [rT K (p.map (rNest K))])
theorem c_Program___init (T : Ty w K mg) (D : DfI K (He.ga K "Program") "Program.__init__" s_Program___init) : Ini P w K mg base 1 (He.ga K "Program") (sp_Program___init K) := by
  refine ini_star (Ra := fun _ _ => []) (Rb := fun _ (p : List Ns) => p.map (rNest K)) (pre := fun p : List Ns => p.length ≤ 4) (res := fun _ p => [rT K (p.map (rNest K))]) (ps := ["self"]) (pv := "nests") (k := 0) D sc_Program___init (fun _ _ _ _ _ _ us rest hl => match us, rest, hl with | [_], [], _ => rfl | [_], _ :: _, _ => rfl) (fun _ _ => rfl) (by decide) (fun _ z hz => by
    rw [List.length_map]
    exact Nat.le_trans hz (by decide)) (fun f cdv A outer s H E hr => ⟨_, (pss_cons (ps_for PassesOwn.never rfl (pi_enumT (by rfl) T.b_enumerate (pa_cons (pv 1) pa_nil)) (pg_unK (K := K) rfl rfl rfl rfl (pgs_cons (pg_nameX (i := 2) sc_Program___init.nd rfl (.inl rfl) (.inr rfl)) (pgs_cons (pg_nameX (i := 3) sc_Program___init.nd rfl (.inl rfl) (.inr rfl)) pgs_nil)))
  (pss_cons (ps_if (PW.pt (pw_or (pt_not (pt_val (pe_callB call_isi (by rfl) T.b_isinstance (by decide +kernel) (pa_cons (pv 3) (pa_cons (C8.pe_gc (by rfl) T.g_Nest) pa_nil))))) (pw_or1 (pt_cmpR op_ge (pv 2) (C8.pe_gc (by rfl) T.g_MOST_NESTS) (nomark _)))))
  (pss_cons ps_never
  pss_nil)
  pss_nil)
  pss_nil))
  (pss_cons (ps_fld (pv 0) (pv 1) rfl)
  pss_nil)) , fun m B0 H0 p x Q hp ha q => ?_⟩)
  have h4 : p.length ≤ 4 := ha
  have fa := T.f_Program
  refine st_for (n := (p.map (rNest K)).length) (Ys := fun i => ((p.map (rNest K))[i]?).map fun R => rT K [dI (i : Int), R]) (fun _ => [some (rV (.ref x)), some (rT K (p.map (rNest K))), none, none]) (fun J _ => J) fam_id (ei_enT (vr 1)) (.same (.same (.skip (.skip .nil)))) (fun J k R hJ hk hR => ?_) ?_
  · rw [List.length_map] at hk
    have ek := List.getElem?_eq_getElem hk
    rw [List.getElem?_map, ek] at hR
    obtain rfl : rT K [dI (k : Int), rNest K p[k]] = R := Option.some.inj hR
    refine ⟨_, _, tg_unT tgs2, ?_⟩
    refine st_if (eb_to (eb_orE (b := false) (c := false) (eb_notE (eb_B (ev_isIns T.i_Nest (vr 3)))) (fun _ => eb_test ((ev_ge (vr 2) (ev_c : EvG _ _ _ (dI 4))).to (congrArg dB (decide_eq_false (by omega)))))) rfl) (fun h => nomatch h) (fun _ => st_nxt ?_)
    exact st_nxt (st_to (.same (.same (.skip (.skip .nil)))) fun B H h => h)
  · exact st_fld (vr 1) rfl fa.cl (fa.na _ (by decide)) (by decide) rfl (by simp) (st_end q)
end
end Sq
/-! Sq, part F17: a nest's rows are read. -/
namespace Sq
open PySem PySem.Spec PyProof.Rows L2
def nestRows (z : Ns) : List Str := ("i from " ++ loopText z.over) :: ("j from " ++ loopText z.below) :: z.deeds.map deedText
theorem app_S (x y : Str) : x ++ y = SX.S (x.cps.toList ++ y.cps.toList) := TL.ext_tl (by rw [show TL.tl (x ++ y) = _ from app_codes x y])
theorem cut_app (p y : Str) : cutS (p ++ y) (some (p.length : Int)) none = y := by
  rw [C8.cutS_slice, app_S, SX.from_app _ _ (by rfl)]
section
variable {m : Mt} {Γ Δ : Gm} {I J : Iv m} {D : Ends} {u tb : TS} {te ta tc td : TE} {R S : Rp} {K : PySem.W.Frag} {i j l : Nat}
theorem st_par3 {Ra Rb Rc : Rp} {ta : TA} (h : EvA m ta Γ [Ra, Rb, Rc]) (k : StG m u (((Γ.set i (some Ra)).set j (some Rb)).set l (some Rc)) I D) : StG m (tSeq (tPar3 i j l ta) u) Γ I D := fun σ B H hs hi =>
  h σ B H hs (I.pre hi) _ fun vs B' H' s r => by
    obtain ⟨v, r1, rfl, hv, w, r2, rfl, hw, x, r3, rfl, hx, rfl⟩ := r
    exact ⟨v, w, x, rfl, k _ B' H' ((((hs.mono s.sub).set hv).set hw).set hx) (I.step hi s)⟩
theorem ea_starN {Rs : List Rp} (ha : EvG m te Γ (rL Rs)) : EvA m (StX.tStar K te tNil) Γ Rs := by
  have h := ea_starL (K := K) ha (ea_nil (m := m) (Γ := Γ))
  rw [List.append_nil] at h
  exact h
theorem ev_cut {p y : Str} (ha : EvG m ta Γ (dS (p ++ y))) (hb : EvG m tc Γ (dI (p.length : Int))) (hz : (p ++ y).length ≤ sizeLine) : EvG m (tSl (rSlQ K) ta (tPart tc) tNoPart) Γ (dS y) :=
  (ev_sliceS ha (ep_some hb) ep_no hz).to (by rw [cut_app])
end
section
variable {P : Program} {w : World} {K : PySem.W.Frag} {mg : Str → Option Value} {base : Heap} {m : Mt} {Γ : Gm} {ta tb te : TE}
theorem nest_len {z : Ns} (h : NsOk z) : ∀ p ∈ nestRows z, p.length ≤ 78 := fun p hp => by
  obtain ⟨h1, h2, h3, h4, h5⟩ := h
  rcases List.mem_cons.mp hp with e | hp
  · have := loop_len h1.1 h1.2.1
    rw [e, app_len]
    show 7 + _ ≤ _
    omega
  · rcases List.mem_cons.mp hp with e | hp
    · have := loop_len h2.1 h2.2.1
      rw [e, app_len]
      show 7 + _ ≤ _
      omega
    · obtain ⟨d, hd, rfl⟩ := List.mem_map.mp hp
      exact deed_len (h3 d hd)
abbrev a_read_nest : Mt → Ns → List Rp := fun _ z => [rL ((nestRows z).map dS)]
abbrev sp_read_nest : Sp := spF a_read_nest NsOk (fun _ z => rNest K z)
theorem c_read_nest (T : Ty w K mg) (c_Nest___init : Ini P w K mg base 4 (He.ga K "Nest") (sp_Nest___init K)) (D : Df K mg "read_nest" "read_nest" s_read_nest) : Cal P w K mg base 6 "read_nest" (sp_read_nest (K := K)) := by
  refine cal_of D sc_read_nest (fun _ _ _ _ _ _ us hl => match us, hl with | [_], _ => rfl) (fun _ _ => rfl) (by decide) (fun f cdv A outer s H E hr => ⟨_, (pss_cons (ps_if (PW.pt (pw_or (pt_cmpR op_lt (pe_callB (call_lenK (K := K) rfl) (by rfl) T.b_len (by decide +kernel) (pa_cons (pv 0) pa_nil)) pe_int (nomark _)) (pw_or1 (pt_not (pt_val (pe_m1 PySem.F.slot_str_startswith PySem.F.type_str_startswith mt_startswith (pe_ix (ix_seqK (K := K) rfl) (pv 0) pe_int (fun _ _ => rfl)) (C8.pe_gc (by rfl) T.g_INNER_HEAD)))))))
  (pss_cons (ps_ret pe_non)
  pss_nil)
  pss_nil)
  (pss_cons (ps_par3 (i := 1) (j := 2) (l := 3) rfl sc_read_nest.nd rfl rfl rfl (by decide) (by decide) (by decide) rfl rfl rfl (pa_cons (pe_slice (sl_seqK (K := K) rfl) (pe_ix (ix_seqK (K := K) rfl) (pv 0) pe_int (fun _ _ => rfl)) (po_some (pe_callB (call_lenK (K := K) rfl) (by rfl) T.b_len (by decide +kernel) (pa_cons (C8.pe_gc (by rfl) T.g_OUTER_HEAD) pa_nil))) po_none) (pa_cons (pe_slice (sl_seqK (K := K) rfl) (pe_ix (ix_seqK (K := K) rfl) (pv 0) pe_int (fun _ _ => rfl)) (po_some (pe_callB (call_lenK (K := K) rfl) (by rfl) T.b_len (by decide +kernel) (pa_cons (C8.pe_gc (by rfl) T.g_INNER_HEAD) pa_nil))) po_none) (pa_cons (pe_slice (sl_seqK (K := K) rfl) (pv 0) (po_some pe_int) po_none) pa_nil))) (by rfl))
  (pss_cons (ps_try_thru0 (pss_cons (ps_ret (pe_newS c_Nest___init hr (by decide) T.m_Nest (by rfl) (pa_cons (pv 1) (pa_cons (pv 2) (StX.pa_star (pv 3) pa_nil)))))
  pss_nil))
  pss_nil))), fun m B0 H0 z Q hp ha q => ?_⟩)
  have hz : NsOk z := ha
  have hl := nest_len hz
  have k1 : ("i from " ++ loopText z.over).length ≤ sizeLine := Nat.le_trans (hl _ List.mem_cons_self) (by decide)
  have k2 : ("j from " ++ loopText z.below).length ≤ sizeLine := Nat.le_trans (hl _ (List.mem_cons_of_mem _ List.mem_cons_self)) (by decide)
  refine st_if (eb_to (eb_orE (b := false) (c := false) (eb_test ((ev_lt (ev_lenL (vr 0)) kI).to (congrArg dB (decide_eq_false (by show ¬ (((nestRows z).map dS).length : Int) < 2; rw [List.length_map]; unfold nestRows; simp only [List.length_cons]; omega))))) (fun _ => eb_notE (eb_B (b := true) ((ev_starts (ev_ixL (vr 0) kI (atN (n := 1) rfl)) (ev_c : EvG _ _ _ (dS "j from "))).to (congrArg dB (PySem.W.KT.starts_app _ _)))))) rfl) (fun h => nomatch h) (fun _ => st_nxt ?_)
  refine st_par3 (Ra := dS (loopText z.over)) (Rb := dS (loopText z.below)) (Rc := rL (nd z)) (ea_cons (ev_cut (p := "i from ") (ev_ixL (vr 0) kI (atN (n := 0) rfl)) ((ev_lenS (ev_c : EvG _ _ _ (dS "i from ")) (by decide)).to rfl) k1) (ea2 (ev_cut (p := "j from ") (ev_ixL (vr 0) kI (atN (n := 1) rfl)) ((ev_lenS (ev_c : EvG _ _ _ (dS "j from ")) (by decide)).to rfl) k2) ((ev_past (k := 2) (vr 0) kI).to (by unfold nestRows nd; rw [List.map_cons, List.map_cons, List.map_map] <;> rfl)))) ?_
  exact st_ret (ev_new z hz (ea_cons (vr 1) (ea_cons (vr 2) (ea_starN (vr 3))))) q
end
end Sq
/-! Sq, part F18: a list of lists, of which the last still grows. -/
namespace Sq
open PySem PySem.Spec PyProof.Rows L2
section
variable {m : Mt} {Γ Δ : Gm} {I J : Iv m} {D : Ends} {t1 t2 u tb : TS} {te ta tc td : TE} {tt : TT} {R S : Rp} {Rs Ls Ss : List Rp} {K : PySem.W.Frag} {i j l : Nat} {a b : Addr} {g : TG} {wi : TI}
/-- a is one's own list, that J keeps -/
def OwL (J : Iv m) (a : Addr) (Ss : List Rp) : Prop := ∀ B H, J.p B H → ∃ xs, H a = some (.lst xs) ∧ B a = none ∧ ¬ m.dom a ∧ AllR Ss B xs
theorem own_thaw {B H : Hp} {xs : List V} (hpre : Pre m B H) (g3 : B a = none) (hm : ¬ m.dom a) (g4 : H a = some (.lst xs)) :
    Sub B (upd B a (.lst xs)) ∧ Pre m (upd B a (.lst xs)) H ∧ ∀ B1 H1, Step m (upd B a (.lst xs)) H B1 H1 → Step m B H (fun b => if b = a then none else B1 b) H1 := by
  have sb : Sub B (upd B a (.lst xs)) := fun b u q => by
    have ne : b ≠ a := fun z => by rw [z, g3] at q; cases q
    rw [upd_ne ne]
    exact q
  refine ⟨sb, ⟨fun b u q => ?_, hpre.po, fun b hb => ?_⟩, fun B1 H1 s1 => ⟨s1.keep, s1.po, fun b o e => ?_, fun b o e => ?_, fun b o e => ?_⟩⟩
  · by_cases z : b = a
    · subst z; rw [upd_same] at q; rw [g4]; exact q
    · rw [upd_ne z] at q; exact hpre.sub b u q
  · have ne : b ≠ a := fun z => hm (z ▸ hb)
    rw [upd_ne ne]
    exact hpre.out b hb
  · have ne : b ≠ a := fun z => by rw [z, g3] at e; cases e
    show (if b = a then none else B1 b) = some o
    rw [if_neg ne]
    exact s1.sub b o (sb b o e)
  · have e' : (if b = a then none else B1 b) = some o := e
    by_cases z : b = a
    · rw [if_pos z] at e'; cases e'
    · rw [if_neg z] at e'; exact s1.sub' b o e'
  · have e' : (if b = a then none else B1 b) = some o := e
    by_cases z : b = a
    · rw [if_pos z] at e'; cases e'
    · rw [if_neg z] at e'
      rcases s1.new b o e' with q | q
      · rw [upd_ne z] at q; exact .inl q
      · exact .inr q
theorem sl_thaw {σ : L2.St} {B : Hp} {xs : List V} (hs : Sl Γ σ B) (hj : Γ[j]? = some (some (rV (.ref a)))) (sb : Sub B (upd B a (.lst xs))) (r : AllR Ss B xs) : Sl (Γ.set j (some (rL Ss))) σ (upd B a (.lst xs)) := by
  obtain ⟨v, hv, rv⟩ := hs.2 j _ hj
  obtain rfl : v = .ref a := rv
  have q := (hs.mono sb).set (i := j) (R := rL Ss) (v := .ref a) ⟨a, xs, rfl, upd_same, r.mono sb⟩
  have hlj : j < σ.length := (List.getElem?_eq_some_iff.mp hv).1
  have e2 : σ.set j (some (.ref a)) = σ := by
    refine List.ext_getElem? fun k => ?_
    by_cases z : j = k
    · subst z; rw [List.getElem?_set_self hlj, hv]
    · rw [List.getElem?_set_ne z]
  rw [e2] at q
  exact q
theorem st_ifO {P : Bool → Prop} (ho : OwL J a Ss) (hj : Γ[j]? = some (some (rV (.ref a)))) (hc : EvB m tt (Γ.set j (some (rL Ss))) P) (h1 : P true → StG m t1 Γ J { D with nx := u D }) (h2 : P false → StG m t2 Γ J { D with nx := u D }) : StG m (tSeq (tIfS tt t1 t2) u) Γ J D := fun σ B H hs hi => by
  obtain ⟨xs, g4, g3, hm, r⟩ := ho B H hi
  obtain ⟨sb, p2, th⟩ := own_thaw (J.pre hi) g3 hm g4
  refine hc σ _ H (sl_thaw hs hj sb r) p2 _ fun c B' H' s p => ?_
  have s2 := th B' H' s
  cases c with
  | true => exact h1 p σ _ H' (hs.mono s2.sub) (J.step hi s2)
  | false => exact h2 p σ _ H' (hs.mono s2.sub) (J.step hi s2)
/-- a's last is b, that still grows -/
def iLL (I : Iv m) (a b : Addr) (Rs Ls : List Rp) : Iv m := iLst (iLst I b Ls) a (Rs ++ [rV (.ref b)])
theorem own_lst : OwL (iLst I a Rs) a Rs := fun B H ⟨g1, g2, g3, o, g4, xs, e, g5⟩ => ⟨xs, by rw [g4, e], g3, I.nm g2, g5⟩
theorem st_frzIn (h : StG m u Γ (iLst I a (Rs ++ [rL Ls])) D) : StG m u Γ (iLL I a b Rs Ls) D := fun σ B H hs ⟨⟨i1, fb, Bb, o2, Hb, ys, e2, r2⟩, fa, Ba, o, Ha, xs, e, r⟩ => by
  subst e2 e
  have sb : Sub B (upd B b (.lst ys)) := fun c v q => by
    have ne : c ≠ b := fun z => by rw [z, Bb] at q; cases q
    rw [upd_ne ne]
    exact q
  obtain ⟨us, ws, rfl, r3, v, ws', rfl, hv, rfl⟩ := all_split r
  obtain rfl : v = .ref b := hv
  exact h σ _ H (hs.mono sb) ⟨I.frz i1 fb Hb, fa.1, by rw [upd_ne fa.2]; exact Ba, _, Ha, _, rfl, (r3.mono sb).app ⟨_, [], rfl, ⟨b, ys, rfl, upd_same, r2.mono sb⟩, rfl⟩⟩
theorem st_appNew (hj : Γ[j]? = some (some (rV (.ref a)))) (hz : Rs.length < sizeLine) (h : ∀ b, StG m u Γ (iLL I a b Rs []) D) : StG m (tSeq (tDrop (tBM K "list" rAppend (tVar j) (tCons (tLst tNil) tNil))) u) Γ (iLst I a Rs) D := fun σ B H hs hi => by
  obtain ⟨v, hv, rv⟩ := hs.2 j _ hj
  obtain rfl : v = .ref a := rv
  obtain ⟨g1, g2, g3, o, g4, xs, e, g5⟩ := id hi
  subst e
  refine ⟨.ref a, hv, .inl ⟨rfl, xs, SqL.of g4⟩, Nat.zero_le _, fun p np => ?_⟩
  have ne : a ≠ p := fun z => by rw [← z, g4] at np; cases np
  have hb : B p = none := by
    cases e : B p with
    | none => rfl
    | some o => rw [((iLst I a Rs).pre hi).sub p o e] at np; cases np
  have s : Step m B H B (upd H p (.lst [])) := ((I.pre g1).new np).less (Sub.refl _) ((I.pre g1).new np).sub
  refine ⟨a, xs, .ref p, rfl, rfl, by rw [upd_ne ne]; exact g4, by rw [g5.len]; exact hz, ?_⟩
  have i2 : (iLst I p []).p B (upd H p (.lst [])) := ⟨I.step g1 s, I.news g1 np, hb, _, upd_same, [], rfl, rfl⟩
  exact h p σ B _ hs ⟨(iLst I p []).chg i2 ⟨g2, ne⟩ g3 (by rw [upd_ne ne]; exact g4), ⟨g2, ne⟩, g3, _, upd_same, _, rfl, g5.app ⟨_, [], rfl, rfl, rfl⟩⟩
theorem st_appLast (hj : Γ[j]? = some (some (rV (.ref a)))) (hl : EvG m ta (Γ.set j (some (rL (Rs ++ [rV (.ref b)])))) (rV (.ref b))) (he : EvG m te Γ R) (hz : Ls.length < sizeLine) (h : StG m u Γ (iLL I a b Rs (Ls ++ [R])) D) :
    StG m (tSeq (tDrop (tBM K "list" rAppend ta (tCons te tNil))) u) Γ (iLL I a b Rs Ls) D := fun σ B H hs hi => by
  obtain ⟨xs, g4, g3, hm, r⟩ := own_lst B H hi
  obtain ⟨sb, p2, th⟩ := own_thaw ((iLL I a b Rs Ls).pre hi) g3 hm g4
  refine hl σ _ H (sl_thaw hs hj sb r) p2 _ fun v B1 H1 s1 rv => ?_
  obtain rfl : v = .ref b := rv
  have s2 := th B1 H1 s1
  have hi1 := (iLL I a b Rs Ls).step hi s2
  obtain ⟨⟨_, _, _, o1, h41, xs1, e1, _⟩, _⟩ := id hi1
  refine ⟨.inl ⟨rfl, xs1, SqL.of (by rw [h41, e1])⟩, ?_⟩
  refine he σ _ H1 (hs.mono s2.sub) ((iLL I a b Rs Ls).pre hi1) _ fun y B2 H2 s3 r2 => ?_
  obtain ⟨⟨i1, fb, Bb, o, Hb, ys, e, r5⟩, fa, Ba, oa, Ha, zs, ez, r6⟩ := (iLL I a b Rs Ls).step hi1 s3
  subst e ez
  refine ⟨b, ys, y, rfl, rfl, Hb, by rw [r5.len]; exact hz, ?_⟩
  exact h σ B2 _ (hs.mono (s2.sub.trans s3.sub)) ⟨⟨I.chg i1 fb Bb Hb, fb, Bb, _, upd_same, _, rfl, r5.app ⟨y, [], rfl, r2, rfl⟩⟩, fa, Ba, _, by rw [upd_ne fa.2]; exact Ha, _, rfl, r6⟩
/-- a loop whose word has a letter of its own -/
theorem st_forE {α β : Type} {xs : List α} {R0 : α → Rp} (Γ1 : Gm) (P : Nat → β → Prop) (Is : Iv m → Nat → β → Iv m) (fam : ∀ e, Fam (fun I k => Is I k e)) (e0 : β) (p0 : P 0 e0) (hw : EvI m wi Γ (xs.map R0).length (fun i => (xs.map R0)[i]?)) (h0 : LeG Γ Γ1)
    (hb : ∀ (J : Iv m) k x e, Imp J I → xs[k]? = some x → P k e → ∃ Δ js, TgG m g Γ1 (R0 x) Δ js ∧ StG m tb Δ (Is J k e) { D with nx := fun σ H => ∃ e', P (k + 1) e' ∧ nxOf Γ1 (Is J (k + 1) e') σ H, ct := fun σ H => ∃ e', P (k + 1) e' ∧ nxOf Γ1 (Is J (k + 1) e') σ H, bk := u D })
    (hd : ∀ e, P xs.length e → StG m u Γ1 (Is I xs.length e) D) : StG m (tSeq (tFor wi g tb) u) Γ (Is I 0 e0) D := fun σ B H hs hi => by
  have hn : (xs.map R0).length = xs.length := List.length_map ..
  rw [hn] at hw
  refine hw σ B H hs ((Is I 0 e0).pre hi) _ fun J B1 H1 s1 src => ?_
  have i1 := (Is I 0 e0).step hi s1
  refine ⟨fun k c σ H => c = xs.length - k ∧ k ≤ xs.length ∧ ∃ e, P k e ∧ nxOf Γ1 (Is (iSub I B1) k e) σ H, ⟨xs.length, rfl, Nat.zero_le _, e0, p0, B1, (hs.mono s1.sub).le h0, (fam e0).to (k := 0) i1 (Sub.refl _)⟩, ?_⟩
  rintro k c σ2 H2 ⟨rfl, hk, e, pe, B2, hs2, hi2⟩
  obtain ⟨hi3, sb⟩ := (fam e).back (k := k) hi2
  obtain ⟨go, stop⟩ := src B2 H2 sb ((Is I k e).pre hi3)
  by_cases hlt : k < xs.length
  · refine .inr ⟨(go k hlt).1, fun σ' H' => ∃ e', P (k + 1) e' ∧ nxOf Γ1 (Is (iSub I B1) (k + 1) e') σ' H', fun σ' H' h' => ⟨xs.length - (k + 1), by omega, rfl, hlt, h'⟩, fun x H' y => ?_⟩
    obtain ⟨B', R, sy, hR, rx⟩ := (go k hlt).2 x H' y
    have ek := List.getElem?_eq_getElem hlt
    have hR2 : (List.map R0 xs)[k]? = some R := hR
    rw [List.getElem?_map, ek] at hR2
    obtain rfl : R0 xs[k] = R := Option.some.inj hR2
    obtain ⟨Δ, js, hg, hB⟩ := hb (iSub I B1) k xs[k] e Imp.sub ek pe
    have hi4 := (Is (iSub I B1) k e).step hi2 sy
    refine hg σ2 B' H' x (hs2.mono sy.sub) ((Is (iSub I B1) k e).pre hi4) rx _ fun σ3 hs3 _ => ?_
    exact hB σ3 B' H' hs3 hi4
  · have ek : k = xs.length := by omega
    subst ek
    exact .inl ⟨stop, hd e pe σ2 B2 H2 hs2 hi3⟩
end
end Sq
/-! Sq, part F19: a program's text is read. -/
namespace Sq
open PySem PySem.Spec PyProof.Rows L2
def stI (r : Str) : Bool := Txt.startswith r "i from "
def grpS (gs : List (List Str)) (r : Str) : List (List Str) := if stI r = true then gs ++ [[r]] else gs.dropLast ++ [gs.getLast?.getD [] ++ [r]]
theorem grp_in (hs : List (List Str)) : ∀ (rs : List Str) (l : List Str), (∀ r ∈ rs, stI r = false) → rs.foldl grpS (hs ++ [l]) = hs ++ [l ++ rs]
  | [], l, _ => by rw [List.append_nil] <;> rfl
  | r :: rs, l, h => by
    rw [List.foldl_cons]
    have e : grpS (hs ++ [l]) r = hs ++ [l ++ [r]] := by
      unfold grpS
      rw [if_neg (by rw [h r List.mem_cons_self]; decide), List.dropLast_concat, List.getLast?_concat] <;> rfl
    rw [e, grp_in hs rs (l ++ [r]) fun x hx => h x (List.mem_cons_of_mem _ hx), List.append_assoc] <;> rfl
theorem st_i (y : Str) : stI ("i from " ++ y) = true := PySem.W.KT.starts_app _ _
theorem st_j (y : Str) : stI ("j from " ++ y) = false := by
  unfold stI
  rw [PySem.W.KAf.starts_left (by decide +kernel)]
  decide +kernel
theorem st_d {d : Dd} (h : DdOk d) : stI (deedText d) = false := by
  obtain ⟨h1, h2⟩ := sp_len h
  have hk := h.2.2.2.1
  have hw := h.1
  obtain ⟨y, e⟩ : ∃ y : Str, deedText d = (wordText d.wd ++ " " ++ spotText (d.sp.headD 0)) ++ y := by
    cases hs : d.sp with
    | nil => rw [hs] at h2; simp at h2
    | cons k ks =>
      obtain ⟨q, hq⟩ : ∃ q, deedWords d = wordText d.wd :: spotText k :: q := by
        unfold deedWords deedHead
        rw [hs]
        exact ⟨_, rfl⟩
      unfold deedText
      rw [hq, TL.join_eq]
      show ∃ y, _ = wordText d.wd ++ " " ++ spotText k ++ y
      cases q with
      | nil => exact ⟨"", by
        refine TL.ext_tl ?_
        rw [TL.tl_join]
        show _ = (wordText d.wd ++ " " ++ spotText k ++ "").cps.toList
        rw [app_codes, app_codes, app_codes, show ("" : Str).cps.toList = [] by decide +kernel, List.append_nil, List.append_assoc] <;> rfl⟩
      | cons a as => exact ⟨" " ++ Str.join " " (a :: as), by
        refine TL.ext_tl ?_
        rw [TL.tl_join]
        show _ = (wordText d.wd ++ " " ++ spotText k ++ (" " ++ Str.join " " (a :: as))).cps.toList
        rw [app_codes, app_codes, app_codes, app_codes, show (Str.join " " (a :: as)).cps.toList = _ from TL.tl_join _ _, List.append_assoc, List.append_assoc] <;> rfl⟩
  have h' : ∀ a, a < 4 → ∀ k, k < 8 → ("i from " : Str).length ≤ (wordText a ++ " " ++ spotText k).length ∧ Txt.startswith (wordText a ++ " " ++ spotText k) "i from " = false := by decide +kernel
  have hh : d.sp.headD 0 < 8 := by
    cases hs : d.sp with
    | nil => decide
    | cons k ks => exact hk k (by rw [hs]; exact List.mem_cons_self)
  obtain ⟨g1, g2⟩ := h' _ hw _ hh
  unfold stI
  rw [e, PySem.W.KAf.starts_left g1]
  exact g2
theorem grp_all : ∀ (p : List Ns) (gs : List (List Str)), (∀ z ∈ p, NsOk z) → (p.flatMap nestRows).foldl grpS gs = gs ++ p.map nestRows
  | [], gs, _ => by rw [List.map_nil, List.append_nil] <;> rfl
  | z :: p, gs, h => by
    rw [List.flatMap_cons, List.foldl_append]
    have hz := h z List.mem_cons_self
    have e : (nestRows z).foldl grpS gs = gs ++ [nestRows z] := by
      have e1 : grpS gs ("i from " ++ loopText z.over) = gs ++ [["i from " ++ loopText z.over]] := by
        unfold grpS
        rw [if_pos (st_i _)]
      unfold nestRows
      rw [List.foldl_cons, e1, grp_in]
      · rfl
      · intro r hr
        rcases List.mem_cons.mp hr with q | q
        · rw [q]; exact st_j _
        · obtain ⟨d, hd, rfl⟩ := List.mem_map.mp q
          exact st_d (hz.2.2.1 d hd)
    rw [e, grp_all p _ fun x hx => h x (List.mem_cons_of_mem _ hx), List.append_assoc] <;> rfl
theorem mem_joinL {c : Nat} {S : List Nat} : ∀ ps : List (List Nat), c ∈ TL.joinL S ps → c ∈ S ∨ ∃ p ∈ ps, c ∈ p
  | [], h => absurd h List.not_mem_nil
  | [p], h => .inr ⟨p, List.mem_cons_self, h⟩
  | p :: q :: r, h => by
    rcases List.mem_append.mp (show c ∈ p ++ (S ++ TL.joinL S (q :: r)) from h) with h | h
    · exact .inr ⟨p, List.mem_cons_self, h⟩
    · rcases List.mem_append.mp h with h | h
      · exact .inl h
      · rcases mem_joinL (q :: r) h with h | ⟨x, hx, h⟩
        · exact .inl h
        · exact .inr ⟨x, List.mem_cons_of_mem _ hx, h⟩
theorem deed10 {d : Dd} (h : DdOk d) : 10 ∉ (deedText d).cps.toList := fun hm => by
  unfold deedText at hm
  rw [TL.join_eq, show (Str.join " " (deedWords d)).cps.toList = _ from TL.tl_join _ _] at hm
  rcases mem_joinL _ hm with q | ⟨p, hp, q⟩
  · exact absurd q (by decide +kernel)
  · obtain ⟨x, hx, rfl⟩ := List.mem_map.mp hp
    exact (words_ok h x hx).2.2 q
theorem loop10 {l : Lp} (h1 : l.1 < 18) (h2 : l.2.1 < 18) : 10 ∉ (loopText l).cps.toList := fun hm => by
  have h' : ∀ a, a < 18 → 10 ∉ (endText a).cps.toList := by decide +kernel
  unfold loopText at hm
  rw [app_codes, app_codes, app_codes] at hm
  rcases List.mem_append.mp hm with hm | hm
  · rcases List.mem_append.mp hm with hm | hm
    · rcases List.mem_append.mp hm with hm | hm
      · exact h' _ h1 hm
      · exact absurd hm (by decide +kernel)
    · exact h' _ h2 hm
  · revert hm
    cases l.2.2 <;> decide +kernel
theorem nest10 {z : Ns} (h : NsOk z) : ∀ r ∈ nestRows z, 10 ∉ r.cps.toList := fun r hr hm => by
  obtain ⟨h1, h2, h3, _⟩ := h
  rcases List.mem_cons.mp hr with e | hr
  · rw [e, app_codes] at hm
    rcases List.mem_append.mp hm with q | q
    · exact absurd q (by decide +kernel)
    · exact loop10 h1.1 h1.2.1 q
  · rcases List.mem_cons.mp hr with e | hr
    · rw [e, app_codes] at hm
      rcases List.mem_append.mp hm with q | q
      · exact absurd q (by decide +kernel)
      · exact loop10 h2.1 h2.2.1 q
    · obtain ⟨d, hd, rfl⟩ := List.mem_map.mp hr
      exact deed10 (h3 d hd) hm
def progRows (p : List Ns) : List Str := p.flatMap nestRows
def progText (p : List Ns) : Str := Txt.join "\n" (progRows p)
theorem rows_len : ∀ p : List Ns, (∀ z ∈ p, NsOk z) → (progRows p).length ≤ 8 * p.length
  | [], _ => Nat.le_refl _
  | z :: p, h => by
    have ih := rows_len p fun x hx => h x (List.mem_cons_of_mem _ hx)
    have hz := (h z List.mem_cons_self).2.2.2.2
    unfold progRows at *
    rw [List.flatMap_cons, List.length_append, List.length_cons]
    have : (nestRows z).length = z.deeds.length + 2 := by unfold nestRows; simp
    omega
theorem prog_row {p : List Ns} (h : ∀ z ∈ p, NsOk z) {r : Str} (hr : r ∈ progRows p) : r.length ≤ 78 ∧ 10 ∉ r.cps.toList := by
  obtain ⟨z, hz, q⟩ := List.mem_flatMap.mp hr
  exact ⟨nest_len (h z hz) r q, nest10 (h z hz) r q⟩
theorem prog_len {p : List Ns} (h : PgOk p) : (progText p).length ≤ 32 * 79 := by
  have h1 := tjoin_len (y := "\n") (B := 78) fun r hr => (prog_row h.1 (r := r) hr).1
  have h2 := rows_len p h.1
  have h3 := h.2
  rw [show ("\n" : Str).length = 1 by decide +kernel] at h1
  unfold progText
  have : (progRows p).length * (78 + 1) ≤ 32 * 79 := Nat.mul_le_mul_right _ (by omega)
  omega
theorem prog_ne {p : List Ns} (hp : p ≠ []) : progRows p ≠ [] := by
  cases p with
  | nil => exact absurd rfl hp
  | cons z p => unfold progRows nestRows; rw [List.flatMap_cons]; exact List.cons_ne_nil _ _
theorem prog_split {p : List Ns} (h : PgOk p) (hp : p ≠ []) : Txt.split (progText p) "\n" = progRows p :=
  split_join (c := 10) (by decide +kernel) (by decide) (prog_ne hp) fun r hr => (prog_row h.1 hr).2
theorem prog_text {p : List Ns} (h : PgOk p) (hp : p ≠ []) : progText p ≠ "" := fun e => by
  have h1 := prog_split h hp
  rw [e, show Txt.split "" "\n" = [("" : Str)] by decide +kernel] at h1
  have h2 := congrArg List.length h1
  cases p with
  | nil => exact absurd rfl hp
  | cons z p =>
    unfold progRows nestRows at h2
    rw [List.flatMap_cons, List.length_append] at h2
    simp only [List.length_cons, List.length_nil] at h2
    omega
theorem grp_len (gs : List (List Str)) (r : Str) (n : Nat) (h : gs.length ≤ n ∧ ∀ g ∈ gs, g.length ≤ n) : (grpS gs r).length ≤ n + 1 ∧ ∀ g ∈ grpS gs r, g.length ≤ n + 1 := by
  have hl : (gs.getLast?.getD []).length ≤ n := by
    cases e : gs.getLast? with
    | none => exact Nat.zero_le _
    | some g => exact h.2 g (List.mem_of_getLast? e)
  unfold grpS
  split
  · refine ⟨by rw [List.length_append]; show _ + 1 ≤ _; omega, fun g hg => ?_⟩
    rcases List.mem_append.mp hg with q | q
    · have := h.2 g q; omega
    · rw [List.mem_singleton.mp q]; show 1 ≤ n + 1; omega
  · refine ⟨by rw [List.length_append, List.length_dropLast]; show _ + 1 ≤ _; omega, fun g hg => ?_⟩
    rcases List.mem_append.mp hg with q | q
    · have := h.2 g (List.dropLast_subset _ q); omega
    · rw [List.mem_singleton.mp q, List.length_append]; show _ + 1 ≤ _; omega
/-- the groups of the first k rows -/
def grK (rs : List Str) (k : Nat) : List (List Str) := (rs.take k).foldl grpS []
theorem grK_succ {rs : List Str} {k : Nat} {r : Str} (h : rs[k]? = some r) : grK rs (k + 1) = grpS (grK rs k) r := by
  unfold grK
  rw [List.take_add_one, h, List.foldl_append] <;> rfl
theorem grK_len (rs : List Str) : ∀ k, (grK rs k).length ≤ k ∧ ∀ g ∈ grK rs k, g.length ≤ k
  | 0 => ⟨Nat.le_refl _, fun g hg => absurd hg List.not_mem_nil⟩
  | k + 1 => by
    cases e : rs[k]? with
    | some r => rw [grK_succ e]; exact grp_len _ _ _ (grK_len rs k)
    | none =>
      have : grK rs (k + 1) = grK rs k := by
        unfold grK
        rw [List.take_add_one, e, show (none : Option Str).toList = [] from rfl, List.append_nil]
      rw [this]
      have := grK_len rs k
      exact ⟨by omega, fun g hg => Nat.le_succ_of_le (this.2 g hg)⟩
theorem grp_ne (gs : List (List Str)) (r : Str) : grpS gs r ≠ [] := by
  unfold grpS
  split <;> simp
end Sq
/-! Sq, part F20: a program's text is read: the nests. -/
namespace Sq
open PySem PySem.Spec PyProof.Rows L2
abbrev rGr (g : List Str) : Rp := rL (g.map dS)
def grA (rs : List Str) (k : Nat) : List Rp := (grK rs k).dropLast.map rGr
def grL (rs : List Str) (k : Nat) : List Str := (grK rs k).getLast?.getD []
theorem gr_all {rs : List Str} {k : Nat} (h : grK rs k ≠ []) : grA rs k ++ [rGr (grL rs k)] = (grK rs k).map rGr := by
  rcases List.eq_nil_or_concat (grK rs k) with e | ⟨ys, l, e⟩
  · exact absurd e h
  · unfold grA grL
    rw [e, List.concat_eq_append, List.dropLast_concat, List.getLast?_concat, List.map_append] <;> rfl
theorem ix_last {α : Type} (xs : List α) (x : α) : atI (xs ++ [x]) (-1) = some x := by
  unfold atI ixN
  rw [if_neg (by decide), List.length_append, if_pos (by show -((xs.length + 1 : Nat) : Int) ≤ -1; omega)]
  show (xs ++ [x])[((-1 : Int) + ((xs.length + 1 : Nat) : Int)).toNat]? = some x
  rw [show ((-1 : Int) + ((xs.length + 1 : Nat) : Int)).toNat = xs.length by omega, List.getElem?_append_right (Nat.le_refl _), Nat.sub_self] <;> rfl
section
variable {P : Program} {w : World} {K : PySem.W.Frag} {mg : Str → Option Value} {base : Heap} {m : Mt} {Γ : Gm} {ta tb te : TE}
abbrev iGr (a : Addr) (rs : List Str) (J : Iv m) (k : Nat) (e : Option Addr) : Iv m := match e with
  | none => iLst J a []
  | some b => iLL J a b (grA rs k) ((grL rs k).map dS)
theorem fam_gr {a : Addr} {rs : List Str} (e : Option Addr) : Fam (m := m) (fun J k => iGr a rs J k e) := by
  cases e with
  | none => exact fam_lst (Rs := fun _ => [])
  | some b => exact fam_own2 (F := fun k => fLst ((grL rs k).map dS)) (G := fun k => fLst (grA rs k ++ [rV (.ref b)])) (hF := fun _ => fLst_mono) (hG := fun _ => fLst_mono)
abbrev a_read_nests : Mt → List Ns → List Rp := fun _ p => [dS (progText p)]
abbrev sp_read_nests : Sp := spF a_read_nests (fun p => PgOk p ∧ p ≠ []) (fun _ p => rL (p.map (rNest K)))
theorem c_read_nests (T : Ty w K mg) (c_read_nest : Cal P w K mg base 6 "read_nest" (sp_read_nest (K := K))) (D : Df K mg "read_nests" "read_nests" s_read_nests) : Cal P w K mg base 7 "read_nests" (sp_read_nests (K := K)) := by
  refine cal_of D sc_read_nests (fun _ _ _ _ _ _ us hl => match us, hl with | [_], _ => rfl) (fun _ _ => rfl) (by decide) (fun f cdv A outer s H E hr => ⟨_, (pss_cons (ps_if (pt_not (pt_val (pe_callB call_isi (by rfl) T.b_isinstance (by decide +kernel) (pa_cons (pv 0) (pa_cons (pe_bltn (v := .ty "str") (by rfl) T.b_str (by decide +kernel) rfl) pa_nil)))))
  (pss_cons (ps_ret pe_non)
  pss_nil)
  pss_nil)
  (pss_cons (ps_set (i := 1) sc_read_nests.nd rfl (.inl rfl) (pe_lst pa_nil))
  (pss_cons (ps_for PassesOwn.never rfl (pi_seqK (K := K) rfl (pe_ifExp (pt_cmpR (op_neK (K := K) hr rfl rfl) (pv 0) pe_str (nomark _)) (pe_split (pv 0) pe_str) (pe_lst pa_nil))) (pg_nameX (i := 2) sc_read_nests.nd rfl (.inl rfl) (.inr rfl))
  (C8.pss_cut (ps_if (pt_val (pe_m1 PySem.F.slot_str_startswith PySem.F.type_str_startswith mt_startswith (pv 2) (C8.pe_gc (by rfl) T.g_OUTER_HEAD)))
  (pss_cons (ps_expr (pe_bm PySem.F.plainAttrs_list PySem.F.slot_list_append PySem.F.type_list_append mt_append (pv 1) (pa_cons (pe_lst pa_nil) pa_nil)))
  pss_nil)
  pss_nil)
  (pss_cons (ps_if (pt_cmpR (op_eqK (K := K) hr rfl rfl) (pe_callB (call_lenK (K := K) rfl) (by rfl) T.b_len (by decide +kernel) (pa_cons (pv 1) pa_nil)) pe_int (nomark _))
  (pss_cons (ps_ret pe_non)
  pss_nil)
  pss_nil)
  (pss_cons (ps_expr (pe_bm PySem.F.plainAttrs_list PySem.F.slot_list_append PySem.F.type_list_append mt_append (pe_ix (ix_seqK (K := K) rfl) (pv 1) (pe_un un_neg pe_int) (fun _ _ => rfl)) (pa_cons (pv 2) pa_nil)))
  pss_nil))))
  (pss_cons (ps_setLcX (i := 3) (own := [("rows", 4)]) rfl sc_read_nests.nd rfl rfl (sw_true rfl rfl rfl (by decide +kernel)) (pi_seqK (K := K) rfl (pv 1)) (blkOk_by (N := ["text", "groups", "row", "nests", "rows", "nest"]) (sc := defScope s_read_nests) (own := [("rows", 4)]) (by decide +kernel)) (fun _ _ _ _ _ => (pg_nameX (i := 4) sc_read_nests.nd rfl (.inl rfl) (.inr rfl))) (fun _ _ _ _ _ => pts_nil) (fun _ _ _ _ _ => (pe_cal c_read_nest hr (by decide) (by rfl) (pa_cons (pv 4) pa_nil))) (fun _ => rfl))
  (pss_cons (ps_if (PW.pt (pw_or (pt_cmpR op_gt (pe_callB (call_lenK (K := K) rfl) (by rfl) T.b_len (by decide +kernel) (pa_cons (pv 3) pa_nil)) (C8.pe_gc (by rfl) T.g_MOST_NESTS) (nomark _)) (pw_or1 (pt_val (pe_callB (cr_any rfl) (by rfl) T.b_any (by decide +kernel) (pa_cons (pe_lcX (own := [("nest", 5)]) rfl sc_read_nests.nd (pi_seqK (K := K) rfl (pv 3)) (blkOk_by (N := ["text", "groups", "row", "nests", "rows", "nest"]) (sc := defScope s_read_nests) (own := [("nest", 5)]) (by decide +kernel)) (fun _ _ _ _ _ => (pg_nameX (i := 5) sc_read_nests.nd rfl (.inl rfl) (.inr rfl))) (fun _ _ _ _ _ => pts_nil) (fun _ _ _ _ _ => (pe_cmpR op_isN (pv 5) pe_non (nomark _))) (fun _ => rfl)) pa_nil))))))
  (pss_cons (ps_ret pe_non)
  pss_nil)
  pss_nil)
  (pss_cons (ps_ret (pv 3))
  pss_nil)))))), fun m B0 H0 p Q hp ha q => ?_⟩)
  obtain ⟨hpg, hne⟩ := ha
  have hl := rows_len p hpg.1
  have hp4 := hpg.2
  have z99 : 99 < sizeLine := by decide
  refine st_if (eb_notE (eb_B (ev_isStr (vr 0)))) (fun h => nomatch h) (fun _ => st_nxt ?_)
  refine st_newL fun a => ?_
  refine st_forE (β := Option Addr) (xs := progRows p) (R0 := dS) [some (dS (progText p)), some (rV (.ref a)), none, none, none, none] (fun k e => (e = none → k = 0) ∧ (e ≠ none → grK (progRows p) k ≠ [])) (iGr a (progRows p)) fam_gr none ⟨fun _ => rfl, fun h => absurd rfl h⟩ ?_ (.same (.same (.skip (.skip (.skip (.skip .nil)))))) (fun J k x e hJ hk pe => ⟨_, _, tg_name, ?_⟩) (fun e pe => ?_)
  · refine ei_seqL (ev_if (P := fun b => b = true) (eb_test ((ev_neS (vr 0) kS).to (congrArg dB (by rw [decide_eq_false (prog_text hpg hne)] <;> rfl)))) (fun _ => (ev_split (vr 0) kS (by decide) (Nat.le_trans (Nat.add_le_add_right (prog_len hpg) 2) (by decide))).to (by rw [prog_split hpg hne])) (fun h => nomatch h))
  · have hg := grK_len (progRows p) k
    have hkl : k < (progRows p).length := (List.getElem?_eq_some_iff.mp hk).1
    have es := grK_succ hk
    refine st_cutx (α := Addr) (fun _ => [some (dS (progText p)), some (rV (.ref a)), some (dS x), none, none, none]) (fun b => iLL J a b (if stI x = true then (grK (progRows p) k).map rGr else grA (progRows p) k) ((if stI x = true then [] else grL (progRows p) k).map dS)) ?_ (fun b => ?_)
    · refine st_if (P := fun c => c = stI x) (eb_B (ev_starts (vr 2) (ev_c : EvG _ _ _ (dS "i from ")))) (fun h => ?_) (fun h => ?_)
      · have h' : stI x = true := h.symm
        rw [if_pos h', if_pos h']
        cases e with
        | none =>
          obtain rfl := pe.1 rfl
          refine st_appNew rfl (by decide) fun b => st_nxt (st_tox b (.same (.same (.same (.skip (.skip (.skip .nil)))))) fun B H h => h)
        | some b0 =>
          have hn := pe.2 (by intro h; cases h)
          refine st_frzIn (st_imp (J := iLst J a ((grK (progRows p) k).map rGr)) (st_appNew rfl (by rw [List.length_map]; omega) fun b => st_nxt (st_tox b (.same (.same (.same (.skip (.skip (.skip .nil)))))) fun B H h => h)) fun B H h => ?_)
          rw [← gr_all hn]
          exact h
      · have h' : stI x = false := h.symm
        rw [if_neg (by rw [h']; decide), if_neg (by rw [h']; decide)]
        cases e with
        | none =>
          obtain rfl := pe.1 rfl
          exfalso
          cases p with
          | nil => exact hne rfl
          | cons z p =>
            have : some ("i from " ++ loopText z.over) = some x := hk
            rw [← Option.some.inj this, st_i] at h'
            cases h'
        | some b0 => exact st_nxt (st_tox b0 (.same (.same (.same (.skip (.skip (.skip .nil)))))) fun B H h => h)
    · refine st_ifO (j := 1) (own_lst) rfl (eb_test (b := false) ((ev_eqI (ev_lenL (vr 1)) kI).to (congrArg dB (decide_eq_false (by rw [List.length_append]; simp only [List.length_cons, List.length_nil]; omega))))) (fun h => nomatch h) (fun _ => st_nxt ?_)
      refine st_appLast (j := 1) rfl (ev_ixL (vr 1) (ev_neg kI) (ix_last _ _)) (vr 2) (by
        rw [List.length_map]
        split
        · exact Nat.lt_trans (by decide) z99
        · have : (grL (progRows p) k).length ≤ k := by
            unfold grL
            cases e : (grK (progRows p) k).getLast? with
            | none => exact Nat.zero_le _
            | some g => exact hg.2 g (List.mem_of_getLast? e)
          omega) ?_
      intro σ B H hs hi
      refine ⟨some b, ⟨(fun h => nomatch h), fun _ => ?_⟩, B, hs.le (.same (.same (.skip (.skip (.skip (.skip .nil)))))), ?_⟩
      · rw [es]
        exact grp_ne _ _
      show (iLL J a b (grA (progRows p) (k + 1)) ((grL (progRows p) (k + 1)).map dS)).p B H
      have e1 : grA (progRows p) (k + 1) = (if stI x = true then (grK (progRows p) k).map rGr else grA (progRows p) k) := by
        unfold grA
        rw [es]
        unfold grpS
        split
        · rw [List.dropLast_concat]
        · rw [List.dropLast_concat]
      have e2 : (grL (progRows p) (k + 1)).map dS = (if stI x = true then [] else grL (progRows p) k).map dS ++ [dS x] := by
        unfold grL
        rw [es]
        unfold grpS
        split
        · rw [List.getLast?_concat] <;> rfl
        · rw [List.getLast?_concat, Option.getD_some, List.map_append] <;> rfl
      rw [e1, e2]
      exact hi
  · have hrn : (progRows p).length ≠ 0 := fun h => prog_ne hne (List.eq_nil_of_length_eq_zero h)
    cases e with
    | none => exact absurd (pe.1 rfl) hrn
    | some b =>
      have hn := pe.2 (by intro h; cases h)
      have ea : grK (progRows p) (progRows p).length = p.map nestRows := by
        unfold grK
        rw [List.take_length]
        exact (grp_all p [] hpg.1).trans (List.nil_append _)
      refine st_frzIn (st_imp (J := iLst (I0 m B0 H0 hp) a (p.map fun z => rGr (nestRows z))) (st_frz 1 rfl ?_) fun B H h => ?_)
      · refine st_set (R := rL (p.map (rNest K))) (ev_lcA (xs := p) (R0 := fun z => rGr (nestRows z)) (rNest K) (by omega) (ei_seqL (vr 1)) (fun z hz => ⟨_, _, tg_name, fun j hj => hj, ev_call z (hpg.1 z hz) (ea1 (vr 4))⟩)) ?_
        refine st_if (eb_to (eb_orE (b := false) (c := false) (eb_test ((ev_gt (ev_lenL (vr 3)) (ev_c : EvG _ _ _ (dI 4))).to (congrArg dB (decide_eq_false (by rw [List.length_map]; omega))))) (fun _ => eb_B ((ev_any (bs := p.map fun _ => false) ((ev_lcA (xs := p) (R0 := rNest K) (fun _ => dB false) (by omega) (ei_seqL (vr 3)) (fun z hz => ⟨_, _, tg_name, fun j hj => hj, ev_isN (b := false) (R := rNest K z) (vr 5) fun B v ⟨a, dx, vs, e, _⟩ => by rw [e] <;> rfl⟩)).to (by rw [List.map_map] <;> rfl))).to (congrArg dB (by rw [List.any_map]; exact List.any_eq_false.mpr fun _ _ h => by cases h))))) rfl) (fun h => nomatch h) (fun _ => st_nxt ?_)
        exact st_ret (vr 3) q
      · rw [gr_all hn, ea, List.map_map] at h
        exact h
end
end Sq
/-! Sq, part F21: Program.read. -/
namespace Sq
open PySem PySem.Spec PyProof.Rows L2
section
variable {P : Program} {w : World} {K : PySem.W.Frag} {mg : Str → Option Value} {base : Heap} {m : Mt} {Γ : Gm} {ta tb te : TE}
abbrev a_Program_read : Mt → List Ns → List Rp := fun _ p => [rV (.ref (He.ga K "Program")), dS (progText p)]
abbrev sp_Program_read (K : PySem.W.Frag) : Sp := spM (a_Program_read (K := K)) (fun _ p => PgOk p ∧ p ≠ []) (fun _ p => rProg K p)
theorem c_Program_read (T : Ty w K mg) (c_read_nests : Cal P w K mg base 7 "read_nests" (sp_read_nests (K := K))) (c_Program___init : Ini P w K mg base 1 (He.ga K "Program") (sp_Program___init K)) (D : DfM K (He.ga K "Program") "read" "Program.read" s_Program_read) : Cme P w K mg base 8 (He.ga K "Program") "read" (sp_Program_read K) := by
  refine cme_of D sc_Program_read (fun _ _ _ _ _ _ us hl => match us, hl with | [_, _], _ => rfl) (fun _ _ => rfl) (by decide) (fun f cdv A outer s H E hr => ⟨_, (pss_cons (ps_set (i := 2) sc_Program_read.nd rfl (.inl rfl) (pe_cal c_read_nests hr (by decide) (by rfl) (pa_cons (pv 1) pa_nil)))
  (pss_cons (ps_if (pt_cmpR op_isN (pv 2) pe_non (nomark _))
  (pss_cons ps_never
  pss_nil)
  pss_nil)
  (pss_cons (ps_ret (pe_newLS c_Program___init hr (by decide) (i := 0) rfl (Or.inl rfl) (pv 2)))
  pss_nil))), fun m B0 H0 p Q hp ha q => ?_⟩)
  obtain ⟨hpg, hne⟩ := ha
  refine st_set (R := rL (p.map (rNest K))) (ev_call p ⟨hpg, hne⟩ (ea1 (vr 1))) ?_
  refine st_if (eb_test (ev_isN (b := false) (R := rL (p.map (rNest K))) (vr 2) fun B v ⟨a, xs, e, _⟩ => by rw [e] <;> rfl)) (fun h => nomatch h) (fun _ => st_nxt ?_)
  exact st_ret (ev_loc rfl (ev_new p hpg.2 (ea_starN (vr 2)))) q
end
end Sq
/-! Sq, part F22: the law's own helpers: texts. -/
namespace Sq
open PySem PySem.Spec PyProof.Rows L2
def sfxText (k : Nat) : Str := match k with | 0 => "-1" | 1 => "" | _ => "+1"
theorem end_parts {a : Nat} (h : a < 18) (h3 : 3 ≤ a) : endText a = baseText (a / 3) ++ sfxText (a % 3) ∧ (baseText (a / 3)).length + (sfxText (a % 3)).length ≤ sizeLine := by
  have h' : ∀ a, a < 18 → 3 ≤ a → endText a = baseText (a / 3) ++ sfxText (a % 3) ∧ (baseText (a / 3)).length + (sfxText (a % 3)).length ≤ 40 := by decide +kernel
  exact ⟨(h' a h h3).1, Nat.le_trans (h' a h h3).2 (by decide)⟩
section
variable {P : Program} {w : World} {K : PySem.W.Frag} {mg : Str → Option Value} {base : Heap} {m : Mt} {Γ : Gm} {ta tb te : TE}
theorem ev_strI {i : Int} (h : EvG m ta Γ (dI i)) (hz : i.natAbs.log2 < 1920) : EvG m (tCB (fun xs H Q => ∃ i, xs = [.int i] ∧ i.natAbs.log2 < 1920 ∧ Q (.str (toString i)) H) (tCons ta tNil)) Γ (dS (Str.ofString (toString i))) := ev_cb (ea1 h) (ca_now fun B H vs hp hv => by
  obtain ⟨v, rfl, e⟩ := all1 hv
  obtain rfl : v = .int i := e
  exact ⟨_, rfl, fun Q q => ⟨i, rfl, hz, q⟩⟩)
abbrev a_law_endtext : Mt → Nat → List Rp := fun _ a => [dI (a : Int)]
abbrev sp_law_endtext : Sp := spF a_law_endtext (fun a => a < 18) (fun _ a => dS (endText a))
theorem c_law_endtext (T : Ty w K mg) (D : Df K mg "_law_endtext" "_law_endtext" s_law_endtext) : Cal P w K mg base 1 "_law_endtext" sp_law_endtext := by
  refine cal_of D sc_law_endtext (fun _ _ _ _ _ _ us hl => match us, hl with | [_], _ => rfl) (fun _ _ => rfl) (by decide) (fun f cdv A outer s H E hr => ⟨_, (pss_cons (ps_if (pt_cmpR op_lt (pv 0) pe_int (nomark _))
  (pss_cons (ps_ret (pe_callTy call_str_int (by rfl) T.b_str (by decide +kernel) (pa_cons (pe_op op_sub (pv 0) pe_int) pa_nil)))
  pss_nil)
  pss_nil)
  (pss_cons (ps_set (i := 1) sc_law_endtext.nd rfl (.inl rfl) (pe_ix (ix_seqK (K := K) rfl) (pe_lst (pa_cons pe_str (pa_cons pe_str (pa_cons pe_str (pa_cons pe_str (pa_cons pe_str pa_nil)))))) (pe_op op_sub (pe_op op_fdivW (pv 0) pe_int) pe_int) (fun _ _ => rfl)))
  (pss_cons (ps_ret (pe_op op_addA (pv 1) (pe_ix (ix_seqK (K := K) rfl) (pe_lst (pa_cons pe_str (pa_cons pe_str (pa_cons pe_str pa_nil)))) (pe_op op_mod (pe_callTy call_int1 (by rfl) T.b_int (by decide +kernel) (pa_cons (pv 0) pa_nil)) pe_int) (fun _ _ => rfl))))
  pss_nil))), fun m B0 H0 a Q hp ha q => ?_⟩)
  have h18 : a < 18 := ha
  refine st_if (P := fun b => b = decide ((a : Int) < 3)) (eb_test (ev_lt (vr 0) kI)) (fun h => ?_) (fun h => st_nxt ?_)
  · have h3 : a < 3 := by have := of_decide_eq_true h.symm; omega
    refine st_ret ((ev_strI (ev_sub (vr 0) kI) ?_).to ?_) q
    · rcases (show a = 0 ∨ a = 1 ∨ a = 2 by omega) with e | e | e <;> subst e <;> decide
    · rcases (show a = 0 ∨ a = 1 ∨ a = 2 by omega) with e | e | e <;> subst e <;> exact congrArg dS (by decide +kernel)
  · have h3 : 3 ≤ a := by have := of_decide_eq_false h.symm; omega
    obtain ⟨e1, e2⟩ := end_parts h18 h3
    refine st_set (R := dS (baseText (a / 3))) (ev_ixL (n := ((a / 3 - 1 : Nat) : Int)) (ev_lst (Rs := [dS "n//2", dS "(n+1)//2", dS "n", dS "i", dS "n-i"]) (ea_cons kS (ea_cons kS (ea_cons kS (ea2 kS kS))))) ((ev_sub (ev_fdiv (vr 0) kI ⟨by decide, by decide⟩) kI).to (congrArg dI (by omega))) (atN ?_)) ?_
    · have h' : ∀ a, a < 18 → 3 ≤ a → (["n//2", "(n+1)//2", "n", "i", "n-i"] : List Str)[a / 3 - 1]? = some (baseText (a / 3)) := by decide +kernel
      have := congrArg (Option.map dS) (h' a h18 h3)
      rw [← List.getElem?_map] at this
      exact this
    refine st_ret ((ev_adds (y := sfxText (a % 3)) (vr 1) (ev_ixL (n := ((a % 3 : Nat) : Int)) (ev_lst (Rs := [dS "-1", dS "", dS "+1"]) (ea_cons kS (ea2 kS kS))) ((ev_mod (ev_int (vr 0)) kI (by decide)).to (congrArg dI (by omega))) (atN ?_)) e2).to (congrArg dS e1.symm)) q
    have h' : ∀ k, k < 3 → (["-1", "", "+1"] : List Str)[k]? = some (sfxText k) := by decide +kernel
    have := congrArg (Option.map dS) (h' (a % 3) (Nat.mod_lt _ (by decide)))
    rw [← List.getElem?_map] at this
    exact this
abbrev rLoop (K : PySem.W.Frag) (l : Lp) : Rp := rT K [dI (l.1 : Int), dI (l.2.1 : Int), dB l.2.2]
abbrev sp_law_looptext : Sp := spF (fun _ l => [rLoop K l]) (LpOk true) (fun _ l => dS (loopText l))
theorem end_len2 {a : Nat} (h : a < 18) : (endText a).length ≤ 12 := by
  have h' : ∀ a, a < 18 → (endText a).length ≤ 12 := by decide +kernel
  exact h' a h
theorem c_law_looptext (T : Ty w K mg) (c_law_endtext : Cal P w K mg base 1 "_law_endtext" sp_law_endtext) (D : Df K mg "_law_looptext" "_law_looptext" s_law_looptext) : Cal P w K mg base 2 "_law_looptext" (sp_law_looptext (K := K)) := by
  refine cal_of D sc_law_looptext (fun _ _ _ _ _ _ us hl => match us, hl with | [_], _ => rfl) (fun _ _ => rfl) (by decide) (fun f cdv A outer s H E hr => ⟨_, (pss_cons (ps_ret (pe_op op_addA (pe_op op_addA (pe_op op_addA (pe_cal c_law_endtext hr (by decide) (by rfl) (pa_cons (pe_ix (ix_seqK (K := K) rfl) (pv 0) pe_int (fun _ _ => rfl)) pa_nil)) pe_str) (pe_cal c_law_endtext hr (by decide) (by rfl) (pa_cons (pe_ix (ix_seqK (K := K) rfl) (pv 0) pe_int (fun _ _ => rfl)) pa_nil))) (pe_ifExp (pt_val (pe_ix (ix_seqK (K := K) rfl) (pv 0) pe_int (fun _ _ => rfl))) pe_str pe_str)))
  pss_nil), fun m B0 H0 l Q hp ha q => ?_⟩)
  obtain ⟨a, b, d⟩ := l
  obtain ⟨h1, h2, _⟩ := ha
  simp only at h1 h2
  have l1 := end_len2 h1
  have l2 := end_len2 h2
  have z : (endText a).length + 4 + (endText b).length + 5 ≤ sizeLine := Nat.le_trans (show _ ≤ 40 by omega) (by decide)
  have e4 : (" to " : Str).length = 4 := by decide +kernel
  have e5 : ((if d then (" down" : Str) else ("" : Str))).length ≤ 5 := by cases d <;> decide +kernel
  refine st_ret ((ev_adds (y := if d then (" down" : Str) else ("" : Str)) (ev_adds (ev_adds (ev_call a h1 (ea1 (ev_ixT (vr 0) kI (atN (n := 0) rfl)))) kS (by show (endText a).length + (" to " : Str).length ≤ _; rw [e4]; omega)) (ev_call b h2 (ea1 (ev_ixT (vr 0) kI (atN (n := 1) rfl)))) (by show (endText a ++ (" to " : Str)).length + (endText b).length ≤ _; rw [app_len, e4]; omega)) (ev_if (eb_B (b := d) (ev_ixT (vr 0) kI (atN (n := 2) rfl))) (fun h => kS.to ?_) (fun h => kS.to ?_)) (by show (endText a ++ (" to " : Str) ++ endText b).length + _ ≤ _; rw [app_len, app_len, e4]; omega)).to rfl) q
  · rw [← h] <;> rfl
  · rw [← h] <;> rfl
abbrev sp_law_end : Sp := spF (fun _ (z : Nat × Int × Int) => [dI (z.1 : Int), dI z.2.1, dI z.2.2]) (fun z => z.1 < 18) (fun _ z => dI (endVal z.1 z.2.1 z.2.2))
theorem c_law_end (T : Ty w K mg) (D : Df K mg "_law_end" "_law_end" s_law_end) : Cal P w K mg base 1 "_law_end" sp_law_end := by
  refine cal_of D sc_law_end (fun _ _ _ _ _ _ us hl => match us, hl with | [_, _, _], _ => rfl) (fun _ _ => rfl) (by decide) (fun f cdv A outer s H E hr => ⟨_, (pss_cons (ps_set (i := 3) sc_law_end.nd rfl (.inl rfl) (pe_lst (pa_cons pe_int (pa_cons (pe_op op_fdivW (pv 1) pe_int) (pa_cons (pe_op op_fdivW (pe_op op_addA (pv 1) pe_int) pe_int) (pa_cons (pv 1) (pa_cons (pv 2) (pa_cons (pe_op op_sub (pv 1) (pv 2)) pa_nil))))))))
  (pss_cons (ps_ret (pe_op op_sub (pe_op op_addA (pe_ix (ix_seqK (K := K) rfl) (pv 3) (pe_op op_fdivW (pv 0) pe_int) (fun _ _ => rfl)) (pe_op op_mod (pe_callTy call_int1 (by rfl) T.b_int (by decide +kernel) (pa_cons (pv 0) pa_nil)) pe_int)) pe_int))
  pss_nil)), fun m B0 H0 ⟨a, n, i⟩ Q hp ha q => ?_⟩)
  have h18 : a < 18 := ha
  refine st_set (R := rL [dI 0, dI (n / 2), dI ((n + 1) / 2), dI n, dI i, dI (n - i)]) (ev_lst (ea_cons kI (ea_cons (ev_fdiv (vr 1) kI ⟨by decide, by decide⟩) (ea_cons (ev_fdiv (ev_add (vr 1) kI) kI ⟨by decide, by decide⟩) (ea_cons (vr 1) (ea2 (vr 2) (ev_sub (vr 1) (vr 2)))))))) ?_
  refine st_ret ((ev_sub (ev_add (ev_ixL (R := dI (baseVal (a / 3) n i)) (n := ((a / 3 : Nat) : Int)) (vr 3) ((ev_fdiv (vr 0) kI ⟨by decide, by decide⟩).to (congrArg dI (by omega))) (atN ?_)) (ev_mod (ev_int (vr 0)) kI (by decide))) kI).to (congrArg dI ?_)) q
  · rcases (show a / 3 = 0 ∨ a / 3 = 1 ∨ a / 3 = 2 ∨ a / 3 = 3 ∨ a / 3 = 4 ∨ a / 3 = 5 by omega) with e | e | e | e | e | e <;> rw [e] <;> rfl
  · unfold endVal
    push_cast
    omega
abbrev sp_law_spots : Sp := spF (fun _ (_ : Unit) => []) (fun _ => True) (fun _ _ => rL ((List.range 8).map fun k => dS (spotText k)))
theorem c_law_spots (T : Ty w K mg) (D : Df K mg "_law_spots" "_law_spots" s_law_spots) : Cal P w K mg base 1 "_law_spots" sp_law_spots := by
  refine cal_of D sc_law_spots (fun _ _ _ _ _ _ us hl => match us, hl with | [], _ => rfl) (fun _ _ => rfl) (by decide) (fun f cdv A outer s H E hr => ⟨_, (pss_cons (ps_ret (pe_lst (pa_cons pe_str (pa_cons pe_str (pa_cons pe_str (pa_cons pe_str (pa_cons pe_str (pa_cons pe_str (pa_cons pe_str (pa_cons pe_str pa_nil))))))))))
  pss_nil), fun m B0 H0 _ Q hp ha q => ?_⟩)
  exact st_ret (ev_lst (ea_cons kS (ea_cons kS (ea_cons kS (ea_cons kS (ea_cons kS (ea_cons kS (ea2 kS kS)))))))) q
end
end Sq
/-! Sq, part F23: the law's own helpers: texts of deeds. -/
namespace Sq
open PySem PySem.Spec PyProof.Rows L2
theorem join_ok {y : Str} {ys : List Str} (hy : y.length ≤ 1) (h : ∀ x ∈ ys, x.length ≤ 200) (hn : ys.length ≤ 1000) : (ys.map (·.length)).sum + ys.length * y.length ≤ 16777216 := by
  have h1 := sum_len h
  have h2 : ys.length * y.length ≤ ys.length * 1 := Nat.mul_le_mul_left _ hy
  omega
/-- a join of a join -/
theorem join_join (s : Str) : ∀ (xs : List Str), xs ≠ [] → ∀ ys : List Str, Txt.join s (Txt.join s xs :: ys) = Txt.join s (xs ++ ys) := fun xs hx ys => by
  rw [TL.join_eq, TL.join_eq, TL.join_eq]
  refine TL.ext_tl ?_
  rw [TL.tl_join, TL.tl_join, List.map_cons, TL.tl_join, List.map_append]
  have go : ∀ (as bs : List (List Nat)), as ≠ [] → TL.joinL (TL.tl s) (TL.joinL (TL.tl s) as :: bs) = TL.joinL (TL.tl s) (as ++ bs) := by
    intro as
    induction as with
    | nil => intro bs h; exact absurd rfl h
    | cons a as ih =>
      intro bs _
      cases as with
      | nil => rfl
      | cons b as =>
        have h := ih bs (List.cons_ne_nil _ _)
        cases bs with
        | nil => rw [List.append_nil] <;> rfl
        | cons c cs =>
          show (a ++ (TL.tl s ++ TL.joinL (TL.tl s) (b :: as))) ++ (TL.tl s ++ TL.joinL (TL.tl s) (c :: cs)) = a ++ (TL.tl s ++ TL.joinL (TL.tl s) (b :: as ++ c :: cs))
          rw [← h, List.append_assoc, List.append_assoc] <;> rfl
  exact go _ _ (by simpa using hx)
section
variable {P : Program} {w : World} {K : PySem.W.Frag} {mg : Str → Option Value} {base : Heap} {m : Mt} {Γ : Gm} {ta tb te : TE}
def rGd (K : PySem.W.Frag) (g : Option (Nat × Nat × Nat)) : Rp := match g with | none => dN | some z => rT K [dI (z.1 : Int), dI (z.2.1 : Int), dI (z.2.2 : Int)]
abbrev rLd (K : PySem.W.Frag) (d : Dd) : Rp := rT K [dS (wordText d.wd), rL (d.sp.map fun (k : Nat) => dI (k : Int)), rGd K d.gd]
abbrev sp_law_deedtext : Sp := spF (fun _ d => [rLd K d]) DdOk (fun _ d => dS (deedText d))
theorem num_at {k : Nat} (h : k < 4) : ([dS "i", dS "j", dS "~i", dS "~j"] : List Rp)[k]? = some (dS (numText k)) := by
  rcases (show k = 0 ∨ k = 1 ∨ k = 2 ∨ k = 3 by omega) with e | e | e | e <;> subst e <;> rfl
theorem sign_at {k : Nat} (h : k < 4) : ([dS "<", dS "<=", dS "==", dS "!="] : List Rp)[k]? = some (dS (signText k)) := by
  rcases (show k = 0 ∨ k = 1 ∨ k = 2 ∨ k = 3 by omega) with e | e | e | e <;> subst e <;> rfl
theorem c_law_deedtext (T : Ty w K mg) (c_law_spots : Cal P w K mg base 1 "_law_spots" sp_law_spots) (D : Df K mg "_law_deedtext" "_law_deedtext" s_law_deedtext) : Cal P w K mg base 2 "_law_deedtext" (sp_law_deedtext (K := K)) := by
  refine cal_of D sc_law_deedtext (fun _ _ _ _ _ _ us hl => match us, hl with | [_], _ => rfl) (fun _ _ => rfl) (by decide) (fun f cdv A outer s H E hr => ⟨_, (pss_cons (ps_set (i := 1) sc_law_deedtext.nd rfl (.inl rfl) (pe_join pe_str (pe_op op_addA (pe_lst (pa_cons (pe_ix (ix_seqK (K := K) rfl) (pv 0) pe_int (fun _ _ => rfl)) pa_nil)) (pe_lcX (own := [("_law_spot_here", 7)]) rfl sc_law_deedtext.nd (pi_seqK (K := K) rfl (pe_ix (ix_seqK (K := K) rfl) (pv 0) pe_int (fun _ _ => rfl))) (blkOk_by (N := ["_law_deed_here", "_law_found", "_law_one", "_law_sign", "_law_other", "_law_letters_here", "_law_signs", "_law_spot_here"]) (sc := defScope s_law_deedtext) (own := [("_law_spot_here", 7)]) (by decide +kernel)) (fun _ _ _ _ _ => (pg_nameX (i := 7) sc_law_deedtext.nd rfl (.inl rfl) (.inr rfl))) (fun _ _ _ _ _ => pts_nil) (fun _ _ _ _ _ => (pe_ix (ix_seqK (K := K) rfl) (pe_cal0 c_law_spots hr (by decide) (by rfl)) (pv 7) (fun _ _ => rfl))) (fun _ => rfl)))))
  (pss_cons (ps_if (pt_cmpR op_isN (pe_ix (ix_seqK (K := K) rfl) (pv 0) pe_int (fun _ _ => rfl)) pe_non (nomark _))
  (pss_cons (ps_ret (pv 1))
  pss_nil)
  pss_nil)
  (pss_cons (ps_asg (pe_ix (ix_seqK (K := K) rfl) (pv 0) pe_int (fun _ _ => rfl)) (pg_unK (K := K) rfl rfl rfl rfl (pgs_cons (pg_nameX (i := 2) sc_law_deedtext.nd rfl (.inl rfl) (.inr rfl)) (pgs_cons (pg_nameX (i := 3) sc_law_deedtext.nd rfl (.inl rfl) (.inr rfl)) (pgs_cons (pg_nameX (i := 4) sc_law_deedtext.nd rfl (.inl rfl) (.inr rfl)) pgs_nil)))))
  (pss_cons (ps_par (i := 5) (j := 6) rfl sc_law_deedtext.nd rfl rfl (by decide) rfl rfl (pa_cons (pe_lst (pa_cons pe_str (pa_cons pe_str (pa_cons pe_str (pa_cons pe_str pa_nil))))) (pa_cons (pe_lst (pa_cons pe_str (pa_cons pe_str (pa_cons pe_str (pa_cons pe_str pa_nil))))) pa_nil)) (by rfl))
  (pss_cons (ps_ret (pe_join pe_str (pe_lst (pa_cons (pv 1) (pa_cons pe_str (pa_cons (pe_ix (ix_seqK (K := K) rfl) (pv 5) (pv 2) (fun _ _ => rfl)) (pa_cons (pe_ix (ix_seqK (K := K) rfl) (pv 6) (pv 3) (fun _ _ => rfl)) (pa_cons (pe_ix (ix_seqK (K := K) rfl) (pv 5) (pv 4) (fun _ _ => rfl)) pa_nil))))))))
  pss_nil))))), fun m B0 H0 d Q hp ha q => ?_⟩)
  have hd : DdOk d := ha
  have hsp := sp_len hd
  refine st_set (R := dS (Txt.join " " (deedHead d))) (ev_join kS ((ev_cat (ev_lst (ea1 (ev_ixT (vr 0) kI (atN (n := 0) rfl)))) (ev_lcA (xs := d.sp) (R0 := fun (k : Nat) => dI (k : Int)) (fun k => dS (spotText k)) (by have : sizeLine = 16777216 := sizeLine_eq; omega) (ei_seqL (ev_ixT (vr 0) kI (atN (n := 1) rfl))) (fun k hk => ⟨_, _, tg_name, fun j hj => hj, ev_ixL (ev_call () trivial ea_nil) (vr 7) (atN ?_)⟩)) ?_).to ?_) (join_ok (by decide +kernel) (fun p hp => Nat.le_trans (head_ok hd p hp).2.2.1 (by decide)) (by have := head_len d; omega))) ?_
  · rw [List.getElem?_map, List.getElem?_range (hd.2.2.2.1 k hk)] <;> rfl
  · rw [List.length_map]
    exact Nat.le_trans (show 1 + d.sp.length ≤ 9 by omega) (by decide)
  · unfold deedHead
    rw [List.map_cons, List.map_map] <;> rfl
  cases hg : d.gd with
  | none =>
    have e : deedText d = Txt.join " " (deedHead d) := by
      unfold deedText deedWords
      rw [hg, List.append_nil]
    exact st_if (eb_test (ev_isN (b := true) (R := rGd K d.gd) (ev_ixT (vr 0) kI (atN (n := 2) rfl)) fun B v h => by rw [hg] at h; rw [show v = .non from h] <;> rfl)) (fun _ => st_ret ((vr 1).to (congrArg dS e.symm)) q) (fun h => nomatch h)
  | some g =>
    obtain ⟨a, s, b⟩ := g
    obtain ⟨g1, g2, g3, g4⟩ := hd.2.2.2.2.2 _ hg
    simp only at g1 g2 g3
    have e : deedText d = Txt.join " " (Txt.join " " (deedHead d) :: ["if", numText a, signText s, numText b]) := by
      rw [join_join " " (deedHead d) (by unfold deedHead; exact List.cons_ne_nil _ _)]
      unfold deedText deedWords
      rw [hg] <;> rfl
    refine st_if (eb_test (ev_isN (b := false) (R := rGd K d.gd) (ev_ixT (vr 0) kI (atN (n := 2) rfl)) fun B v h => by rw [hg] at h; obtain ⟨p, xs, ev, _⟩ := h; rw [ev] <;> rfl)) (fun h => nomatch h) (fun _ => st_nxt ?_)
    refine st_asg (R := rT K [dI (a : Int), dI (s : Int), dI (b : Int)]) ((ev_ixT (R := rGd K d.gd) (vr 0) kI (atN (n := 2) rfl)).to (by rw [hg] <;> rfl)) (tg_unT (tgs_cons tg_name (tgs_cons tg_name (tgs_cons tg_name tgs_nil)))) ?_
    refine st_par (Ra := rL [dS "i", dS "j", dS "~i", dS "~j"]) (Rb := rL [dS "<", dS "<=", dS "==", dS "!="]) (by decide) (ea2 (ev_lst (ea_cons kS (ea_cons kS (ea2 kS kS)))) (ev_lst (ea_cons kS (ea_cons kS (ea2 kS kS))))) ?_
    have n1 := num_ok g1
    have n2 := num_ok g2
    have n3 := num_ok g3
    have hh : (Txt.join " " (deedHead d)).length ≤ 78 := by
      have h1 := tjoin_len (y := " ") (B := 5) fun p hp => (head_ok hd p hp).2.2.1
      rw [one_len, head_len] at h1
      omega
    refine st_ret ((ev_join (ys := Txt.join " " (deedHead d) :: ["if", numText a, signText s, numText b]) kS (ev_lst (ea_cons (vr 1) (ea_cons kS (ea_cons (ev_ixL (vr 5) (vr 2) (atN (num_at g1))) (ea2 (ev_ixL (vr 6) (vr 3) (atN (sign_at g2))) (ev_ixL (vr 5) (vr 4) (atN (num_at g3)))))))) (join_ok (by decide +kernel) (fun p hp => ?_) (show 5 ≤ 1000 by decide))).to (congrArg dS e.symm)) q
    have i2 : ("if" : Str).length = 2 := by decide +kernel
    simp only [List.mem_cons, List.not_mem_nil, or_false] at hp
    rcases hp with e | e | e | e | e <;> rw [e] <;> omega
end
end Sq
/-! Sq, part F24: the law's text of a plan. -/
namespace Sq
open PySem PySem.Spec PyProof.Rows L2
section
variable {P : Program} {w : World} {K : PySem.W.Frag} {mg : Str → Option Value} {base : Heap} {m : Mt} {Γ : Gm} {ta tb te : TE}
abbrev rLns (K : PySem.W.Frag) (z : Ns) : Rp := rT K [rLoop K z.over, rLoop K z.below, rL (z.deeds.map (rLd K))]
abbrev rPlan (K : PySem.W.Frag) (p : List Ns) : Rp := rL (p.map (rLns K))
abbrev sp_law_text : Sp := spF (fun _ p => [rPlan K p]) PgOk (fun _ p => dS (progText p))
theorem c_law_text (T : Ty w K mg) (c_law_looptext : Cal P w K mg base 2 "_law_looptext" (sp_law_looptext (K := K))) (c_law_deedtext : Cal P w K mg base 2 "_law_deedtext" (sp_law_deedtext (K := K))) (D : Df K mg "_law_text" "_law_text" s_law_text) : Cal P w K mg base 3 "_law_text" (sp_law_text (K := K)) := by
  refine cal_of D sc_law_text (fun _ _ _ _ _ _ us hl => match us, hl with | [_], _ => rfl) (fun _ _ => rfl) (by decide) (fun f cdv A outer s H E hr => ⟨_, (pss_cons (ps_set (i := 1) sc_law_text.nd rfl (.inl rfl) (pe_lst pa_nil))
  (pss_cons (ps_for PassesOwn.never rfl (pi_seqK (K := K) rfl (pv 0)) (pg_unK (K := K) rfl rfl rfl rfl (pgs_cons (pg_nameX (i := 2) sc_law_text.nd rfl (.inl rfl) (.inr rfl)) (pgs_cons (pg_nameX (i := 3) sc_law_text.nd rfl (.inl rfl) (.inr rfl)) (pgs_cons (pg_nameX (i := 4) sc_law_text.nd rfl (.inl rfl) (.inr rfl)) pgs_nil))))
  (pss_cons (ps_set (i := 1) sc_law_text.nd rfl (.inl rfl) (pe_op op_addA (pv 1) (pe_lst (pa_cons (pe_op op_addA pe_str (pe_cal c_law_looptext hr (by decide) (by rfl) (pa_cons (pv 2) pa_nil))) (pa_cons (pe_op op_addA pe_str (pe_cal c_law_looptext hr (by decide) (by rfl) (pa_cons (pv 3) pa_nil))) pa_nil)))))
  (pss_cons (ps_set (i := 1) sc_law_text.nd rfl (.inl rfl) (pe_op op_addA (pv 1) (pe_lcX (own := [("_law_deed_here", 5)]) rfl sc_law_text.nd (pi_seqK (K := K) rfl (pv 4)) (blkOk_by (N := ["_law_plan_here", "_law_rows", "_law_outer", "_law_inner", "_law_deeds", "_law_deed_here"]) (sc := defScope s_law_text) (own := [("_law_deed_here", 5)]) (by decide +kernel)) (fun _ _ _ _ _ => (pg_nameX (i := 5) sc_law_text.nd rfl (.inl rfl) (.inr rfl))) (fun _ _ _ _ _ => pts_nil) (fun _ _ _ _ _ => (pe_cal c_law_deedtext hr (by decide) (by rfl) (pa_cons (pv 5) pa_nil))) (fun _ => rfl))))
  pss_nil)))
  (pss_cons (ps_ret (pe_join pe_str (pv 1)))
  pss_nil))), fun m B0 H0 p Q hp ha q => ?_⟩)
  have hpg : PgOk p := ha
  have hz : 99 < sizeLine := by decide
  refine st_set (R := rL []) (ev_lst ea_nil) ?_
  refine st_forM (xs := p) (R0 := rLns K) (fun k => [some (rPlan K p), some (rL ((progRows (p.take k)).map dS)), none, none, none, none]) (fun J _ => J) fam_id (ei_seqL (vr 0)) (.same (.same (.skip (.skip (.skip (.skip .nil)))))) (fun J k z hJ hk => ⟨_, _, tg_unT tgs3, ?_⟩) ?_
  · have hm : z ∈ p := List.mem_of_getElem? hk
    obtain ⟨h1, h2, h3, h4, h5⟩ := hpg.1 z hm
    have hl : (progRows (p.take k)).length ≤ 32 := Nat.le_trans (rows_len _ fun x hx => hpg.1 x (List.mem_of_mem_take hx)) (by have := hpg.2; rw [List.length_take]; omega)
    have l1 := loop_len h1.1 h1.2.1
    have l2 := loop_len h2.1 h2.2.1
    have i7 : ("i from " : Str).length = 7 := by decide +kernel
    have j7 : ("j from " : Str).length = 7 := by decide +kernel
    refine st_set (R := rL ((progRows (p.take k) ++ ["i from " ++ loopText z.over, "j from " ++ loopText z.below]).map dS)) ((ev_cat (vr 1) (ev_lst (ea2 (ev_adds (x := "i from ") (y := loopText z.over) kS (ev_call z.over (lp_true h1) (ea1 (vr 2))) (by rw [i7]; omega)) (ev_adds (x := "j from ") (y := loopText z.below) kS (ev_call z.below h2 (ea1 (vr 3))) (by rw [j7]; omega)))) (by rw [List.length_map]; show _ + 2 ≤ _; omega)).to (by rw [List.map_append] <;> rfl)) ?_
    refine st_set (R := rL ((progRows (p.take (k + 1))).map dS)) ((ev_cat (vr 1) (ev_lcA (xs := z.deeds) (R0 := rLd K) (fun d => dS (deedText d)) (by omega) (ei_seqL (vr 4)) (fun d hd => ⟨_, _, tg_name, fun j hj => hj, ev_call d (h3 d hd) (ea1 (vr 5))⟩)) (by rw [List.length_map, List.length_map, List.length_append]; show _ + 2 + _ ≤ _; omega)).to ?_) (st_to (.same (.same (.skip (.skip (.skip (.skip .nil)))))) fun B H h => h)
    have e : progRows (p.take (k + 1)) = progRows (p.take k) ++ nestRows z := by
      rw [List.take_add_one, hk]
      unfold progRows
      rw [List.flatMap_append]
      congr 1
      show List.flatMap nestRows [z] = _
      rw [List.flatMap_cons, List.flatMap_nil, List.append_nil]
    have e2 : (nestRows z).map dS = [dS ("i from " ++ loopText z.over), dS ("j from " ++ loopText z.below)] ++ z.deeds.map fun d => dS (deedText d) := by
      unfold nestRows
      rw [List.map_cons, List.map_cons, List.map_map] <;> rfl
    rw [e, List.map_append, List.map_append, e2, List.append_assoc] <;> rfl
  · refine st_ret ((ev_join (ys := progRows p) kS ((vr 1).to (by rw [List.take_length])) (join_ok (by decide +kernel) (fun r hr => Nat.le_trans (prog_row hpg.1 hr).1 (by decide)) (by have := rows_len p hpg.1; have := hpg.2; omega))).to rfl) q
end
end Sq
/-! Sq, part F25: the law's map of letters. -/
namespace Sq
open PySem PySem.Spec PyProof.Rows L2
/-- x among the letters hs, by those of ts -/
def ledI (hs ts : List Int) (x : Int) : Int := ts.getD (hs.idxOf x) 0
def ledC (hs ts : List Int) (c : Cell) : Cell := (ledI hs ts c.1, ledI hs ts c.2)
structure Lz where
  cs : List Cell
  hs : List Int
  ts : List Int
def LzOk (z : Lz) : Prop := (∀ c ∈ z.cs, c.1 ∈ z.hs ∧ c.2 ∈ z.hs) ∧ z.hs.length = z.ts.length ∧ z.cs.length ≤ 1000
theorem idx_fst {hs : List Int} {x : Int} (h : x ∈ hs) : hs[hs.idxOf x]? = some x ∧ (∀ k, k < hs.idxOf x → hs[k]? ≠ some x) ∧ hs.idxOf x < hs.length := by
  have hl := List.idxOf_lt_length_of_mem h
  refine ⟨by rw [List.getElem?_eq_getElem hl]; exact congrArg some (List.getElem_idxOf hl), fun k hk e => ?_, hl⟩
  have hkl := Nat.lt_trans hk hl
  rw [List.getElem?_eq_getElem hkl] at e
  have e2 : hs[k] = x := Option.some.inj e
  have := List.not_of_lt_findIdx (xs := hs) (p := (· == x)) (i := k) hk
  rw [e2] at this
  simp at this
section
variable {P : Program} {w : World} {K : PySem.W.Frag} {mg : Str → Option Value} {base : Heap} {m : Mt} {Γ : Gm} {ta tb te : TE}
abbrev sp_law_led : Sp := spF (fun _ (z : Lz) => [rL (z.cs.map (rCell K)), rL (z.hs.map dI), rL (z.ts.map dI)]) LzOk (fun _ z => rL ((z.cs.map (ledC z.hs z.ts)).map rCellN))
theorem ev_led {hs ts : List Int} {x : Int} {tc : TE} (hx : x ∈ hs) (hl : hs.length = ts.length) (ha : EvG m ta Γ (rL (ts.map dI))) (hb : EvG m tb Γ (rL (hs.map dI))) (hc : EvG m tc Γ (dI x)) : EvG m (tOp (rIx K) ta (tBM K "list" (rIndex K) tb (tCons tc tNil))) Γ (dI (ledI hs ts x)) := by
  obtain ⟨h1, h2, h3⟩ := idx_fst hx
  refine ev_ixL ha (ev_indexI hb hc h1 h2) (atN ?_)
  unfold ledI
  have h4 : hs.idxOf x < ts.length := by omega
  rw [List.getElem?_map, List.getD_eq_getElem?_getD, List.getElem?_eq_getElem h4] <;> rfl
theorem c_law_led (T : Ty w K mg) (D : Df K mg "_law_led" "_law_led" s_law_led) : Cal P w K mg base 1 "_law_led" (sp_law_led (K := K)) := by
  refine cal_of D sc_law_led (fun _ _ _ _ _ _ us hl => match us, hl with | [_, _, _], _ => rfl) (fun _ _ => rfl) (by decide) (fun f cdv A outer s H E hr => ⟨_, (pss_cons (ps_ret (pe_lcX (own := [("_law_cell", 3)]) rfl sc_law_led.nd (pi_seqK (K := K) rfl (pv 0)) (blkOk_by (N := ["_law_cells_here", "_law_here", "_law_there", "_law_cell"]) (sc := defScope s_law_led) (own := [("_law_cell", 3)]) (by decide +kernel)) (fun _ _ _ _ _ => (pg_nameX (i := 3) sc_law_led.nd rfl (.inl rfl) (.inr rfl))) (fun _ _ _ _ _ => pts_nil) (fun _ _ _ _ _ => (pe_tup (pa_cons (pe_ix (ix_seqK (K := K) rfl) (pv 2) (pe_indexK (K := K) rfl (pv 1) (pa_cons (pe_ix (ix_seqK (K := K) rfl) (pv 3) pe_int (fun _ _ => rfl)) pa_nil) rfl rfl rfl rfl rfl) (fun _ _ => rfl)) (pa_cons (pe_ix (ix_seqK (K := K) rfl) (pv 2) (pe_indexK (K := K) rfl (pv 1) (pa_cons (pe_ix (ix_seqK (K := K) rfl) (pv 3) pe_int (fun _ _ => rfl)) pa_nil) rfl rfl rfl rfl rfl) (fun _ _ => rfl)) pa_nil)))) (fun _ => rfl)))
  pss_nil), fun m B0 H0 ⟨cs, hs, ts⟩ Q hp ha q => ?_⟩)
  obtain ⟨h1, h2, h3⟩ := ha
  simp only at h1 h2 h3
  refine st_ret ((ev_lcA (xs := cs) (R0 := rCell K) (fun c => rCellN (ledC hs ts c)) (Nat.lt_of_le_of_lt h3 (by decide)) (ei_seqL (vr 0)) (fun c hc => ⟨_, _, tg_name, fun j hj => hj, ev_tupN (ea2 (ev_led (h1 c hc).1 h2 (vr 2) (vr 1) (ev_ixT (vr 3) kI (atN (n := 0) rfl))) (ev_led (h1 c hc).2 h2 (vr 2) (vr 1) (ev_ixT (vr 3) kI (atN (n := 1) rfl))))⟩)).to (by rw [List.map_map] <;> rfl)) q
end
end Sq
/-! Sq, part F26: the law's letters and kinds. -/
namespace Sq
open PySem PySem.Spec PyProof.Rows L2
section
variable {P : Program} {w : World} {K : PySem.W.Frag} {mg : Str → Option Value} {base : Heap} {m : Mt} {Γ : Gm} {ta tb te : TE}
abbrev a_nrc : Mt → Int × Cell → List Rp := fun _ z => [dI z.1, dI z.2.1, dI z.2.2]
abbrev sp_law_sort : Sp := spF a_nrc (fun _ => True) (fun _ z => rKd K (kdOf z.1 z.2))
theorem c_law_sort (T : Tx w K mg) (D : Df K mg "_law_sort" "_law_sort" s_law_sort) : Cal P w K mg base 1 "_law_sort" (sp_law_sort (K := K)) := by
  refine cal_of D sc_law_sort (fun _ _ _ _ _ _ us hl => match us, hl with | [_, _, _], _ => rfl) (fun _ _ => rfl) (by decide) (fun f cdv A outer s H E hr => ⟨_, (pss_cons (ps_asg (pe_callB (cr_sortD hr) (by rfl) T.b_sorted (by decide +kernel) (pa_cons (pe_lst (pa_cons (pv 1) (pa_cons (pv 2) (pa_cons (pe_op op_sub (pe_op op_sub (pv 0) pe_int) (pv 1)) (pa_cons (pe_op op_sub (pe_op op_sub (pv 0) pe_int) (pv 2)) pa_nil))))) pa_nil)) (pg_unK (K := K) rfl rfl rfl rfl (pgs_cons (pg_nameX (i := 3) sc_law_sort.nd rfl (.inl rfl) (.inr rfl)) (pgs_cons (pg_nameX (i := 4) sc_law_sort.nd rfl (.inl rfl) (.inr rfl)) (pgs_cons (pg_nameX (i := 5) sc_law_sort.nd rfl (.inl rfl) (.inr rfl)) (pgs_cons (pg_nameX (i := 6) sc_law_sort.nd rfl (.inl rfl) (.inr rfl)) pgs_nil))))))
  (pss_cons (ps_ret (pe_tup (pa_cons (pe_callB (call_min2 rfl) (by rfl) T.b_min (by decide +kernel) (pa_cons (pv 3) (pa_cons pe_int pa_nil))) (pa_cons (pe_callB (call_min2 rfl) (by rfl) T.b_min (by decide +kernel) (pa_cons (pe_op op_sub (pv 4) (pv 3)) (pa_cons pe_int pa_nil))) (pa_cons (pe_callB (call_min2 rfl) (by rfl) T.b_min (by decide +kernel) (pa_cons (pe_op op_sub (pv 5) (pv 4)) (pa_cons pe_int pa_nil))) pa_nil)))))
  pss_nil)), fun m B0 H0 ⟨n, c⟩ Q hp ha q => ?_⟩)
  refine st_asg (ev_quad (n := n) (c := c) (ea_cons (vr 1) (ea_cons (vr 2) (ea2 (ev_sub (ev_sub (vr 0) kI) (vr 1)) (ev_sub (ev_sub (vr 0) kI) (vr 2)))))) (tg_unL tgs4) ?_
  exact st_ret (ev_tup (ea_cons (ev_min (vr 3) kI) (ea2 (ev_min (ev_sub (vr 4) (vr 3)) kI) (ev_min (ev_sub (vr 5) (vr 4)) kI)))) q
abbrev sp_law_letters : Sp := spF a_nrc (fun _ => True) (fun _ z => rL ((quad z.1 z.2).map dI))
theorem c_law_letters (T : Tx w K mg) (D : Df K mg "_law_letters" "_law_letters" s_law_letters) : Cal P w K mg base 1 "_law_letters" sp_law_letters := by
  refine cal_of D sc_law_letters (fun _ _ _ _ _ _ us hl => match us, hl with | [_, _, _], _ => rfl) (fun _ _ => rfl) (by decide) (fun f cdv A outer s H E hr => ⟨_, (pss_cons (ps_ret (pe_callB (cr_sortD hr) (by rfl) T.b_sorted (by decide +kernel) (pa_cons (pe_lst (pa_cons (pv 1) (pa_cons (pv 2) (pa_cons (pe_op op_sub (pe_op op_sub (pv 0) pe_int) (pv 1)) (pa_cons (pe_op op_sub (pe_op op_sub (pv 0) pe_int) (pv 2)) pa_nil))))) pa_nil)))
  pss_nil), fun m B0 H0 ⟨n, c⟩ Q hp ha q => ?_⟩)
  exact st_ret ((ev_quad (n := n) (c := c) (ea_cons (vr 1) (ea_cons (vr 2) (ea2 (ev_sub (ev_sub (vr 0) kI) (vr 1)) (ev_sub (ev_sub (vr 0) kI) (vr 2)))))).to (by rw [quad_eq] <;> rfl)) q
end
end Sq
/-! Sq, part F27: the law's cells. -/
namespace Sq
open PySem PySem.Spec PyProof.Rows L2
section
variable {P : Program} {w : World} {K : PySem.W.Frag} {mg : Str → Option Value} {base : Heap} {m : Mt} {Γ : Gm} {ta tb te : TE}
abbrev sp_law_cells : Sp := spF a_nrc (fun _ => True) (fun _ z => rL ((cells8 z.1 z.2.1 z.2.2).map rCellN))
theorem c_law_cells (T : Tx w K mg) (D : Df K mg "_law_cells" "_law_cells" s_law_cells) : Cal P w K mg base 1 "_law_cells" sp_law_cells := by
  refine cal_of D sc_law_cells (fun _ _ _ _ _ _ us hl => match us, hl with | [_, _, _], _ => rfl) (fun _ _ => rfl) (by decide) (fun f cdv A outer s H E hr => ⟨_, (pss_cons (ps_par (i := 3) (j := 4) rfl sc_law_cells.nd rfl rfl (by decide) rfl rfl (pa_cons (pe_op op_sub (pe_op op_sub (pv 0) pe_int) (pv 1)) (pa_cons (pe_op op_sub (pe_op op_sub (pv 0) pe_int) (pv 2)) pa_nil)) (by rfl))
  (pss_cons (ps_set (i := 5) sc_law_cells.nd rfl (.inl rfl) (pe_lst (pa_cons (pe_tup (pa_cons (pv 1) (pa_cons (pv 2) pa_nil))) (pa_cons (pe_tup (pa_cons (pv 2) (pa_cons (pv 1) pa_nil))) (pa_cons (pe_tup (pa_cons (pv 1) (pa_cons (pv 4) pa_nil))) (pa_cons (pe_tup (pa_cons (pv 4) (pa_cons (pv 1) pa_nil))) (pa_cons (pe_tup (pa_cons (pv 3) (pa_cons (pv 2) pa_nil))) (pa_cons (pe_tup (pa_cons (pv 2) (pa_cons (pv 3) pa_nil))) (pa_cons (pe_tup (pa_cons (pv 3) (pa_cons (pv 4) pa_nil))) pa_nil)))))))))
  (pss_cons (ps_ret (pe_op op_addA (pv 5) (pe_lst (pa_cons (pe_tup (pa_cons (pv 4) (pa_cons (pv 3) pa_nil))) pa_nil))))
  pss_nil))), fun m B0 H0 ⟨n, r, c⟩ Q hp ha q => ?_⟩)
  refine st_par (Ra := dI (n - 1 - r)) (Rb := dI (n - 1 - c)) (by decide) (ea2 (ev_sub (ev_sub (vr 0) kI) (vr 1)) (ev_sub (ev_sub (vr 0) kI) (vr 2))) ?_
  refine st_set (R := rL ([(r, c), (c, r), (r, n - 1 - c), (n - 1 - c, r), (n - 1 - r, c), (c, n - 1 - r), (n - 1 - r, n - 1 - c)].map rCellN)) (ev_lst (ea_cons (ev_tupN (ea2 (vr 1) (vr 2))) (ea_cons (ev_tupN (ea2 (vr 2) (vr 1))) (ea_cons (ev_tupN (ea2 (vr 1) (vr 4))) (ea_cons (ev_tupN (ea2 (vr 4) (vr 1))) (ea_cons (ev_tupN (ea2 (vr 3) (vr 2))) (ea2 (ev_tupN (ea2 (vr 2) (vr 3))) (ev_tupN (ea2 (vr 3) (vr 4)))))))))) ?_
  exact st_ret ((ev_cat (vr 5) (ev_lst (ea1 (ev_tupN (ea2 (vr 4) (vr 3))))) (by show 8 ≤ sizeLine; decide)).to rfl) q
theorem cells_shapedL (cs : List Cell) : SeqAt.shaped (.list (cs.map cellD)) = true := by
  obtain ⟨h1, h2⟩ := cells_lay cs
  unfold SeqAt.shaped
  have h3 : (PyData.list (cs.map cellD)).depth ≤ 64 := by simp only [PyData.depth]; omega
  rw [decide_eq_true h3, Bool.and_true]
  exact h1
theorem cell_any (c : Cell) : ∀ cs : List Cell, ((cs.map cellD).any fun z => PyData.eqv z (cellD c)) = decide (c ∈ cs)
  | [] => rfl
  | d :: cs => by
    rw [List.map_cons, List.any_cons, cell_any c cs, cell_eqv, ← Bool.decide_or]
    exact dec_iff (by rw [List.mem_cons, eq_comm])
theorem ev_niC {c : Cell} {cs : List Cell} (ha : EvG m ta Γ (rCellN c)) (hb : EvG m tb Γ (rL (cs.map rCellN))) : EvG m (tOp (rNiA K) ta tb) Γ (dB (!decide (c ∈ cs))) :=
  ev_op ha hb (bin_now fun B H u v hp hu hv => ⟨_, rfl, fun Q q => by
    obtain ⟨a, xs, e, ea, ra⟩ := hv
    subst e
    refine .inr ⟨cellD c, cs.map cellD, hp.sub.dp (Le.trans le_Tn le_cd B u hu), .lst (SqL.of (hp.sub a _ ea)) (Sub.dpAll hp.sub (cells_dp ra)), by rfl, cells_shapedL cs, ?_⟩
    rw [cell_any]
    exact q⟩)
end
end Sq
/-! Sq, part F28: the law's orbit. -/
namespace Sq
open PySem PySem.Spec PyProof.Rows L2
theorem le_cle : PySem.W.dataLe false cellD = cle := PySem.W.dataLe_ii (β := Cell) Prod.fst Prod.snd
theorem ded_snoc (c : Cell) : ∀ (xs acc : List Cell), ded acc (xs ++ [c]) = if c ∈ ded acc xs then ded acc xs else ded acc xs ++ [c]
  | [], acc => by
    show ded acc [c] = _
    unfold ded
    split <;> rfl
  | x :: xs, acc => by
    rw [List.cons_append]
    unfold ded
    split
    · exact ded_snoc c xs acc
    · exact ded_snoc c xs _
section
variable {P : Program} {w : World} {K : PySem.W.Frag} {mg : Str → Option Value} {base : Heap} {m : Mt} {Γ : Gm} {ta tb te : TE}
abbrev sp_law_orbit : Sp := spF a_nrc (fun _ => True) (fun _ z => rL ((imgs z.1 z.2).map rCellN))
theorem c_law_orbit (T : Tx w K mg) (c_law_cells : Cal P w K mg base 1 "_law_cells" sp_law_cells) (D : Df K mg "_law_orbit" "_law_orbit" s_law_orbit) : Cal P w K mg base 2 "_law_orbit" sp_law_orbit := by
  refine cal_of D sc_law_orbit (fun _ _ _ _ _ _ us hl => match us, hl with | [_, _, _], _ => rfl) (fun _ _ => rfl) (by decide) (fun f cdv A outer s H E hr => ⟨_, (pss_cons (ps_set (i := 3) sc_law_orbit.nd rfl (.inl rfl) (pe_lst pa_nil))
  (pss_cons (ps_for PassesOwn.never rfl (pi_seqK (K := K) rfl (pe_callB (cr_sortD hr) (by rfl) T.b_sorted (by decide +kernel) (pa_cons (pe_cal c_law_cells hr (by decide) (by rfl) (pa_cons (pv 0) (pa_cons (pv 1) (pa_cons (pv 2) pa_nil)))) pa_nil))) (pg_nameX (i := 4) sc_law_orbit.nd rfl (.inl rfl) (.inr rfl))
  (pss_cons (ps_if (pt_cmpR (op_niK (K := K) hr rfl rfl) (pv 4) (pv 3) (by rfl))
  (pss_cons (ps_expr (pe_bm PySem.F.plainAttrs_list PySem.F.slot_list_append PySem.F.type_list_append mt_append (pv 3) (pa_cons (pv 4) pa_nil)))
  pss_nil)
  pss_nil)
  pss_nil))
  (pss_cons (ps_ret (pv 3))
  pss_nil))), fun m B0 H0 ⟨n, c⟩ Q hp ha q => ?_⟩)
  refine st_newL fun a => ?_
  refine st_forM (xs := (cells8 n c.1 c.2).mergeSort cle) (R0 := rCellN) (fun _ => [some (dI n), some (dI c.1), some (dI c.2), some (rV (.ref a)), none]) (fun J k => iLst J a ((ded [] (((cells8 n c.1 c.2).mergeSort cle).take k)).map rCellN)) fam_lst (ei_seqL ((ev_sorted (F := rCellN) (enc := cellD) (ev_call (n, c) trivial (ea_cons (vr 0) (ea2 (vr 1) (vr 2)))) (fun b _ => Le.trans le_Tn le_cd) (PySem.W.AllAlike.of fun b b' => by simp [PySem.W.alike, PySem.W.alikeAll, cellD]) (.inl fun d hd => ?_) (fun b _ => by simp [cellD, PyData.depth, PyData.depthAll])).to (by rw [le_cle]))) (.same (.same (.same (.same (.skip .nil))))) (fun J k x hJ hk => ⟨_, _, tg_name, ?_⟩) ?_
  · obtain ⟨b, _, rfl⟩ := List.mem_map.mp hd
    exact ⟨_, _, rfl⟩
  · have e := ded_snoc x (((cells8 n c.1 c.2).mergeSort cle).take k) []
    rw [show (((cells8 n c.1 c.2).mergeSort cle).take k) ++ [x] = ((cells8 n c.1 c.2).mergeSort cle).take (k + 1) by rw [List.take_add_one, hk] <;> rfl] at e
    refine st_ifO (j := 3) own_lst rfl (eb_B (ev_niC (vr 4) (vr 3))) (fun h => ?_) (fun h => ?_)
    · have h' : x ∉ ded [] (((cells8 n c.1 c.2).mergeSort cle).take k) := by simpa using h.symm
      rw [if_neg h'] at e
      refine st_app (vr 3) (vr 4) ?_ (st_nxt (st_to (.same (.same (.same (.same (.skip .nil))))) fun B H hi => ?_))
      · have h1 := ded_len (((cells8 n c.1 c.2).mergeSort cle).take k) []
        have h2 : (((cells8 n c.1 c.2).mergeSort cle).take k).length ≤ 8 := by rw [List.length_take, List.length_mergeSort]; exact Nat.min_le_right _ _
        rw [List.length_map]
        exact Nat.lt_of_le_of_lt (Nat.le_trans h1 (show 0 + _ ≤ 8 by omega)) (by decide)
      · rw [e, List.map_append]; exact hi
    · have h' : x ∈ ded [] (((cells8 n c.1 c.2).mergeSort cle).take k) := by simpa using h.symm
      rw [if_pos h'] at e
      refine st_nxt (st_to (.same (.same (.same (.same (.skip .nil))))) fun B H hi => ?_)
      rw [e]; exact hi
  · refine st_frz 3 rfl (st_ret ((vr 3).to ?_) q)
    rw [List.take_of_length_le (Nat.le_refl _)] <;> rfl
end
end Sq
/-! Sq, part F29: the law's steps. -/
namespace Sq
open PySem PySem.Spec PyProof.Rows L2
def lwRg (l : Lp) (n i : Int) : List Int := (List.range (endVal l.2.1 n i - endVal l.1 n i).toNat).map fun (k : Nat) => endVal l.1 n i + (k : Int)
def lwSt (l : Lp) (n i : Int) : List Int := if l.2.2 = true then (lwRg l n i).reverse else lwRg l n i
theorem end_bd {a : Nat} {n i : Int} (hn : 0 ≤ n ∧ n ≤ 15) (hi : -40 ≤ i ∧ i ≤ 40) : -100 ≤ endVal a n i ∧ endVal a n i ≤ 100 := by
  unfold endVal
  have h3 : a % 3 < 3 := Nat.mod_lt _ (by decide)
  have hb : -60 ≤ baseVal (a / 3) n i ∧ baseVal (a / 3) n i ≤ 60 := by
    unfold baseVal
    split <;> omega
  omega
section
variable {P : Program} {w : World} {K : PySem.W.Frag} {mg : Str → Option Value} {base : Heap} {m : Mt} {Γ : Gm} {ta tb te : TE}
abbrev sp_law_steps : Sp := spF (fun _ (z : Lp × Int × Int) => [rLoop K z.1, dI z.2.1, dI z.2.2]) (fun z => LpOk true z.1 ∧ (0 ≤ z.2.1 ∧ z.2.1 ≤ 15) ∧ (-40 ≤ z.2.2 ∧ z.2.2 ≤ 40)) (fun _ z => rL ((lwSt z.1 z.2.1 z.2.2).map dI))
theorem c_law_steps (T : Tx w K mg) (c_law_end : Cal P w K mg base 1 "_law_end" sp_law_end) (D : Df K mg "_law_steps" "_law_steps" s_law_steps) : Cal P w K mg base 2 "_law_steps" (sp_law_steps (K := K)) := by
  refine cal_of D sc_law_steps (fun _ _ _ _ _ _ us hl => match us, hl with | [_, _, _], _ => rfl) (fun _ _ => rfl) (by decide) (fun f cdv A outer s H E hr => ⟨_, (pss_cons (ps_par (i := 3) (j := 4) rfl sc_law_steps.nd rfl rfl (by decide) rfl rfl (pa_cons (pe_cal c_law_end hr (by decide) (by rfl) (pa_cons (pe_ix (ix_seqK (K := K) rfl) (pv 0) pe_int (fun _ _ => rfl)) (pa_cons (pv 1) (pa_cons (pv 2) pa_nil)))) (pa_cons (pe_cal c_law_end hr (by decide) (by rfl) (pa_cons (pe_ix (ix_seqK (K := K) rfl) (pv 0) pe_int (fun _ _ => rfl)) (pa_cons (pv 1) (pa_cons (pv 2) pa_nil)))) pa_nil)) (by rfl))
  (pss_cons (ps_set (i := 5) sc_law_steps.nd rfl (.inl rfl) (pe_listRg rfl (by rfl) T.b_list (prg_2 (by rfl) T.b_range (pv 3) (pv 4))))
  (pss_cons (ps_ret (pe_ifExp (pt_val (pe_ix (ix_seqK (K := K) rfl) (pv 0) pe_int (fun _ _ => rfl))) (pe_revL (pv 5)) (pv 5)))
  pss_nil))), fun m B0 H0 ⟨l, n, i⟩ Q hp ha q => ?_⟩)
  obtain ⟨h1, h2, h3⟩ := ha
  simp only at h1 h2 h3
  have b1 := end_bd (a := l.1) h2 h3
  have b2 := end_bd (a := l.2.1) h2 h3
  refine st_par (Ra := dI (endVal l.1 n i)) (Rb := dI (endVal l.2.1 n i)) (by decide) (ea2 (ev_call (l.1, n, i) h1.1 (ea_cons (ev_ixT (vr 0) kI (atN (n := 0) rfl)) (ea2 (vr 1) (vr 2)))) (ev_call (l.2.1, n, i) h1.2.1 (ea_cons (ev_ixT (vr 0) kI (atN (n := 1) rfl)) (ea2 (vr 1) (vr 2))))) ?_
  refine st_set (R := rL ((lwRg l n i).map dI)) ((ev_listRg (vr 3) (vr 4) ⟨by omega, by omega, by omega, by omega, by omega⟩).to (by unfold lwRg; rw [List.map_map] <;> rfl)) ?_
  refine st_ret (ev_if (eb_B (b := l.2.2) (ev_ixT (vr 0) kI (atN (n := 2) rfl))) (fun h => (ev_rev (vr 5)).to ?_) (fun h => (vr 5).to ?_)) q
  · unfold lwSt
    rw [if_pos h.symm, List.map_reverse]
  · unfold lwSt
    rw [if_neg (by rw [← h]; decide)]
end
end Sq
/-! Sq, part M1: letters. -/
namespace Sq
theorem sort_uniq {l k : List Int} (hp : k.Perm l) (hs : k.Pairwise (· ≤ ·)) : l.mergeSort (fun a b => decide (a ≤ b)) = k := by
  have h1 : (l.mergeSort (fun a b => decide (a ≤ b))).Pairwise (· ≤ ·) := by
    have := List.pairwise_mergeSort (le := fun a b : Int => decide (a ≤ b)) (fun a b c h k => by simp only [decide_eq_true_eq] at *; omega) (fun a b => by simp only [Bool.or_eq_true, decide_eq_true_eq]; omega) l
    exact this.imp fun h => of_decide_eq_true h
  exact List.Perm.eq_of_pairwise (fun a b _ _ h k => Int.le_antisymm h k) h1 hs ((List.mergeSort_perm _ _).trans hp.symm)
/-- the four numbers of a cell in order, told by the two lesser ones -/
def q4 (n x y : Int) : List Int := [x, y, n - 1 - y, n - 1 - x]
structure Lw (n : Int) (c : Cell) (x y : Int) : Prop where
  x0 : 0 ≤ x
  xy : x ≤ y
  yy : y ≤ n - 1 - y
  q : quad n c = q4 n x y
  nr : (Nr n x c.1 ∧ Nr n y c.2) ∨ (Nr n y c.1 ∧ Nr n x c.2)
theorem lw_of {n x y : Int} {c : Cell} (h0 : 0 ≤ x) (h1 : x ≤ y) (h2 : y ≤ n - 1 - y) (h : (Nr n x c.1 ∧ Nr n y c.2) ∨ (Nr n y c.1 ∧ Nr n x c.2)) : Lw n c x y := by
  refine ⟨h0, h1, h2, ?_, h⟩
  obtain ⟨a, b⟩ := c
  refine sort_uniq ?_ ?_
  · show [x, y, n - 1 - y, n - 1 - x].Perm [a, b, n - 1 - a, n - 1 - b]
    simp only at h
    have dd : ∀ z : Int, n - 1 - (n - 1 - z) = z := fun z => by omega
    have sw : ∀ {p q r s : Int}, [p, q, r, s].Perm [q, p, s, r] := fun {p q r s} => (List.Perm.swap q p [r, s]).trans (.cons _ (.cons _ (.swap s r [])))
    have s1 : ∀ {p q r s : Int}, [p, q, r, s].Perm [p, q, s, r] := fun {p q r s} => .cons _ (.cons _ (.swap s r []))
    have base : [x, y, n - 1 - y, n - 1 - x].Perm [x, y, n - 1 - x, n - 1 - y] := s1
    have m1 : ∀ {p q r s : Int}, [p, q, r, s].Perm [r, q, p, s] := fun {p q r s} => ((List.Perm.swap q p [r, s]).trans (.cons _ (.swap r p [s]))).trans (.swap r q [p, s])
    have m2 : ∀ {p q r s : Int}, [p, q, r, s].Perm [p, s, r, q] := fun {p q r s} => .cons _ (((List.Perm.swap r q [s]).trans (.cons _ (.swap s q []))).trans (.swap s r [q]))
    have key : ∀ {p q : Int}, Nr n p a → Nr n q b → [p, q, n - 1 - p, n - 1 - q].Perm [a, b, n - 1 - a, n - 1 - b] := fun {p q} hp hq => by
      rcases hp with e | e <;> rcases hq with e' | e' <;> subst e <;> subst e'
      · exact .refl _
      · rw [dd]; exact m2
      · rw [dd]; exact m1
      · rw [dd, dd]; exact m1.trans m2
    rcases h with ⟨ha, hb⟩ | ⟨ha, hb⟩
    · exact base.trans (key ha hb)
    · exact (base.trans sw).trans (key ha hb)
  · simp only [List.pairwise_cons, List.mem_cons, List.not_mem_nil, or_false, q4]
    refine ⟨?_, ?_, ?_, ?_, .nil⟩
    · rintro z (e | e | e) <;> omega
    · rintro z (e | e) <;> omega
    · rintro z e; omega
    · rintro z e; exact absurd e (by simp)
theorem lw_ex {n : Int} {c : Cell} (h : InT n c) : ∃ x y, Lw n c x y := by
  obtain ⟨a, b⟩ := c
  obtain ⟨h1, h2, h3, h4⟩ := h
  simp only at h1 h2 h3 h4
  have key : ∀ a : Int, 0 ≤ a → a < n → ∃ p, 0 ≤ p ∧ p ≤ n - 1 - p ∧ Nr n p a := fun a ha hb => by
    by_cases z : a ≤ n - 1 - a
    · exact ⟨a, ha, z, .inl rfl⟩
    · exact ⟨n - 1 - a, by omega, by omega, .inr (by omega)⟩
  obtain ⟨p, p0, p1, p2⟩ := key a h1 h2
  obtain ⟨q, q0, q1, q2⟩ := key b h3 h4
  by_cases z : p ≤ q
  · exact ⟨p, q, lw_of p0 z q1 (.inl ⟨p2, q2⟩)⟩
  · exact ⟨q, p, lw_of q0 (by omega) p1 (.inr ⟨p2, q2⟩)⟩
theorem nr_symm {n a x : Int} (h : Nr n a x) : Nr n x a := by unfold Nr at *; omega
/-- the images of a cell -/
theorem Lw.mem {n x y : Int} {c : Cell} (h : Lw n c x y) (d : Cell) : d ∈ imgs n c ↔ (Nr n x d.1 ∧ Nr n y d.2) ∨ (Nr n y d.1 ∧ Nr n x d.2) := by
  unfold imgs
  rw [mem_orb]
  obtain ⟨u, v⟩ := d
  rw [mem8]
  simp only
  constructor
  · rintro (⟨k1, k2⟩ | ⟨k1, k2⟩) <;> rcases h.nr with ⟨g1, g2⟩ | ⟨g1, g2⟩
    · exact .inl ⟨g1.trans k1, g2.trans k2⟩
    · exact .inr ⟨g1.trans k1, g2.trans k2⟩
    · exact .inr ⟨g2.trans k1, g1.trans k2⟩
    · exact .inl ⟨g2.trans k1, g1.trans k2⟩
  · rintro (⟨k1, k2⟩ | ⟨k1, k2⟩) <;> rcases h.nr with ⟨g1, g2⟩ | ⟨g1, g2⟩
    · exact .inl ⟨(nr_symm g1).trans k1, (nr_symm g2).trans k2⟩
    · exact .inr ⟨(nr_symm g2).trans k1, (nr_symm g1).trans k2⟩
    · exact .inr ⟨(nr_symm g2).trans k1, (nr_symm g1).trans k2⟩
    · exact .inl ⟨(nr_symm g1).trans k1, (nr_symm g2).trans k2⟩
/-- an image has the same numbers -/
theorem Lw.img {n x y : Int} {c d : Cell} (h : Lw n c x y) (hd : d ∈ imgs n c) : Lw n d x y := lw_of h.x0 h.xy h.yy ((h.mem d).mp hd)
theorem Lw.imgs_eq {n x y : Int} {c d : Cell} (h : Lw n c x y) (k : Lw n d x y) : imgs n d = imgs n c :=
  sorted_uniq (orb_sorted _) (orb_sorted _) fun z => (k.mem z).trans (h.mem z).symm
theorem Lw.inT {n x y : Int} {c : Cell} (h : Lw n c x y) : InT n c := by
  have h0 := h.x0
  have h1 := h.xy
  have h2 := h.yy
  unfold InT
  rcases h.nr with ⟨g1, g2⟩ | ⟨g1, g2⟩ <;> unfold Nr at g1 g2 <;> omega
theorem Lw.kd {n x y : Int} {c : Cell} (h : Lw n c x y) : kdOf n c = (mn x 1, mn (y - x) 2, mn (n - 1 - y - y) 3) := by
  unfold kdOf qd
  rw [h.q]
  rfl
/-- alike: the same numbers are equal -/
structure Alk (m x y n X Y : Int) : Prop where
  a : x = y ↔ X = Y
  b : y = m - 1 - y ↔ Y = n - 1 - Y
theorem alk_of {m x y n X Y : Int} {c C : Cell} (h : Lw m c x y) (H : Lw n C X Y) (e : kdOf m c = kdOf n C) : Alk m x y n X Y := by
  rw [h.kd, H.kd] at e
  injection e with e1 e
  injection e with e2 e3
  have h1 := h.xy
  have h2 := h.yy
  have h3 := H.xy
  have h4 := H.yy
  unfold mn at e2 e3
  constructor <;> constructor <;> intro z <;> split at e2 <;> split at e2 <;> split at e3 <;> split at e3 <;> omega
theorem led0 {hs ts : List Int} {h t : Int} : ledI (h :: hs) (t :: ts) h = t := by
  unfold ledI
  rw [List.idxOf_cons_self]
  rfl
theorem ledS {hs ts : List Int} {h t x : Int} (ne : h ≠ x) : ledI (h :: hs) (t :: ts) x = ledI hs ts x := by
  unfold ledI
  rw [List.idxOf_cons, show (h == x) = false from beq_eq_false_iff_ne.mpr ne]
  rfl
section
variable {m x y n X Y : Int}
theorem led_x : ledI (q4 m x y) (q4 n X Y) x = X := led0
theorem led_y (k : Alk m x y n X Y) : ledI (q4 m x y) (q4 n X Y) y = Y := by
  by_cases z : x = y
  · have e := k.a.mp z
    subst z e
    exact led0
  · unfold q4
    rw [ledS z]
    exact led0
theorem led_fy (k : Alk m x y n X Y) (h1 : x ≤ y) (h2 : y ≤ m - 1 - y) : ledI (q4 m x y) (q4 n X Y) (m - 1 - y) = n - 1 - Y := by
  by_cases z : y = m - 1 - y
  · have e := k.b.mp z
    have l := led_y k
    rw [← z, l]
    omega
  · unfold q4
    rw [ledS (by omega), ledS (by omega)]
    exact led0
theorem led_fx (k : Alk m x y n X Y) (h1 : x ≤ y) (h2 : y ≤ m - 1 - y) : ledI (q4 m x y) (q4 n X Y) (m - 1 - x) = n - 1 - X := by
  by_cases z : x = y
  · have e := k.a.mp z
    rw [show m - 1 - x = m - 1 - y by omega, led_fy k h1 h2]
    omega
  · unfold q4
    rw [ledS (by omega), ledS (by omega), ledS (by omega)]
    exact led0
def Ltr (n x y u : Int) : Prop := Nr n x u ∨ Nr n y u
/-- the map goes up, and only up -/
theorem led_lt (k : Alk m x y n X Y) (h1 : x ≤ y) (h2 : y ≤ m - 1 - y) (H1 : X ≤ Y) (H2 : Y ≤ n - 1 - Y) {u v : Int} (hu : Ltr m x y u) (hv : Ltr m x y v) : ledI (q4 m x y) (q4 n X Y) u < ledI (q4 m x y) (q4 n X Y) v ↔ u < v := by
  have e0 := led_x (m := m) (x := x) (y := y) (n := n) (X := X) (Y := Y)
  have e1 := led_y k
  have e2 := led_fy k h1 h2
  have e3 := led_fx k h1 h2
  have ka := k.a
  have kb := k.b
  generalize hf : ledI (q4 m x y) (q4 n X Y) = f at *
  rcases hu with (e | e) | (e | e) <;> rcases hv with (e' | e') | (e' | e') <;> subst e <;> subst e' <;> omega
theorem led_nr (k : Alk m x y n X Y) (h1 : x ≤ y) (h2 : y ≤ m - 1 - y) {u : Int} : (Nr m x u → Nr n X (ledI (q4 m x y) (q4 n X Y) u)) ∧ (Nr m y u → Nr n Y (ledI (q4 m x y) (q4 n X Y) u)) := by
  constructor
  · rintro (e | e)
    · subst e; rw [led_x]; exact .inl rfl
    · subst e; rw [led_fx k h1 h2]; exact .inr rfl
  · rintro (e | e)
    · subst e; rw [led_y k]; exact .inl rfl
    · subst e; rw [led_fy k h1 h2]; exact .inr rfl
theorem led_back (k : Alk m x y n X Y) (h1 : x ≤ y) (h2 : y ≤ m - 1 - y) {u : Int} : (Nr n X u → ∃ v, Nr m x v ∧ ledI (q4 m x y) (q4 n X Y) v = u) ∧ (Nr n Y u → ∃ v, Nr m y v ∧ ledI (q4 m x y) (q4 n X Y) v = u) := by
  constructor
  · rintro (e | e)
    · exact ⟨x, .inl rfl, by rw [led_x, e]⟩
    · exact ⟨m - 1 - x, .inr rfl, by rw [led_fx k h1 h2, e]⟩
  · rintro (e | e)
    · exact ⟨y, .inl rfl, by rw [led_y k, e]⟩
    · exact ⟨m - 1 - y, .inr rfl, by rw [led_fy k h1 h2, e]⟩
end
section
variable {m n x y X Y : Int} {c C : Cell}
/-- cells whose numbers are letters -/
def LtC (n x y : Int) (d : Cell) : Prop := Ltr n x y d.1 ∧ Ltr n x y d.2
theorem Lw.ltc (h : Lw m c x y) {d : Cell} (hd : d ∈ imgs m c) : LtC m x y d := by
  rcases (h.mem d).mp hd with ⟨g1, g2⟩ | ⟨g1, g2⟩
  · exact ⟨.inl g1, .inr g2⟩
  · exact ⟨.inr g1, .inl g2⟩
abbrev ld (m x y n X Y : Int) : Cell → Cell := ledC (q4 m x y) (q4 n X Y)
theorem ld_lt (h : Lw m c x y) (H : Lw n C X Y) (k : Alk m x y n X Y) {d e : Cell} (hd : LtC m x y d) (he : LtC m x y e) : clt (ld m x y n X Y d) (ld m x y n X Y e) ↔ clt d e := by
  have g1 := led_lt k h.xy h.yy H.xy H.yy hd.1 he.1
  have g2 := led_lt k h.xy h.yy H.xy H.yy he.1 hd.1
  have g3 := led_lt k h.xy h.yy H.xy H.yy hd.2 he.2
  unfold clt ld ledC
  simp only
  generalize ledI (q4 m x y) (q4 n X Y) = f at *
  constructor
  · rintro (z | ⟨z1, z2⟩)
    · exact .inl (g1.mp z)
    · refine .inr ⟨?_, g3.mp z2⟩
      have n1 : ¬ d.1 < e.1 := fun w => by have := g1.mpr w; omega
      have n2 : ¬ e.1 < d.1 := fun w => by have := g2.mpr w; omega
      omega
  · rintro (z | ⟨z1, z2⟩)
    · exact .inl (g1.mpr z)
    · exact .inr ⟨by rw [z1], g3.mpr z2⟩
theorem clt_tri {d e : Cell} (h1 : ¬ clt d e) (h2 : ¬ clt e d) : d = e := by
  unfold clt at h1 h2
  exact Prod.ext (by omega) (by omega)
theorem ld_inj (h : Lw m c x y) (H : Lw n C X Y) (k : Alk m x y n X Y) {d e : Cell} (hd : LtC m x y d) (he : LtC m x y e) (q : ld m x y n X Y d = ld m x y n X Y e) : d = e := by
  refine clt_tri (fun w => ?_) (fun w => ?_)
  · have := (ld_lt h H k hd he).mpr w
    rw [q] at this
    exact clt_irrefl _ this
  · have := (ld_lt h H k he hd).mpr w
    rw [q] at this
    exact clt_irrefl _ this
/-- the images in the one table are those in the other one -/
theorem imgs_map (h : Lw m c x y) (H : Lw n C X Y) (k : Alk m x y n X Y) : imgs n C = (imgs m c).map (ld m x y n X Y) := by
  refine sorted_uniq (orb_sorted _) ?_ fun z => ?_
  · rw [List.pairwise_map]
    refine List.Pairwise.imp_of_mem (fun {d e} hd he w => ?_) (orb_sorted (cells8 m c.1 c.2))
    exact (ld_lt h H k (h.ltc hd) (h.ltc he)).mpr w
  · refine (H.mem z).trans ?_
    rw [List.mem_map]
    have l1 := fun u => led_nr k h.xy h.yy (u := u)
    have l2 := fun u => led_back k h.xy h.yy (u := u)
    constructor
    · obtain ⟨u, v⟩ := z
      rintro (⟨z1, z2⟩ | ⟨z1, z2⟩)
      · obtain ⟨a, a1, a2⟩ := (l2 u).1 z1
        obtain ⟨b, b1, b2⟩ := (l2 v).2 z2
        exact ⟨(a, b), (h.mem _).mpr (.inl ⟨a1, b1⟩), by unfold ld ledC; simp only [a2, b2]⟩
      · obtain ⟨a, a1, a2⟩ := (l2 u).2 z1
        obtain ⟨b, b1, b2⟩ := (l2 v).1 z2
        exact ⟨(a, b), (h.mem _).mpr (.inr ⟨a1, b1⟩), by unfold ld ledC; simp only [a2, b2]⟩
    · rintro ⟨d, hd, rfl⟩
      rcases (h.mem d).mp hd with ⟨z1, z2⟩ | ⟨z1, z2⟩
      · exact .inl ⟨(l1 _).1 z1, (l1 _).2 z2⟩
      · exact .inr ⟨(l1 _).2 z1, (l1 _).1 z2⟩
end
/-! ### the smallest table of a kind -/
def KdOk (k : Kd) : Prop := (0 ≤ k.1 ∧ k.1 ≤ 1) ∧ (0 ≤ k.2.1 ∧ k.2.1 ≤ 2) ∧ (0 ≤ k.2.2 ∧ k.2.2 ≤ 3)
theorem Lw.kdOk {n x y : Int} {c : Cell} (h : Lw n c x y) : KdOk (kdOf n c) := by
  rw [h.kd]
  have h0 := h.x0
  have h1 := h.xy
  have h2 := h.yy
  unfold KdOk mn
  simp only
  refine ⟨?_, ?_, ?_⟩ <;> split <;> omega
theorem lw_small {k : Kd} (h : KdOk k) : Lw (lsz k) (cnr k) k.1 (k.1 + k.2.1) := by
  unfold KdOk at h
  refine lw_of (by omega) (by omega) (by unfold lsz; omega) (.inl ⟨.inl rfl, .inl rfl⟩)
theorem kd_small {k : Kd} (h : KdOk k) : kdOf (lsz k) (cnr k) = k := by
  rw [(lw_small h).kd]
  obtain ⟨a, b, c⟩ := k
  unfold KdOk at h
  unfold lsz mn
  simp only at h ⊢
  refine Prod.ext ?_ (Prod.ext ?_ ?_) <;> simp only <;> split <;> omega
theorem kd_mem {k : Kd} (h : KdOk k) : k ∈ kinds := by
  obtain ⟨a, b, c⟩ := k
  unfold KdOk at h
  simp only at h
  unfold kinds
  refine List.mem_map.mpr ⟨(12 * a + 4 * b + c).toNat, List.mem_range.mpr (by omega), ?_⟩
  refine Prod.ext ?_ (Prod.ext ?_ ?_) <;> simp only <;> omega
end Sq
/-! Sq, part M2: falling. -/
namespace Sq
/-! ### falling at greater sizes, by the sizes 6 and 7 -/
/-- the worth of a bound, by 2 more, where i is s - 1 -/
def bsN (b n s : Nat) : Nat := match b with
  | 0 => 1 | 1 => n / 2 + 1 | 2 => (n + 1) / 2 + 1 | 3 => n + 1 | 4 => s | _ => n + 2 - s
def vN (a n s : Nat) : Nat := bsN (a / 3) n s + a % 3
def badN (c d n s : Nat) : Bool := Nat.blt (vN c n s) (vN d n s) && (Nat.beq s 0 || Nat.ble (n + 1) s || Nat.blt (vN c n s) 2 || Nat.blt (n + 2) (vN d n s))
def rngN (a b n s : Nat) : Bool := Nat.ble (vN a n s) (s + 1) && Nat.blt (s + 1) (vN b n s)
def mskN (f : Nat → Bool) : Nat → Nat
  | 0 => 0
  | k + 1 => mskN f k ||| (if f k = true then 1 <<< k else 0)
theorem msk_bit (f : Nat → Bool) (s : Nat) : ∀ k, (mskN f k).testBit s = (decide (s < k) && f s)
  | 0 => by simp [mskN]
  | k + 1 => by
    unfold mskN
    rw [Nat.testBit_or, msk_bit f s k]
    by_cases e : s = k
    · subst e
      cases h : f s <;> simp [Nat.testBit_shiftLeft]
    · have h1 : (if f k = true then 1 <<< k else 0).testBit s = false := by
        split
        · rw [Nat.one_shiftLeft, Nat.testBit_two_pow_of_ne (Ne.symm e)]
        · exact Nat.zero_testBit s
      rw [h1, Bool.or_false]
      congr 1
      exact decide_eq_decide.mpr (by omega)
def outV (q : Nat) : List Nat := (List.range 10).map fun k => mskN (rngN (q / 12) (q % 12) (6 + k)) (6 + k + 2)
def inV18 (q : Nat) : List Nat := (List.range 10).map fun k => mskN (badN (q / 18) (q % 18) (6 + k)) (6 + k + 2)
def outTab : List (List Nat) := [[0, 0, 0, 0, 0, 0, 0, 0, 0, 0], [1, 1, 1, 1, 1, 1, 1, 1, 1, 1], [3, 3, 3, 3, 3, 3, 3, 3, 3, 3], [7, 7, 15, 15, 31, 31, 63, 63, 127, 127], [15, 15, 31, 31, 63, 63, 127, 127, 255, 255], [31, 31, 63, 63, 127, 127, 255, 255, 511, 511], [7, 15, 15, 31, 31, 63, 63, 127, 127, 255], [15, 31, 31, 63, 63, 127, 127, 255, 255, 511], [31, 63, 63, 127, 127, 255, 255, 511, 511, 1023], [63, 127, 255, 511, 1023, 2047, 4095, 8191, 16383, 32767], [127, 255, 511, 1023, 2047, 4095, 8191, 16383, 32767, 65535], [255, 511, 1023, 2047, 4095, 8191, 16383, 32767, 65535, 131071], [2, 2, 2, 2, 2, 2, 2, 2, 2, 2], [6, 6, 14, 14, 30, 30, 62, 62, 126, 126], [14, 14, 30, 30, 62, 62, 126, 126, 254, 254], [30, 30, 62, 62, 126, 126, 254, 254, 510, 510], [6, 14, 14, 30, 30, 62, 62, 126, 126, 254], [14, 30, 30, 62, 62, 126, 126, 254, 254, 510], [30, 62, 62, 126, 126, 254, 254, 510, 510, 1022], [62, 126, 254, 510, 1022, 2046, 4094, 8190, 16382, 32766], [126, 254, 510, 1022, 2046, 4094, 8190, 16382, 32766, 65534], [254, 510, 1022, 2046, 4094, 8190, 16382, 32766, 65534, 131070], [4, 4, 12, 12, 28, 28, 60, 60, 124, 124], [12, 12, 28, 28, 60, 60, 124, 124, 252, 252], [28, 28, 60, 60, 124, 124, 252, 252, 508, 508], [4, 12, 12, 28, 28, 60, 60, 124, 124, 252], [12, 28, 28, 60, 60, 124, 124, 252, 252, 508], [28, 60, 60, 124, 124, 252, 252, 508, 508, 1020], [60, 124, 252, 508, 1020, 2044, 4092, 8188, 16380, 32764], [124, 252, 508, 1020, 2044, 4092, 8188, 16380, 32764, 65532], [252, 508, 1020, 2044, 4092, 8188, 16380, 32764, 65532, 131068], [8, 8, 16, 16, 32, 32, 64, 64, 128, 128], [24, 24, 48, 48, 96, 96, 192, 192, 384, 384], [0, 8, 0, 16, 0, 32, 0, 64, 0, 128], [8, 24, 16, 48, 32, 96, 64, 192, 128, 384], [24, 56, 48, 112, 96, 224, 192, 448, 384, 896], [56, 120, 240, 496, 992, 2016, 4032, 8128, 16256, 32640], [120, 248, 496, 1008, 2016, 4064, 8128, 16320, 32640, 65408], [248, 504, 1008, 2032, 4064, 8160, 16320, 32704, 65408, 130944], [16, 16, 32, 32, 64, 64, 128, 128, 256, 256], [0, 16, 0, 32, 0, 64, 0, 128, 0, 256], [16, 48, 32, 96, 64, 192, 128, 384, 256, 768], [48, 112, 224, 480, 960, 1984, 3968, 8064, 16128, 32512], [112, 240, 480, 992, 1984, 4032, 8064, 16256, 32512, 65280], [240, 496, 992, 2016, 4032, 8128, 16256, 32640, 65280, 130816], [0, 32, 0, 64, 0, 128, 0, 256, 0, 512], [32, 96, 192, 448, 896, 1920, 3840, 7936, 15872, 32256], [96, 224, 448, 960, 1920, 3968, 7936, 16128, 32256, 65024], [224, 480, 960, 1984, 3968, 8064, 16128, 32512, 65024, 130560], [8, 0, 16, 0, 32, 0, 64, 0, 128, 0], [24, 16, 48, 32, 96, 64, 192, 128, 384, 256], [8, 16, 16, 32, 32, 64, 64, 128, 128, 256], [24, 48, 48, 96, 96, 192, 192, 384, 384, 768], [56, 112, 240, 480, 992, 1984, 4032, 8064, 16256, 32512], [120, 240, 496, 992, 2016, 4032, 8128, 16256, 32640, 65280], [248, 496, 1008, 2016, 4064, 8128, 16320, 32640, 65408, 130816], [16, 0, 32, 0, 64, 0, 128, 0, 256, 0], [16, 32, 32, 64, 64, 128, 128, 256, 256, 512], [48, 96, 224, 448, 960, 1920, 3968, 7936, 16128, 32256], [112, 224, 480, 960, 1984, 3968, 8064, 16128, 32512, 65024], [240, 480, 992, 1984, 4032, 8064, 16256, 32512, 65280, 130560], [32, 64, 192, 384, 896, 1792, 3840, 7680, 15872, 31744], [96, 192, 448, 896, 1920, 3840, 7936, 15872, 32256, 64512], [224, 448, 960, 1920, 3968, 7936, 16128, 32256, 65024, 130048], [64, 128, 256, 512, 1024, 2048, 4096, 8192, 16384, 32768], [192, 384, 768, 1536, 3072, 6144, 12288, 24576, 49152, 98304], [128, 256, 512, 1024, 2048, 4096, 8192, 16384, 32768, 65536]]
def inTab : List (List Nat) := [[0, 0, 0, 0, 0, 0, 0, 0, 0, 0], [255, 511, 1023, 2047, 4095, 8191, 16383, 32767, 65535, 131071], [252, 508, 1020, 2044, 4092, 8188, 16380, 32764, 65532, 131068], [254, 510, 1022, 2046, 4094, 8190, 16382, 32766, 65534, 131070], [127, 255, 511, 1023, 2047, 4095, 8191, 16383, 32767, 65535], [129, 257, 513, 1025, 2049, 4097, 8193, 16385, 32769, 65537], [128, 256, 512, 1024, 2048, 4096, 8192, 16384, 32768, 65536], [1, 1, 1, 1, 1, 1, 1, 1, 1, 1], [131, 259, 515, 1027, 2051, 4099, 8195, 16387, 32771, 65539], [3, 3, 3, 3, 3, 3, 3, 3, 3, 3], [0, 257, 0, 1025, 0, 4097, 0, 16385, 0, 65537], [129, 0, 513, 0, 2049, 0, 8193, 0, 32769, 0]]
theorem out_in : ((List.range 144).all fun q => outTab.contains (outV q)) = true := by decide +kernel
theorem in_in : ((List.range 324).all fun q => inTab.contains (inV18 q)) = true := by decide +kernel
theorem tab_ok : (outTab.all fun o => inTab.all fun i => (List.range 10).all fun k => Nat.beq (o.getD (k % 2) 0 &&& i.getD (k % 2) 0) 0 || !Nat.beq (o.getD k 0 &&& i.getD k 0) 0) = true := by decide +kernel

theorem v_eq {a n s : Nat} (ha : a < 18) (hs : s ≤ n + 1) : ((vN a n s : Nat) : Int) = endVal a n ((s : Int) - 1) + 2 := by
  unfold vN endVal
  have h3 : a % 3 < 3 := Nat.mod_lt _ (by decide)
  have hc : a / 3 = 0 ∨ a / 3 = 1 ∨ a / 3 = 2 ∨ a / 3 = 3 ∨ a / 3 = 4 ∨ a / 3 = 5 := by omega
  rcases hc with e | e | e | e | e | e <;> rw [e] <;> simp only [baseVal, bsN] <;> omega
theorem end_o {a : Nat} (ha : a < 12) (n i j : Int) : endVal a n i = endVal a n j := by
  unfold endVal
  have hc : a / 3 = 0 ∨ a / 3 = 1 ∨ a / 3 = 2 ∨ a / 3 = 3 := by omega
  rcases hc with e | e | e | e <;> rw [e] <;> rfl
theorem hi_lt {l : Lp} {n i x : Int} (h : lo l n i ≤ x) : x < hi l n i ↔ x < endVal l.2.1 n i := by
  unfold lo at h
  unfold hi
  split <;> omega
theorem out_eq {z : Ns} (h2 : LpOk true z.below) {n s : Nat} (hs : s ≤ n + 1) : outAt z n ((s : Int) - 1) = badN z.below.1 z.below.2.1 n s := by
  have e1 := v_eq h2.1 hs
  have e2 := v_eq h2.2.1 hs
  unfold outAt badN
  have hl : lo z.below n ((s : Int) - 1) = (vN z.below.1 n s : Int) - 2 := by unfold lo; omega
  by_cases hlt : vN z.below.1 n s < vN z.below.2.1 n s
  · have hh : hi z.below n ((s : Int) - 1) = (vN z.below.2.1 n s : Int) - 2 := by unfold hi; rw [if_pos (by omega)]; omega
    rw [hl, hh]
    have b1 : Nat.blt (vN z.below.1 n s) (vN z.below.2.1 n s) = true := Nat.blt_eq.mpr hlt
    rw [b1, decide_eq_true (by omega), Bool.true_and, Bool.true_and, Bool.or_assoc, Bool.or_assoc]
    congr 1
    · rw [Bool.eq_iff_iff]; simp only [decide_eq_true_eq, Nat.beq_eq]; omega
    · congr 1
      · rw [Bool.eq_iff_iff]; simp only [decide_eq_true_eq, Nat.ble_eq]; omega
      · congr 1
        · rw [Bool.eq_iff_iff]; simp only [decide_eq_true_eq, Nat.blt_eq]; omega
        · rw [Bool.eq_iff_iff]; simp only [decide_eq_true_eq, Nat.blt_eq]; omega
  · have hh : ¬ lo z.below n ((s : Int) - 1) < hi z.below n ((s : Int) - 1) := by
      intro h
      have := (hi_lt (Int.le_refl _)).mp h
      omega
    have b1 : Nat.blt (vN z.below.1 n s) (vN z.below.2.1 n s) = false := by
      cases hb : Nat.blt (vN z.below.1 n s) (vN z.below.2.1 n s) with
      | false => rfl
      | true => exact absurd (Nat.blt_eq.mp hb) hlt
    rw [b1, decide_eq_false hh, Bool.false_and, Bool.false_and]
/-- falling, as bits that meet -/
theorem fall_iff {z : Ns} (h1 : LpOk false z.over) (h2 : LpOk true z.below) (n : Nat) : fallN z n = true ↔ mskN (rngN z.over.1 z.over.2.1 n) (n + 2) &&& mskN (badN z.below.1 z.below.2.1 n) (n + 2) ≠ 0 := by
  have h12 := h1.2.2.resolve_left fun z => nomatch z
  have bd := lohi_bd h1 (show (0 : Int) ≤ n by omega) 0
  have ea : ∀ s : Nat, s ≤ n + 1 → ((vN z.over.1 n s : Nat) : Int) = lo z.over n 0 + 2 := fun s hs => by rw [v_eq h1.1 hs]; unfold lo; rw [end_o h12.1 n ((s : Int) - 1) 0]
  have eb : ∀ s : Nat, s ≤ n + 1 → ((vN z.over.2.1 n s : Nat) : Int) = endVal z.over.2.1 n 0 + 2 := fun s hs => by rw [v_eq h1.2.1 hs, end_o h12.2 n ((s : Int) - 1) 0]
  constructor
  · intro h
    obtain ⟨k, hk, ho⟩ := List.any_eq_true.mp h
    have hk' := List.mem_range.mp hk
    have hs : (lo z.over n 0 + (k : Int) + 1).toNat ≤ n + 1 := by omega
    generalize es : (lo z.over n 0 + (k : Int) + 1).toNat = s at hs
    have ei : lo z.over n 0 + (k : Int) = (s : Int) - 1 := by omega
    rw [ei, out_eq h2 hs] at ho
    intro h0
    have hb := congrArg (fun x => Nat.testBit x s) h0
    simp only [Nat.testBit_and, msk_bit, Nat.zero_testBit] at hb
    rw [ho, decide_eq_true (show s < n + 2 by omega)] at hb
    have hr : rngN z.over.1 z.over.2.1 n s = true := by
      unfold rngN
      have l1 : lo z.over n 0 ≤ (s : Int) - 1 := by omega
      have l2 : (s : Int) - 1 < hi z.over n 0 := by omega
      have l3 := (hi_lt l1).mp l2
      have a1 := ea s hs
      have b1 := eb s hs
      rw [Bool.and_eq_true, Nat.ble_eq, Nat.blt_eq]
      omega
    rw [hr] at hb
    exact absurd hb (by decide)
  · intro h
    obtain ⟨s, hb⟩ := Nat.exists_testBit_of_ne_zero h
    rw [Nat.testBit_and, msk_bit, msk_bit] at hb
    simp only [Bool.and_eq_true, decide_eq_true_eq] at hb
    obtain ⟨⟨hs, hr⟩, _, ho⟩ := hb
    have hs' : s ≤ n + 1 := by omega
    unfold rngN at hr
    rw [Bool.and_eq_true, Nat.ble_eq, Nat.blt_eq] at hr
    have a1 := ea s hs'
    have b1 := eb s hs'
    have l1 : lo z.over n 0 ≤ (s : Int) - 1 := by omega
    have l2 : (s : Int) - 1 < hi z.over n 0 := (hi_lt l1).mpr (by omega)
    refine List.any_eq_true.mpr ⟨((s : Int) - 1 - lo z.over n 0).toNat, List.mem_range.mpr (by omega), ?_⟩
    rw [show lo z.over n 0 + ((((s : Int) - 1 - lo z.over n 0).toNat : Nat) : Int) = (s : Int) - 1 by omega, out_eq h2 hs']
    exact ho
theorem fall_up {z : Ns} (h1 : LpOk false z.over) (h2 : LpOk true z.below) {n : Nat} (hn : 6 ≤ n ∧ n ≤ 15) (hf : fallN z ((6 + n % 2 : Nat) : Int) = true) : fallN z (n : Int) = true := by
  rw [fall_iff h1 h2] at hf ⊢
  have h12 := h1.2.2.resolve_left fun z => nomatch z
  have c1 := List.all_eq_true.mp out_in (12 * z.over.1 + z.over.2.1) (List.mem_range.mpr (by omega))
  have c2 := List.all_eq_true.mp in_in (18 * z.below.1 + z.below.2.1) (List.mem_range.mpr (by have := h2.1; have := h2.2.1; omega))
  have t1 := List.all_eq_true.mp tab_ok _ (List.contains_iff_mem.mp c1)
  have t2 := List.all_eq_true.mp t1 _ (List.contains_iff_mem.mp c2)
  have t3 := List.all_eq_true.mp t2 (n - 6) (List.mem_range.mpr (by omega))
  have q1 : (12 * z.over.1 + z.over.2.1) / 12 = z.over.1 ∧ (12 * z.over.1 + z.over.2.1) % 12 = z.over.2.1 := by have := h12.2; omega
  have q2 : (18 * z.below.1 + z.below.2.1) / 18 = z.below.1 ∧ (18 * z.below.1 + z.below.2.1) % 18 = z.below.2.1 := by have := h2.2.1; omega
  have g : ∀ (f : Nat → Nat) (k : Nat), k < 10 → ((List.range 10).map f).getD k 0 = f k := fun f k hk => by
    rw [List.getD_eq_getElem?_getD, List.getElem?_map, List.getElem?_range hk] <;> rfl
  unfold outV inV18 at t3
  rw [g _ _ (show (n - 6) % 2 < 10 by omega), g _ _ (show (n - 6) % 2 < 10 by omega), g _ _ (show n - 6 < 10 by omega), g _ _ (show n - 6 < 10 by omega), q1.1, q1.2, q2.1, q2.2, show 6 + (n - 6) % 2 = 6 + n % 2 by omega, show 6 + (n - 6) = n by omega] at t3
  rw [Bool.or_eq_true, Nat.beq_eq] at t3
  rcases t3 with t | t
  · exact absurd t hf
  · intro e
    rw [e] at t
    exact absurd t (by decide)
/-! ### the law's own way to tell it -/
def lwTurns (z : Ns) (n : Int) : List Cell := (lwSt z.over n 0).flatMap fun i => (lwSt z.below n i).map fun j => (i, j)
def offT (n : Int) (c : Cell) : Bool := decide ((if c.2 < c.1 then c.2 else c.1) < 0) || decide (n ≤ (if c.2 > c.1 then c.2 else c.1))
def outB (p : List Ns) (n : Int) : Bool := p.any fun z => (lwTurns z n).any (offT n)
theorem mem_lwSt {l : Lp} {n i x : Int} : x ∈ lwSt l n i ↔ lo l n i ≤ x ∧ x < hi l n i := by
  have h : x ∈ lwRg l n i ↔ lo l n i ≤ x ∧ x < hi l n i := by
    unfold lwRg
    rw [List.mem_map]
    constructor
    · rintro ⟨k, hk, rfl⟩
      have hk' := List.mem_range.mp hk
      unfold lo hi
      split <;> omega
    · rintro ⟨g1, g2⟩
      have g3 := (hi_lt g1).mp g2
      unfold lo at g1
      exact ⟨(x - endVal l.1 n i).toNat, List.mem_range.mpr (by omega), by omega⟩
  unfold lwSt
  split
  · rw [List.mem_reverse]; exact h
  · exact h
theorem fall_off {z : Ns} {n : Int} (hf : fallN z n = true) : (lwTurns z n).any (offT n) = true := by
  obtain ⟨k, hk, ho⟩ := List.any_eq_true.mp hf
  have hk' := List.mem_range.mp hk
  generalize ei : lo z.over n 0 + (k : Int) = i at ho
  unfold outAt at ho
  simp only [Bool.and_eq_true, Bool.or_eq_true, decide_eq_true_eq] at ho
  obtain ⟨h1, h2⟩ := ho
  have hi0 : i ∈ lwSt z.over n 0 := mem_lwSt.mpr (by omega)
  have put : ∀ j, lo z.below n i ≤ j → j < hi z.below n i → offT n (i, j) = true → (lwTurns z n).any (offT n) = true := fun j g1 g2 g3 =>
    List.any_eq_true.mpr ⟨(i, j), List.mem_flatMap.mpr ⟨i, hi0, List.mem_map.mpr ⟨j, mem_lwSt.mpr ⟨g1, g2⟩, rfl⟩⟩, g3⟩
  have off : ∀ j, (i < 0 ∨ j < 0 ∨ n ≤ i ∨ n ≤ j) → offT n (i, j) = true := fun j g => by
    unfold offT
    simp only [Bool.or_eq_true, decide_eq_true_eq]
    split <;> split <;> omega
  rcases h2 with h | h | h | h
  · exact put _ (Int.le_refl _) h1 (off _ (.inl h))
  · exact put _ (Int.le_refl _) h1 (off _ (.inr (.inr (.inl h))))
  · exact put _ (Int.le_refl _) h1 (off _ (.inr (.inl h)))
  · exact put (hi z.below n i - 1) (by omega) (by omega) (off _ (.inr (.inr (.inr (by omega)))))
/-- the size at which the law looks -/
def farN (n : Int) : Int := if n < 14 then n else 14 + n % 2
theorem out_false {p : List Ns} (hp : ∀ z ∈ p, LpOk false z.over ∧ LpOk true z.below) {n : Int} (h1 : 1 ≤ n) (h : outB p (farN n) = false) : ∀ z ∈ p, fallN z (foldN n) = false := fun z hz => by
  obtain ⟨g1, g2⟩ := hp z hz
  have h3 := List.any_eq_false.mp h z hz
  cases e : fallN z (foldN n) with
  | false => rfl
  | true =>
    refine absurd (fall_off ?_) h3
    unfold farN
    unfold foldN at e
    by_cases h7 : n > 7
    · rw [if_pos h7] at e
      have key : ∀ k : Nat, 8 ≤ k → k ≤ 15 → (k : Int) % 2 = n % 2 → fallN z (k : Int) = true := fun k k1 k2 k3 => by
        refine fall_up g1 g2 ⟨by omega, k2⟩ ?_
        rw [← e]
        congr 1
        omega
      split
      · have := key n.toNat (by omega) (by omega) (by omega)
        rw [show ((n.toNat : Nat) : Int) = n by omega] at this
        exact this
      · have := key (14 + n % 2).toNat (by omega) (by omega) (by omega)
        rw [show (((14 + n % 2).toNat : Nat) : Int) = 14 + n % 2 by omega] at this
        exact this
    · rw [if_neg h7] at e
      rw [if_pos (by omega)]
      exact e
end Sq
/-! Sq, part M3: gaps; formulas by letters. -/
namespace Sq
open PySem PySem.Spec PyProof.Rows L2
theorem falls_fold {p : List Ns} {a b : Int} (h : foldN a = foldN b) : fallsB p a = fallsB p b := by unfold fallsB; rw [h]
theorem falls_no {p : List Ns} {n : Int} (h : ∀ z ∈ p, fallN z (foldN n) = false) : fallsB p n = false :=
  List.any_eq_false.mpr fun z hz => by rw [h z hz]; decide
theorem trs_at {p : List Ns} {k : Nat} (hk : k < 11) : bAt (trs p) k = fallsB p (1 + (k : Int)) := by
  unfold bAt trs
  rw [List.getD_eq_getElem?_getD, List.getElem?_map, List.getElem?_range hk] <;> rfl
theorem mem_where {p : List Ns} {v : Int} (h : v ∈ whereXs (trs p)) : fallsB p v = true := by
  obtain ⟨k, hk, rfl⟩ := List.mem_map.mp h
  obtain ⟨h1, h2⟩ := List.mem_filter.mp hk
  rw [trs_at (by have := List.mem_range.mp h1; omega)] at h2
  exact h2
/-- no size at which the program stays in its table is a gap -/
theorem gaps_no {p : List Ns} {g : Gp} (hg : GpOk (whereZ (trs p)) g) {n : Int} (h1 : 1 ≤ n) (h : ∀ z ∈ p, fallN z (foldN n) = false) : memG g n = false := by
  have hn := falls_no h
  obtain ⟨g1, g2, g3⟩ := hg
  have tl : ∀ (k : Nat) (b : Option Int), k = 10 ∨ k = 11 → n % 2 = (k : Int) % 2 → TlInv (whereXs (trs p)) (endOf (trs p) k) b → ∀ e, b = some e → ¬ e ≤ n := fun k b hk hm ht e he hle => by
    cases hb : endOf (trs p) k with
    | none => rw [ht.1 hb] at he; cases he
    | some i =>
      obtain ⟨e', x1, x2, x3, x4⟩ := ht.2 i hb
      rw [he] at x1
      obtain rfl : e = e' := Option.some.inj x1
      unfold endOf at hb
      split at hb
      case isFalse => cases hb
      case isTrue ht2 =>
        obtain rfl : (k : Int) = i := Option.some.inj hb
        rw [trs_at (by omega)] at ht2
        by_cases hlt : n < (k : Int)
        · have := mem_where (x4 n hle hlt (by omega))
          rw [hn] at this
          cases this
        · have e3 : foldN (1 + ((k - 1 : Nat) : Int)) = foldN n := by unfold foldN; rw [if_pos (by omega), if_pos (by omega)]; omega
          rw [falls_fold e3, hn] at ht2
          cases ht2
  unfold memG
  rw [Bool.or_eq_false_iff]
  constructor
  · refine decide_eq_false fun hm => ?_
    have := mem_where (g3 n hm)
    rw [hn] at this
    cases this
  · unfold goesB
    by_cases hm : n % 2 = 0
    · rw [if_pos hm]
      cases he : g.ev with
      | none => rfl
      | some e => exact decide_eq_false (tl 10 g.ev (.inl rfl) (by omega) g1 e he)
    · rw [if_neg hm]
      cases he : g.od with
      | none => rfl
      | some e => exact decide_eq_false (tl 11 g.od (.inr rfl) (by omega) g2 e he)
/-! ### cells in order -/
theorem row_cons (a b : Cell) (xs ys : List PyData) : PySem.W.rowLt (cellD a :: xs) (cellD b :: ys) = if a = b then PySem.W.rowLt xs ys else decide (clt a b) := by
  unfold PySem.W.rowLt
  rw [PySem.W.dataLt_cons (by simp [PySem.W.alike, PySem.W.alikeAll, cellD]), cell_eqv]
  by_cases h : a = b
  · rw [if_pos (decide_eq_true h), if_pos h]
  · rw [if_neg (by rw [decide_eq_false h]; decide), if_neg h]
    exact PySem.W.dataLt_ii a.1 a.2 b.1 b.2
theorem row_nil (b : PyData) (ys : List PyData) : PySem.W.rowLt [] (b :: ys) = true := by
  unfold PySem.W.rowLt
  rw [PySem.W.toks_all_cons]
  simp only [PySem.W.keyToksAll]
  rw [lex_diff (O := itemOrd) (by simp)]
  rfl
theorem row_nil2 (b : PyData) (ys : List PyData) : PySem.W.rowLt (b :: ys) [] = false := by
  unfold PySem.W.rowLt
  rw [PySem.W.toks_all_cons]
  simp only [PySem.W.keyToksAll]
  rw [lex_diff (O := itemOrd) (by simp)]
  rfl
section
variable {m n x y X Y : Int} {c C : Cell}
theorem row_map (h : Lw m c x y) (H : Lw n C X Y) (k : Alk m x y n X Y) : ∀ {ds es : List Cell}, (∀ d ∈ ds, LtC m x y d) → (∀ d ∈ es, LtC m x y d) → PySem.W.rowLt ((ds.map (ld m x y n X Y)).map cellD) ((es.map (ld m x y n X Y)).map cellD) = PySem.W.rowLt (ds.map cellD) (es.map cellD)
  | [], [], _, _ => rfl
  | [], e :: es, _, _ => by rw [List.map_nil, List.map_nil, List.map_cons, List.map_cons, List.map_cons, row_nil, row_nil]
  | d :: ds, [], _, _ => by rw [List.map_nil, List.map_nil, List.map_cons, List.map_cons, List.map_cons, row_nil2, row_nil2]
  | d :: ds, e :: es, hd, he => by
    have h1 := hd d List.mem_cons_self
    have h2 := he e List.mem_cons_self
    rw [List.map_cons, List.map_cons, List.map_cons, List.map_cons, List.map_cons, List.map_cons, row_cons, row_cons, row_map h H k (fun z hz => hd z (List.mem_cons_of_mem _ hz)) fun z hz => he z (List.mem_cons_of_mem _ hz)]
    by_cases q : d = e
    · rw [if_pos q, if_pos (by rw [q])]
    · rw [if_neg q, if_neg fun z => q (ld_inj h H k h1 h2 z)]
      exact dec_iff (ld_lt h H k h1 h2)
theorem le_map (h : Lw m c x y) (H : Lw n C X Y) (k : Alk m x y n X Y) {ds es : List Cell} (hd : ∀ d ∈ ds, LtC m x y d) (he : ∀ d ∈ es, LtC m x y d) : PySem.W.dataLe false encT ds es = PySem.W.dataLe false encT (ds.map (ld m x y n X Y)) (es.map (ld m x y n X Y)) := by
  have f : ∀ a b : List Cell, PySem.W.dataLe false encT a b = !PySem.W.rowLt (b.map cellD) (a.map cellD) := fun a b => by
    show (!PySem.W.dataLt (encT b) (encT a)) = _
    unfold encT
    rw [PySem.W.dataLt_tuple] <;> rfl
  rw [f, f, row_map h H k he hd]
theorem idx_map {α β : Type} [BEq α] [LawfulBEq α] [BEq β] [LawfulBEq β] (f : α → β) (a : α) : ∀ {xs : List α}, (∀ b ∈ xs, f b = f a → b = a) → (xs.map f).idxOf (f a) = xs.idxOf a
  | [], _ => rfl
  | b :: xs, hx => by
    rw [List.map_cons, List.idxOf_cons, List.idxOf_cons, idx_map f a fun z hz => hx z (List.mem_cons_of_mem _ hz)]
    by_cases q : b = a
    · subst q
      simp
    · have q2 : f b ≠ f a := fun z => q (hx b List.mem_cons_self z)
      rw [show (b == a) = false from beq_eq_false_iff_ne.mpr q, show (f b == f a) = false from beq_eq_false_iff_ne.mpr q2]
/-- the same cell in both tables -/
structure Two (m : Int) (c : Cell) (x y n : Int) (C : Cell) (X Y : Int) : Prop where
  l : Lw m c x y
  L : Lw n C X Y
  k : Alk m x y n X Y
  e : C = ld m x y n X Y c
theorem Two.imgs (t : Two m c x y n C X Y) : imgs n C = (imgs m c).map (ld m x y n X Y) := imgs_map t.l t.L t.k
theorem Two.len (t : Two m c x y n C X Y) : (Sq.imgs n C).length = (Sq.imgs m c).length := by rw [t.imgs, List.length_map]
theorem Two.idx (t : Two m c x y n C X Y) : idxC n C = idxC m c := by
  unfold idxC
  rw [t.imgs, t.e]
  exact idx_map _ _ fun d hd q => ld_inj t.l t.L t.k (t.l.ltc hd) (t.l.ltc (self_mem m c)) q
theorem pick_in {v : Int} (hb : ∀ k ∈ bitsOf v, k < (imgs m c).length) : ∀ d ∈ pick m c v, d ∈ imgs m c := fun d hd => by
  obtain ⟨k, hk, rfl⟩ := List.mem_map.mp hd
  rw [List.getD_eq_getElem?_getD, List.getElem?_eq_getElem (hb k hk)]
  exact List.getElem_mem _
theorem Two.pick (t : Two m c x y n C X Y) {v : Int} (hb : ∀ k ∈ bitsOf v, k < (Sq.imgs m c).length) : pick n C v = (pick m c v).map (ld m x y n X Y) := by
  unfold Sq.pick
  rw [List.map_map, t.imgs]
  refine List.map_congr_left fun k hk => ?_
  show ((Sq.imgs m c).map (ld m x y n X Y)).getD k (0, 0) = ld m x y n X Y ((Sq.imgs m c).getD k (0, 0))
  rw [List.getD_eq_getElem?_getD, List.getD_eq_getElem?_getD, List.getElem?_map, List.getElem?_eq_getElem (hb k hk)] <;> rfl
/-- the formula in the great table, by that in the small one -/
theorem Two.res (t : Two m c x y n C X Y) {ms : List Int} (hm : MvOk (Sq.imgs m c).length ms) : resV ms n C = (resV ms m c).map (List.map (ld m x y n X Y)) := by
  have hb : ∀ v ∈ leastC ms (idxC m c), ∀ k ∈ bitsOf ((v : Nat) : Int), k < (Sq.imgs m c).length := fun v hv k hk => by
    have h1 := (least_mem hv (mv_zero hm)).1
    rw [mv_len hm] at h1
    exact bits_lt h1 hk
  unfold resV
  rw [t.idx]
  rw [List.map_mergeSort (s := PySem.W.dataLe false encT) (f := List.map (ld m x y n X Y)), List.map_map]
  · congr 1
    exact List.map_congr_left fun v hv => t.pick (hb v hv)
  · intro a ha b hb2
    obtain ⟨v, hv, rfl⟩ := List.mem_map.mp ha
    obtain ⟨u, hu, rfl⟩ := List.mem_map.mp hb2
    exact le_map t.l t.L t.k (fun d hd => t.l.ltc (pick_in (hb v hv) d hd)) fun d hd => t.l.ltc (pick_in (hb u hu) d hd)
theorem reach_bits {ms : List Int} (hm : MvOk (imgs m c).length ms) (e j : Nat) : ∀ k ∈ bitsOf (reachV ms e j), k < (imgs m c).length := fun k hk => by
  have h1 := reach_bd (fun c => mv_bd hm c) e j
  obtain ⟨v, hv⟩ := Int.eq_ofNat_of_zero_le h1.1
  rw [hv] at hk h1
  exact bits_lt (by omega) hk
theorem Two.rea (t : Two m c x y n C X Y) {ms : List Int} (hm : MvOk (Sq.imgs m c).length ms) : reaV ms n C = (reaV ms m c).map (ld m x y n X Y) := by
  unfold reaV
  rw [t.idx]
  exact t.pick (reach_bits hm _ _)
theorem res_in {ms : List Int} (hm : MvOk (imgs m c).length ms) : ∀ cs ∈ resV ms m c, ∀ d ∈ cs, d ∈ imgs m c := fun cs hcs => by
  have h := (List.mergeSort_perm _ _).mem_iff.mp hcs
  obtain ⟨v, hv, rfl⟩ := List.mem_map.mp h
  refine pick_in fun k hk => ?_
  have h1 := (least_mem hv (mv_zero hm)).1
  rw [mv_len hm] at h1
  exact bits_lt h1 hk
theorem rea_in {ms : List Int} (hm : MvOk (imgs m c).length ms) : ∀ d ∈ reaV ms m c, d ∈ imgs m c := pick_in (reach_bits hm _ _)
end
end Sq
/-! Sq, part F30: the law's rounds, and whether one leaves the table. -/
namespace Sq
open PySem PySem.Spec PyProof.Rows L2
theorem flat_len {α β : Type} {f : α → List β} {B : Nat} : ∀ {xs : List α}, (∀ x ∈ xs, (f x).length ≤ B) → (xs.flatMap f).length ≤ xs.length * B
  | [], _ => Nat.zero_le _
  | x :: xs, h => by
    rw [List.flatMap_cons, List.length_append, List.length_cons, Nat.add_mul, Nat.one_mul]
    have := flat_len (xs := xs) fun y hy => h y (List.mem_cons_of_mem _ hy)
    have := h x List.mem_cons_self
    omega
theorem st_len {l : Lp} {n i : Int} (hn : 0 ≤ n ∧ n ≤ 15) (hi : -40 ≤ i ∧ i ≤ 40) : (lwSt l n i).length ≤ 200 := by
  have b1 := end_bd (a := l.1) hn hi
  have b2 := end_bd (a := l.2.1) hn hi
  have h : (lwRg l n i).length ≤ 200 := by
    unfold lwRg
    rw [List.length_map, List.length_range]
    omega
  unfold lwSt
  split
  · rw [List.length_reverse]; exact h
  · exact h
def lwRow (z : Ns) (n i : Int) : List Cell := (lwSt z.below n i).map fun j => (i, j)
theorem lwTurns_eq (z : Ns) (n : Int) : lwTurns z n = (lwSt z.over n 0).flatMap (lwRow z n) := rfl
theorem over_bd {z : Ns} (h : LpOk false z.over) {n i : Int} (hn : 0 ≤ n ∧ n ≤ 15) (hi : i ∈ lwSt z.over n 0) : -40 ≤ i ∧ i ≤ 40 := by
  obtain ⟨g1, g2⟩ := mem_lwSt.mp hi
  have := lohi_bd h hn.1 0
  omega
theorem flat_snoc {α β : Type} {f : α → List β} {xs : List α} {k : Nat} {x : α} (h : xs[k]? = some x) : (xs.take (k + 1)).flatMap f = (xs.take k).flatMap f ++ f x := by
  rw [List.take_add_one, h, List.flatMap_append]
  congr 1
  show List.flatMap f [x] = _
  rw [List.flatMap_cons, List.flatMap_nil, List.append_nil]
section
variable {P : Program} {w : World} {K : PySem.W.Frag} {mg : Str → Option Value} {base : Heap} {m : Mt} {Γ : Gm} {ta tb te : TE}
abbrev sp_law_turns : Sp := spF (fun _ (z : Ns × Int) => [rLns K z.1, dI z.2]) (fun z => NsOk z.1 ∧ (0 ≤ z.2 ∧ z.2 ≤ 15)) (fun _ z => rL ((lwTurns z.1 z.2).map (rCell K)))
theorem c_law_turns (T : Ty w K mg) (c_law_steps : Cal P w K mg base 2 "_law_steps" (sp_law_steps (K := K))) (D : Df K mg "_law_turns" "_law_turns" s_law_turns) : Cal P w K mg base 3 "_law_turns" (sp_law_turns (K := K)) := by
  refine cal_of D sc_law_turns (fun _ _ _ _ _ _ us hl => match us, hl with | [_, _], _ => rfl) (fun _ _ => rfl) (by decide) (fun f cdv A outer s H E hr => ⟨_, (pss_cons (ps_set (i := 2) sc_law_turns.nd rfl (.inl rfl) (pe_lst pa_nil))
  (pss_cons (ps_for PassesOwn.never rfl (pi_seqK (K := K) rfl (pe_cal c_law_steps hr (by decide) (by rfl) (pa_cons (pe_ix (ix_seqK (K := K) rfl) (pv 0) pe_int (fun _ _ => rfl)) (pa_cons (pv 1) (pa_cons pe_int pa_nil))))) (pg_nameX (i := 3) sc_law_turns.nd rfl (.inr rfl) (.inl rfl))
  (pss_cons (ps_set (i := 2) sc_law_turns.nd rfl (.inl rfl) (pe_op op_addA (pv 2) (pe_lcX (own := [("_law_j", 4)]) rfl sc_law_turns.nd (pi_seqK (K := K) rfl (pe_cal c_law_steps hr (by decide) (by rfl) (pa_cons (pe_ix (ix_seqK (K := K) rfl) (pv 0) pe_int (fun _ _ => rfl)) (pa_cons (pv 1) (pa_cons (pv 3) pa_nil))))) (blkOk_by (N := ["_law_nest_here", "_law_size", "_law_found", "_law_i", "_law_j"]) (sc := defScope s_law_turns) (own := [("_law_j", 4)]) (by decide +kernel)) (fun _ _ _ _ _ => (pg_nameX (i := 4) sc_law_turns.nd rfl (.inl rfl) (.inr rfl))) (fun _ _ _ _ _ => pts_nil) (fun _ _ _ _ _ => (pe_tup (pa_cons (pv 3) (pa_cons (pv 4) pa_nil)))) (fun _ => rfl))))
  pss_nil))
  (pss_cons (ps_ret (pv 2))
  pss_nil))), fun m B0 H0 ⟨z, n⟩ Q hp ha q => ?_⟩)
  obtain ⟨⟨h1, h2, _⟩, hn⟩ := ha
  simp only at h1 h2 hn
  have hs : sizeLine = 16777216 := sizeLine_eq
  refine st_set (R := rL []) (ev_lst ea_nil) ?_
  refine st_forM (xs := lwSt z.over n 0) (R0 := dI) (fun k => [some (rLns K z), some (dI n), some (rL ((((lwSt z.over n 0).take k).flatMap (lwRow z n)).map (rCell K))), none, none]) (fun J _ => J) fam_id (ei_seqL (ev_call (z.over, n, 0) ⟨lp_true h1, hn, (show -40 ≤ (0 : Int) ∧ (0 : Int) ≤ 40 by decide)⟩ (ea_cons (ev_ixT (vr 0) kI (atN (n := 0) rfl)) (ea2 (vr 1) kI)))) (.same (.same (.same (.skip (.skip .nil))))) (fun J k x hJ hk => ⟨_, _, tg_name, ?_⟩) ?_
  · have hx := List.mem_of_getElem? hk
    have bx := over_bd h1 hn hx
    have l1 : (((lwSt z.over n 0).take k).flatMap (lwRow z n)).length ≤ 200 * 200 := by
      have h3 := flat_len (B := 200) (f := lwRow z n) (xs := (lwSt z.over n 0).take k) fun y hy => by
        unfold lwRow
        rw [List.length_map]
        exact st_len hn (over_bd h1 hn (List.mem_of_mem_take hy))
      have h4 := st_len (l := z.over) (i := 0) hn (by decide)
      have h5 : ((lwSt z.over n 0).take k).length ≤ 200 := by rw [List.length_take]; omega
      have := Nat.mul_le_mul_right 200 h5
      omega
    have l2 := st_len (l := z.below) hn bx
    refine st_set (R := rL ((((lwSt z.over n 0).take (k + 1)).flatMap (lwRow z n)).map (rCell K))) ((ev_cat (vr 2) (ev_lcA (xs := lwSt z.below n x) (R0 := dI) (fun j => rCell K (x, j)) (by omega) (ei_seqL (ev_call (z.below, n, x) ⟨h2, hn, bx⟩ (ea_cons (ev_ixT (vr 0) kI (atN (n := 1) rfl)) (ea2 (vr 1) (vr 3))))) (fun j hj => ⟨_, _, tg_name, fun j hj => hj, ev_tup (ea2 (vr 3) (vr 4))⟩)) (by rw [List.length_map, List.length_map]; omega)).to ?_) (st_to (.same (.same (.same (.skip (.skip .nil))))) fun B H h => h)
    rw [flat_snoc hk, List.map_append]
    unfold lwRow
    rw [List.map_map] <;> rfl
  · refine st_ret ((vr 2).to ?_) q
    rw [List.take_of_length_le (Nat.le_refl _), lwTurns_eq]
abbrev sp_law_out : Sp := spF (fun _ (z : List Ns × Int) => [rPlan K z.1, dI z.2]) (fun z => PgOk z.1 ∧ (0 ≤ z.2 ∧ z.2 ≤ 15)) (fun _ z => dB (outB z.1 z.2))
theorem c_law_out (T : Ty w K mg) (c_law_turns : Cal P w K mg base 3 "_law_turns" (sp_law_turns (K := K))) (D : Df K mg "_law_out" "_law_out" s_law_out) : Cal P w K mg base 4 "_law_out" (sp_law_out (K := K)) := by
  refine cal_of D sc_law_out (fun _ _ _ _ _ _ us hl => match us, hl with | [_, _], _ => rfl) (fun _ _ => rfl) (by decide) (fun f cdv A outer s H E hr => ⟨_, (pss_cons (ps_for PassesOwn.never rfl (pi_seqK (K := K) rfl (pv 0)) (pg_nameX (i := 2) sc_law_out.nd rfl (.inl rfl) (.inr rfl))
  (pss_cons (ps_for PassesOwn.never rfl (pi_seqK (K := K) rfl (pe_cal c_law_turns hr (by decide) (by rfl) (pa_cons (pv 2) (pa_cons (pv 1) pa_nil)))) (pg_unK (K := K) rfl rfl rfl rfl (pgs_cons (pg_nameX (i := 3) sc_law_out.nd rfl (.inl rfl) (.inr rfl)) (pgs_cons (pg_nameX (i := 4) sc_law_out.nd rfl (.inl rfl) (.inr rfl)) pgs_nil)))
  (pss_cons (ps_if (PW.pt (pw_or (pt_cmpR op_lt (pe_callB (call_min2 rfl) (by rfl) T.b_min (by decide +kernel) (pa_cons (pv 3) (pa_cons (pv 4) pa_nil))) pe_int (nomark _)) (pw_or1 (pt_cmpR op_ge (pe_callB (call_max2 rfl) (by rfl) T.b_max (by decide +kernel) (pa_cons (pv 3) (pa_cons (pv 4) pa_nil))) (pv 1) (nomark _)))))
  (pss_cons (ps_ret pe_bl)
  pss_nil)
  pss_nil)
  pss_nil))
  pss_nil))
  (pss_cons (ps_ret pe_bl)
  pss_nil)), fun m B0 H0 ⟨p, n⟩ Q hp ha q => ?_⟩)
  obtain ⟨⟨hp1, hp2⟩, hn⟩ := ha
  simp only at hp1 hp2 hn
  have hq : Rt (I0 m B0 H0 hp) Q (dB (outB p n)) := q
  refine st_know (φ := ∀ z ∈ p.take 0, (lwTurns z n).any (offT n) = false) (fun z hz => absurd hz List.not_mem_nil) ?_
  refine st_forM (xs := p) (R0 := rLns K) (fun _ => [some (rPlan K p), some (dI n), none, none, none]) (fun J j => iFact J (∀ z ∈ p.take j, (lwTurns z n).any (offT n) = false)) fam_fact (ei_seqL (vr 0)) (LeG.refl _) (fun J j z hJ hj => ⟨_, _, tg_name, ?_⟩) ?_
  · refine st_fact fun hno => ?_
    have hz := hp1 z (List.mem_of_getElem? hj)
    refine st_know (φ := ∀ c ∈ (lwTurns z n).take 0, offT n c = false) (fun c hc => absurd hc List.not_mem_nil) ?_
    refine st_forM (xs := lwTurns z n) (R0 := rCell K) (fun _ => [some (rPlan K p), some (dI n), some (rLns K z), none, none]) (fun J i => iFact J (∀ c ∈ (lwTurns z n).take i, offT n c = false)) fam_fact (ei_seqL (ev_call (z, n) ⟨hz, hn⟩ (ea2 (vr 2) (vr 1)))) (.same (.same (.same (.skip (.skip .nil))))) (fun J2 i c hJ2 hi => ⟨_, _, tg_unT tgs2, ?_⟩) ?_
    · refine st_fact fun hno2 => ?_
      refine st_if (P := fun b => b = offT n c) (eb_orE (eb_test (ev_lt (ev_min (vr 3) (vr 4)) kI)) (fun _ => eb_test (ev_ge (ev_max (vr 3) (vr 4)) (vr 1)))) (fun h => ?_) (fun h => st_nxt (st_to (.same (.same (.same (.skip (.skip .nil))))) fun B H hi2 => ?_))
      · refine st_ret kB ((hq.of (fun B H h => hJ B H (hJ2 B H h))).le (le_eq (congrArg dB ?_)))
        exact (List.any_eq_true.mpr ⟨z, List.mem_of_getElem? hj, List.any_eq_true.mpr ⟨c, List.mem_of_getElem? hi, h.symm⟩⟩).symm
      · refine ⟨hi2, fun c' hc' => ?_⟩
        rw [List.take_add_one, hi] at hc'
        rcases List.mem_append.mp hc' with e | e
        · exact hno2 c' e
        · obtain rfl : c' = c := List.mem_singleton.mp e
          exact h.symm
    · refine st_fact fun hno3 => st_nxt (st_to (.same (.same (.skip (.skip (.skip .nil))))) fun B H hi2 => ?_)
      rw [List.take_of_length_le (Nat.le_refl _)] at hno3
      refine ⟨hi2, fun z' hz' => ?_⟩
      rw [List.take_add_one, hj] at hz'
      rcases List.mem_append.mp hz' with e | e
      · exact hno z' e
      · obtain rfl : z' = z := List.mem_singleton.mp e
        refine List.any_eq_false.mpr fun c hc => ?_
        rw [hno3 c hc]
        decide
  · refine st_fact fun hno => st_ret kB (hq.le (le_eq (congrArg dB ?_)))
    rw [List.take_of_length_le (Nat.le_refl _)] at hno
    refine (List.any_eq_false.mpr fun z hz => ?_).symm
    rw [hno z hz]
    decide
abbrev sp_law_outfar : Sp := spF (fun _ (z : List Ns × Int) => [rPlan K z.1, dI z.2]) (fun z => PgOk z.1 ∧ 1 ≤ z.2) (fun _ z => dB (outB z.1 (farN z.2)))
theorem c_law_outfar (T : Ty w K mg) (c_law_out : Cal P w K mg base 4 "_law_out" (sp_law_out (K := K))) (D : Df K mg "_law_outfar" "_law_outfar" s_law_outfar) : Cal P w K mg base 5 "_law_outfar" (sp_law_outfar (K := K)) := by
  refine cal_of D sc_law_outfar (fun _ _ _ _ _ _ us hl => match us, hl with | [_, _], _ => rfl) (fun _ _ => rfl) (by decide) (fun f cdv A outer s H E hr => ⟨_, (pss_cons (ps_ret (pe_cal c_law_out hr (by decide) (by rfl) (pa_cons (pv 0) (pa_cons (pe_ifExp (pt_cmpR op_lt (pv 1) pe_int (nomark _)) (pv 1) (pe_op op_addA pe_int (pe_op op_mod (pe_callTy call_int1 (by rfl) T.b_int (by decide +kernel) (pa_cons (pv 1) pa_nil)) pe_int))) pa_nil))))
  pss_nil), fun m B0 H0 ⟨p, n⟩ Q hp ha q => ?_⟩)
  obtain ⟨hp1, h1⟩ := ha
  simp only at hp1 h1
  refine st_ret (ev_call (p, farN n) ⟨hp1, by unfold farN; simp only; split <;> omega⟩ (ea2 (vr 0) (ev_if (eb_test (ev_lt (vr 1) kI)) (fun h => (vr 1).to ?_) (fun h => (ev_add kI (ev_mod (ev_int (vr 1)) kI (by decide))).to ?_)))) q
  · unfold farN
    rw [if_pos (of_decide_eq_true h.symm)]
  · unfold farN
    rw [if_neg (of_decide_eq_false h.symm)]
end
end Sq
/-! Sq, part F31: what is told by a letter; the list of two numbers that the draws change. -/
namespace Sq
open PySem PySem.Spec PyProof.Rows L2
section
variable {m : Mt} {Γ Δ Θ : Gm} {I J : Iv m} {D : Ends} {t u tb : TS} {te ta tc : TE} {tt : TT} {R S Ra Rb : Rp} {Rs Ss : List Rp} {i j : Nat} {K : PySem.W.Frag} {wi : TI} {g : TG} {gs : TGs} {vs : List Nat} {p : Addr}
theorem ev_opx {α : Type} {P : α → Prop} {F G : α → Rp} {r : R2} (ha : EvG m ta Γ (rEx P F)) (hb : EvG m tc Γ Rb) (hr : ∀ a, P a → Bin m r (F a) Rb (G a)) : EvG m (tOp r ta tc) Γ (rEx P G) := fun σ B H hs hp Q q =>
  ha σ B H hs hp _ fun x B1 H1 s1 ⟨a, pa, r1⟩ => hb σ B1 H1 (hs.mono s1.sub) (hp.step s1) _ fun y B2 H2 s2 r2 =>
    hr a pa B2 H2 x y ((hp.step s1).step s2) ((F a).mono s2.sub r1) r2 Q fun v B3 H3 s3 r3 => q v B3 H3 (Step.trans hp (Step.trans hp s1 s2) s3) ⟨a, pa, r3⟩
theorem ev_opy {α : Type} {P : α → Prop} {F G : α → Rp} {r : R2} (ha : EvG m ta Γ Ra) (hb : EvG m tc Γ (rEx P F)) (hr : ∀ a, P a → Bin m r Ra (F a) (G a)) : EvG m (tOp r ta tc) Γ (rEx P G) := fun σ B H hs hp Q q =>
  ha σ B H hs hp _ fun x B1 H1 s1 r1 => hb σ B1 H1 (hs.mono s1.sub) (hp.step s1) _ fun y B2 H2 s2 ⟨a, pa, r2⟩ =>
    hr a pa B2 H2 x y ((hp.step s1).step s2) (Ra.mono s2.sub r1) r2 Q fun v B3 H3 s3 r3 => q v B3 H3 (Step.trans hp (Step.trans hp s1 s2) s3) ⟨a, pa, r3⟩
/-! whole numbers of which something is known -/
abbrev rI1 (P : Int → Prop) : Rp := rEx P dI
abbrev Rg (a b : Int) : Int → Prop := fun x => a ≤ x ∧ x < b
theorem rI_le {P P' : Int → Prop} (h : ∀ x, P x → P' x) : Le (rI1 P) (rI1 P') := ex_le fun x hx => le_ex x (h x hx) (Le.refl _)
theorem ev_xadd {P P' : Int → Prop} (ha : EvG m ta Γ (rI1 P)) (hb : EvG m tc Γ (rI1 P')) : EvG m (tOp rAddA ta tc) Γ (rI1 fun z => ∃ x y, P x ∧ P' y ∧ z = x + y) :=
  ev_op ha hb (bin_now fun B H x y _ ⟨a, pa, hx⟩ ⟨b, pb, hy⟩ => ⟨.int (a + b), ⟨a + b, ⟨a, b, pa, pb, rfl⟩, rfl⟩, fun Q q => .inl ⟨a, b, hx, hy, q⟩⟩)
theorem ev_xmul {P P' : Int → Prop} (ha : EvG m ta Γ (rI1 P)) (hb : EvG m tc Γ (rI1 P')) (h : ∀ x y, P x → P' y → CMulX x y) : EvG m (tOp (rI CMulX fun i j => .int (i * j)) ta tc) Γ (rI1 fun z => ∃ x y, P x ∧ P' y ∧ z = x * y) :=
  ev_op ha hb (bin_now fun B H x y _ ⟨a, pa, hx⟩ ⟨b, pb, hy⟩ => ⟨.int (a * b), ⟨a * b, ⟨a, b, pa, pb, rfl⟩, rfl⟩, fun Q q => ⟨a, b, hx, hy, h a b pa pb, q⟩⟩)
theorem ev_xmod {P : Int → Prop} {n : Int} (ha : EvG m ta Γ (rI1 P)) (hb : EvG m tc Γ (dI n)) (h : 0 < n) : EvG m (tOp (rI (fun _ j => 0 < j) fun i j => .int (i % j)) ta tc) Γ (rI1 (Rg 0 n)) :=
  ev_op ha hb (bin_now fun B H x y _ ⟨a, pa, hx⟩ hy => ⟨.int (a % n), ⟨a % n, ⟨Int.emod_nonneg _ (by omega), Int.emod_lt_of_pos _ h⟩, rfl⟩, fun Q q => ⟨a, n, hx, hy, h, q⟩⟩)
theorem ev_xint {P : Int → Prop} (ha : EvG m ta Γ (rI1 P)) : EvG m (tCB rInt1 (tCons ta tNil)) Γ (rI1 P) := ev_cb (ea1 ha) (ca_now fun B H vs hp hv => by
  obtain ⟨v, rfl, a, pa, e⟩ := all1 hv
  obtain rfl : v = .int a := e
  exact ⟨_, ⟨a, pa, rfl⟩, fun Q q => .inl ⟨a, rfl, q⟩⟩)
theorem ev_kx {n : Int} (ha : EvG m ta Γ (dI n)) : EvG m ta Γ (rI1 (· = n)) := ha.le (le_ex n rfl (Le.refl _))
theorem eb_xeq {P : Int → Prop} {n : Int} (ha : EvG m ta Γ (rI1 P)) (hb : EvG m tc Γ (dI n)) : EvG m (tOp (rEqA K) ta tc) Γ (rEx (fun _ : Bool => True) dB) :=
  ev_op ha hb (bin_now fun B H x y _ ⟨a, pa, hx⟩ hy => ⟨.bl (decide (V.int a = V.int n)), ⟨_, trivial, rfl⟩, fun Q q => by
    obtain rfl : x = .int a := hx
    obtain rfl : y = .int n := hy
    exact .inl ⟨rfl, q⟩⟩)
/-- xs[k], k some place -/
theorem ev_ixE {α : Type} {xs : List α} {F : α → Rp} (ha : EvG m ta Γ (rL (xs.map F))) (hb : EvG m tc Γ (rI1 (Rg 0 xs.length))) : EvG m (tOp (rIx K) ta tc) Γ (rEx (fun x => x ∈ xs) F) :=
  ev_op ha hb (bin_now fun B H x y hp hx ⟨n, ⟨h0, h1⟩, hy⟩ => by
    obtain ⟨a, ys, rfl, ea, ra⟩ := hx
    obtain ⟨k, rfl⟩ := Int.eq_ofNat_of_zero_le h0
    have hk : k < xs.length := by omega
    obtain ⟨v, e, r⟩ := ra.at (i := k) (R := F xs[k]) (by rw [List.getElem?_map, List.getElem?_eq_getElem hk] <;> rfl)
    exact ⟨v, ⟨xs[k], List.getElem_mem hk, r⟩, fun Q q => .inl ⟨a, ys, k, v, rfl, hy, SqL.of (hp.sub a _ ea), atI_nat e, q⟩⟩)
theorem st_asgx {α : Type} {P : α → Prop} {F : α → Rp} (he : EvG m te Γ (rEx P F)) (h : ∀ a, P a → ∃ Δ js, TgG m g Γ (F a) Δ js ∧ StG m u Δ I D) : StG m (tSeq (tAsg te g) u) Γ I D := fun σ B H hs hi =>
  he σ B H hs (I.pre hi) _ fun v B' H' s ⟨a, pa, r⟩ => by
    obtain ⟨Δ, js, hg, hu⟩ := h a pa
    exact hg σ B' H' v (hs.mono s.sub) (I.pre (I.step hi s)) r _ fun σ' hs' _ => hu σ' B' H' hs' (I.step hi s)
/-! targets that change an object -/
def TgX (m : Mt) (g : TG) (Γ : Gm) (R : Rp) (Δ : Gm) : Prop := ∀ σ B H x, Sl Γ σ B → Pre m B H → R.p B x → ∀ Q : L2.St → Hp → Prop, (∀ σ' B' H', Step m B H B' H' → Sl Δ σ' B' → Q σ' H') → g x σ H Q
def TgsX (m : Mt) (g : TGs) (Γ : Gm) (Rs : List Rp) (Δ : Gm) : Prop := ∀ σ B H xs, Sl Γ σ B → Pre m B H → AllR Rs B xs → ∀ Q : L2.St → Hp → Prop, (∀ σ' B' H', Step m B H B' H' → Sl Δ σ' B' → Q σ' H') → g xs σ H Q
theorem tgx_of {js : List Nat} (h : TgG m g Γ R Δ js) : TgX m g Γ R Δ := fun σ B H x hs hp r Q q => h σ B H x hs hp r Q fun σ' hs' _ => q σ' B H hp.refl hs'
theorem tgsx_nil : TgsX m gNil Γ [] Γ := fun σ B H xs hs hp r Q q => ⟨r, q σ B H hp.refl hs⟩
theorem tgsx_cons (h : TgX m g Γ R Δ) (k : TgsX m gs Δ Rs Θ) : TgsX m (gCons g gs) Γ (R :: Rs) Θ := fun σ B H xs hs hp ⟨v, r, e, rv, rr⟩ Q q =>
  ⟨v, r, e, h σ B H v hs hp rv _ fun σ1 B1 H1 s1 hs1 => k σ1 B1 H1 r hs1 (hp.step s1) (rr.mono s1.sub) Q fun σ2 B2 H2 s2 hs2 => q σ2 B2 H2 (Step.trans hp s1 s2) hs2⟩
theorem tgx_un {n : Nat} (h : TgsX m gs Γ Rs Δ) (hn : Rs.length = n := by rfl) : TgX m (gUn K n gs) Γ (rT K Rs) Δ := fun σ B H x hs hp ⟨a, xs, e, hT, r⟩ Q q =>
  .inl ⟨a, xs, e, hp.sub.sqT hT, r.len.trans hn, h σ B H xs hs hp r Q q⟩
theorem st_asgX {α : Type} {P : α → Prop} {F : α → Rp} (he : EvG m te Γ (rEx P F)) (h : ∀ a, P a → ∃ Δ, TgX m g Γ (F a) Δ ∧ StG m u Δ I D) : StG m (tSeq (tAsg te g) u) Γ I D := fun σ B H hs hi =>
  he σ B H hs (I.pre hi) _ fun v B' H' s ⟨a, pa, r⟩ => by
    obtain ⟨Δ, hg, hu⟩ := h a pa
    have hi' := I.step hi s
    exact hg σ B' H' v (hs.mono s.sub) (I.pre hi') r _ fun σ' B2 H2 s2 hs' => hu σ' B2 H2 hs' (I.step hi' s2)
/-! the draws' list -/
def PuOk (o : HO) : Prop := ∃ a b : Int, o = .lst [.int a, .int b] ∧ (0 ≤ a ∧ a < 2147483629) ∧ 0 ≤ b
def PuAt (m : Mt) (p : Addr) : Prop := m.dom p ∧ ∀ o, m.ok p o ↔ PuOk o
theorem pu_at {B H : Hp} (hp : Pre m B H) (h : PuAt m p) : ∃ a b : Int, H p = some (.lst [.int a, .int b]) ∧ (0 ≤ a ∧ a < 2147483629) ∧ 0 ≤ b := by
  obtain ⟨o, e, k⟩ := hp.po p h.1
  obtain ⟨a, b, rfl, h1, h2⟩ := (h.2 o).mp k
  exact ⟨a, b, e, h1, h2⟩
theorem ev_p0 (h : PuAt m p) (hi : Γ[i]? = some (some (rV (.ref p)))) : EvG m (tOp (rIx K) (tVar i) (tC (.int 0))) Γ (rI1 (Rg 0 2147483629)) := fun σ B H hs hp Q q => by
  obtain ⟨v, e, rv⟩ := hs.2 i _ hi
  obtain rfl : v = .ref p := rv
  obtain ⟨a, b, eH, ha, hb⟩ := pu_at hp h
  exact ⟨_, e, .inl ⟨p, [.int a, .int b], 0, .int a, rfl, rfl, SqL.of eH, rfl, q _ B H hp.refl ⟨a, ha, rfl⟩⟩⟩
theorem ev_p1 (h : PuAt m p) (hi : Γ[i]? = some (some (rV (.ref p)))) : EvG m (tOp (rIx K) (tVar i) (tC (.int 1))) Γ (rI1 (0 ≤ ·)) := fun σ B H hs hp Q q => by
  obtain ⟨v, e, rv⟩ := hs.2 i _ hi
  obtain rfl : v = .ref p := rv
  obtain ⟨a, b, eH, ha, hb⟩ := pu_at hp h
  exact ⟨_, e, .inl ⟨p, [.int a, .int b], 1, .int b, rfl, rfl, SqL.of eH, rfl, q _ B H hp.refl ⟨b, hb, rfl⟩⟩⟩
theorem tg_p0 {x : Int} (h : PuAt m p) (hi : Γ[i]? = some (some (rV (.ref p)))) (hx : 0 ≤ x ∧ x < 2147483629) : TgX m (gSub (tVar i) (tC (.int 0)) rSetL) Γ (dI x) Γ := fun σ B H y hs hp r Q q => by
  obtain ⟨v, e, rv⟩ := hs.2 i _ hi
  obtain rfl : v = .ref p := rv
  obtain rfl : y = .int x := r
  obtain ⟨a, b, eH, ha, hb⟩ := pu_at hp h
  exact ⟨_, e, p, [.int a, .int b], 0, 0, rfl, rfl, eH, rfl, q σ B _ (dom_step hp h.1 ((h.2 _).mpr ⟨x, b, rfl, hx, hb⟩)) hs⟩
theorem tg_p1 {x : Int} (h : PuAt m p) (hi : Γ[i]? = some (some (rV (.ref p)))) (hx : 0 ≤ x) : TgX m (gSub (tVar i) (tC (.int 1)) rSetL) Γ (dI x) Γ := fun σ B H y hs hp r Q q => by
  obtain ⟨v, e, rv⟩ := hs.2 i _ hi
  obtain rfl : v = .ref p := rv
  obtain rfl : y = .int x := r
  obtain ⟨a, b, eH, ha, hb⟩ := pu_at hp h
  exact ⟨_, e, p, [.int a, .int b], 1, 1, rfl, rfl, eH, rfl, q σ B _ (dom_step hp h.1 ((h.2 _).mpr ⟨a, x, rfl, ha, hx⟩)) hs⟩
/-! a loop whose word has a letter of its own, in the slots too -/
theorem st_forG {β : Type} {n : Nat} {Ys : Nat → Option Rp} (Γs : Nat → β → Gm) (P : Nat → β → Prop) (Is : Iv m → Nat → β → Iv m) (fam : ∀ e, Fam (fun I k => Is I k e)) (e0 : β) (p0 : P 0 e0) (hw : EvI m wi Γ n Ys) (h0 : LeG Γ (Γs 0 e0))
    (hb : ∀ (J : Iv m) k R e, Imp J I → k < n → Ys k = some R → P k e → ∃ Δ js, TgG m g (Γs k e) R Δ js ∧ StG m tb Δ (Is J k e) { D with nx := fun σ H => ∃ e', P (k + 1) e' ∧ nxOf (Γs (k + 1) e') (Is J (k + 1) e') σ H, ct := fun σ H => ∃ e', P (k + 1) e' ∧ nxOf (Γs (k + 1) e') (Is J (k + 1) e') σ H, bk := u D })
    (hd : ∀ e, P n e → StG m u (Γs n e) (Is I n e) D) : StG m (tSeq (tFor wi g tb) u) Γ (Is I 0 e0) D := fun σ B H hs hi => by
  refine hw σ B H hs ((Is I 0 e0).pre hi) _ fun J B1 H1 s1 src => ?_
  have i1 := (Is I 0 e0).step hi s1
  refine ⟨fun k c σ H => c = n - k ∧ k ≤ n ∧ ∃ e, P k e ∧ nxOf (Γs k e) (Is (iSub I B1) k e) σ H, ⟨n, rfl, Nat.zero_le _, e0, p0, B1, (hs.mono s1.sub).le h0, (fam e0).to (k := 0) i1 (Sub.refl _)⟩, ?_⟩
  rintro k c σ2 H2 ⟨rfl, hk, e, pe, B2, hs2, hi2⟩
  obtain ⟨hi3, sb⟩ := (fam e).back (k := k) hi2
  obtain ⟨go, stop⟩ := src B2 H2 sb ((Is I k e).pre hi3)
  by_cases hlt : k < n
  · refine .inr ⟨(go k hlt).1, fun σ' H' => ∃ e', P (k + 1) e' ∧ nxOf (Γs (k + 1) e') (Is (iSub I B1) (k + 1) e') σ' H', fun σ' H' h' => ⟨n - (k + 1), by omega, rfl, hlt, h'⟩, fun x H' y => ?_⟩
    obtain ⟨B', R, sy, hR, rx⟩ := (go k hlt).2 x H' y
    obtain ⟨Δ, js, hg, hB⟩ := hb (iSub I B1) k R e Imp.sub hlt hR pe
    have hi4 := (Is (iSub I B1) k e).step hi2 sy
    refine hg σ2 B' H' x (hs2.mono sy.sub) ((Is (iSub I B1) k e).pre hi4) rx _ fun σ3 hs3 _ => ?_
    exact hB σ3 B' H' hs3 hi4
  · have ek : k = n := by omega
    subst ek
    exact .inl ⟨stop, hd e pe σ2 B2 H2 hs2 hi3⟩
theorem st_toP {β : Type} {P : β → Prop} {Δs : β → Gm} {Js : β → Iv m} {rt : VK} {bk ct : L2.St → Hp → Prop} (e : β) (pe : P e) (k : LeG Γ (Δs e)) (hI : ∀ B H, I.p B H → (Js e).p B H) : StG m tNext Γ I ⟨fun σ H => ∃ e', P e' ∧ nxOf (Δs e') (Js e') σ H, rt, bk, ct⟩ := fun σ B H hs hi => ⟨e, pe, B, hs.le k, hI B H hi⟩
/-- a, b = e, [] -/
theorem st_parNew (hij : i ≠ j) (h : EvG m ta Γ Ra) (k : ∀ a, StG m u ((Γ.set i (some Ra)).set j (some (rV (.ref a)))) (iLst I a []) D) : StG m (tSeq (tPar i j (tCons ta (tCons (tLst tNil) tNil))) u) Γ I D := fun σ B H hs hi =>
  h σ B H hs (I.pre hi) _ fun v B1 H1 s1 r1 => ⟨Nat.zero_le _, fun q np => ⟨v, .ref q, rfl, by
    have hi1 := I.step hi s1
    have hb : B1 q = none := by
      cases e : B1 q with
      | none => rfl
      | some o => rw [(I.pre hi1).sub q o e] at np; cases np
    have s : Step m B1 H1 B1 (upd H1 q (.lst [])) := ((I.pre hi1).new np).less (Sub.refl _) ((I.pre hi1).new np).sub
    exact k q _ B1 _ (((hs.mono s1.sub).set r1).set rfl) ⟨I.step hi1 s, I.news hi1 np, hb, .lst [], upd_same, [], rfl, rfl⟩⟩⟩
/-! a comprehension over a source that is told by a letter -/
def EvIx {α : Type} (m : Mt) (wi : TI) (Γ : Gm) (P : α → Prop) (n : α → Nat) (Ys : α → Nat → Option Rp) : Prop := ∀ σ B H, Sl Γ σ B → Pre m B H → ∀ C : It → Hp → Prop, (∀ a J B' H', P a → Step m B H B' H' → Src m J (n a) (Ys a) B' → C J H') → wi σ H C
theorem lc_one {It0 : It} {n : Nat} {Ys : Nat → Option Rp} (f : Nat → Bool) (S : Nat → Rp) (hz : n < sizeLine)
    (hb : ∀ k R, k < n → Ys k = some R → ∃ Δ js, TgG m g (wipeG Γ vs) R Δ js ∧ (∀ j ∈ js, j ∈ vs) ∧ EvB m tt Δ (· = f k) ∧ (f k = true → EvG m te Δ (S k)))
    {σ : L2.St} {B1 H1 : Hp} (hs : Sl Γ σ B1) (hp1 : Pre m B1 H1) (src : Src m It0 n Ys B1) {Q : VK} (q : ∀ v B' H', Step m B1 H1 B' H' → (rL (((List.range n).filter f).map S)).p B' v → Q v H') : tLc (fun _ H C => C It0 H) g tt te vs σ H1 Q := by
  intro L nL
  have nd : ¬ m.dom L := fun z => (hp1.po L z).some nL
  have nB1 : B1 L = none := by
    cases e : B1 L with
    | none => rfl
    | some o => rw [hp1.sub L o e] at nL; cases nL
  refine ⟨fun k c H => c = n - k ∧ k ≤ n ∧ ∃ B2 acc, Step m B1 H1 B2 H ∧ B2 L = none ∧ H L = some (.lst acc) ∧ AllR (((List.range k).filter f).map S) B2 acc, ⟨n, rfl, Nat.zero_le _, B1, [], ?_, nB1, upd_same, rfl⟩, ?_⟩
  · exact (hp1.new nL).less (Sub.refl _) (hp1.new nL).sub
  rintro k c H2 ⟨rfl, hk, B2, acc, s2, nB2, hL, hR⟩
  have hp2 := hp1.step s2
  obtain ⟨go, stop⟩ := src B2 H2 s2.sub hp2
  have done : ∀ {B3 H3 : Hp} {B4 H4 : Hp}, Step m B1 H1 B3 H3 → H3 L = some (.lst acc) → B3 L = none → Step m B3 H3 B4 H4 → H4 L = some (.lst acc) ∧ B4 L = none ∧ Step m B1 H1 B4 H4 := fun {B3 H3 B4 H4} t1 t2 t3 t4 => by
    refine ⟨t4.keep L _ nd t2, ?_, Step.trans hp1 t1 t4⟩
    cases e : B4 L with
    | none => rfl
    | some o =>
      rcases t4.new L o e with z | z
      · rw [t3] at z; cases z
      · rw [t2] at z; cases z
  by_cases hlt : k < n
  · refine .inr ⟨(go k hlt).1, fun H' => ∃ B3 acc, Step m B1 H1 B3 H' ∧ B3 L = none ∧ H' L = some (.lst acc) ∧ AllR (((List.range (k + 1)).filter f).map S) B3 acc, fun H' h' => ⟨n - (k + 1), by omega, rfl, hlt, h'⟩, fun x H3 y => ?_⟩
    obtain ⟨B3, R, sy, eR, rx⟩ := (go k hlt).2 x H3 y
    obtain ⟨Δ, js, hg, hj, ht, he⟩ := hb k R hlt eR
    obtain ⟨a1, a2, a3⟩ := done s2 hL nB2 sy
    refine hg _ B3 H3 x ((hs.mono s2.sub).wipe vs |>.mono sy.sub) (hp1.step a3) rx _ fun σ4 hs4 w4 => ⟨?_, ?_⟩
    · rw [w4 vs hj, wipe_self]
    refine ht σ4 B3 H3 hs4 (hp1.step a3) _ fun b B4 H4 s4 eb => ?_
    subst eb
    obtain ⟨b1, b2, b3⟩ := done a3 a1 a2 s4
    cases ef : f k with
    | false =>
      refine ⟨B4, acc, b3, b2, b1, ?_⟩
      rw [List.range_succ, List.filter_append, List.map_append, List.filter_cons, if_neg (by rw [ef]; decide)]
      show AllR (((List.range k).filter f).map S ++ []) B4 acc
      rw [List.append_nil]
      exact hR.mono (sy.sub.trans s4.sub)
    | true =>
      refine he ef σ4 B4 H4 (hs4.mono s4.sub) (hp1.step b3) _ fun v B5 H5 s5 r5 => ?_
      obtain ⟨c1, c2, c3⟩ := done b3 b1 b2 s5
      refine ⟨acc, c1, ?_, B5, acc ++ [v], ?_, c2, upd_same, ?_⟩
      · rw [hR.len, List.length_map]
        exact Nat.lt_of_le_of_lt (Nat.le_trans (List.length_filter_le _ _) (by rw [List.length_range]; omega)) hz
      · refine ⟨fun a o na e => ?_, fun a da => ?_, c3.sub, fun a o e => ?_, c3.new⟩
        · have ne : a ≠ L := fun z => by rw [z, nL] at e; cases e
          rw [upd_ne ne]
          exact c3.keep a o na e
        · have ne : a ≠ L := fun z => nd (z ▸ da)
          rw [upd_ne ne]
          exact c3.po a da
        · have ne : a ≠ L := fun z => by rw [z, c2] at e; cases e
          rw [upd_ne ne]
          exact c3.sub' a o e
      · rw [List.range_succ, List.filter_append, List.map_append, List.filter_cons, if_pos (by rw [ef])]
        exact (hR.mono ((sy.sub.trans s4.sub).trans s5.sub)).app ⟨v, [], rfl, r5, rfl⟩
  · have e : k = n := by omega
    subst e
    refine .inl ⟨stop, q (.ref L) (upd B2 L (.lst acc)) H2 ⟨s2.keep, s2.po, fun a o e => ?_, fun a o e => ?_, fun a o e => ?_⟩ ⟨L, acc, rfl, upd_same, hR.mono fun a o e => ?_⟩⟩
    · have ne : a ≠ L := fun z => by rw [z, nB1] at e; cases e
      rw [upd_ne ne]
      exact s2.sub a o e
    · by_cases z : a = L
      · subst z; rw [upd_same] at e; rw [hL]; exact e
      · rw [upd_ne z] at e; exact s2.sub' a o e
    · by_cases z : a = L
      · subst z; exact .inr nL
      · rw [upd_ne z] at e; exact s2.new a o e
    · have ne : a ≠ L := fun z => by rw [z, nB2] at e; cases e
      rw [upd_ne ne]
      exact e
/-- [e for k in a range of some length], each e of the same kind -/
theorem ev_lcx {α : Type} {P : α → Prop} {n : α → Nat} {Ys : α → Nat → Option Rp} (S : Rp) (hz : ∀ a, P a → n a < sizeLine) (hw : EvIx m wi Γ P n Ys)
    (hb : ∀ a k R, P a → k < n a → Ys a k = some R → ∃ Δ js, TgG m g (wipeG Γ vs) R Δ js ∧ (∀ j ∈ js, j ∈ vs) ∧ EvG m te Δ S) : EvG m (tLc wi g tYes te vs) Γ (rEx P fun a => rL ((List.range (n a)).map fun _ => S)) := fun σ B H hs hp Q q =>
  hw σ B H hs hp _ fun a J B1 H1 pa s1 src => lc_one (It0 := J) (n := n a) (Ys := Ys a) (fun _ => true) (fun _ => S) (hz a pa) (fun k R hk hR => by
    obtain ⟨Δ, js, h1, h2, h3⟩ := hb a k R pa hk hR
    exact ⟨Δ, js, h1, h2, eb_yes, fun _ => h3⟩) (hs.mono s1.sub) (hp.step s1) src fun v B' H' s r => q v B' H' (Step.trans hp s1 s) ⟨a, pa, by
      rw [List.filter_eq_self.mpr fun _ _ => rfl] at r
      exact r⟩
theorem ei_rngx {ta : TA} {lo hi : Int} (h : EvA m ta Γ [rI1 (Rg lo hi)]) (hl : 0 ≤ lo) (hh : hi ≤ 1000000) : EvIx m (iRng1 ta) Γ (Rg lo hi) Int.toNat (fun _ i => some (dI (i : Int))) := fun σ B H hs hp C c => h σ B H hs hp _ fun vs B1 H1 s1 ⟨v, r, e, ⟨n, hn, hv⟩, hr⟩ => by
  obtain rfl : r = [] := hr
  obtain rfl : v = .int n := hv
  have h62 : (2 : Int) ^ 62 = 4611686018427387904 := by decide
  have h1 := hn.1
  have h2 := hn.2
  exact ⟨n, e, by omega, by omega, c n _ B1 H1 hn s1 fun B2 H2 sb hp2 => ⟨fun i hi => ⟨hi, fun x H' ⟨e1, e2⟩ => ⟨B2, _, by rw [e1]; exact hp2.refl, rfl, by rw [e2, Int.zero_add] <;> rfl⟩⟩, Nat.le_refl _⟩⟩
/-! letters out of a tuple -/
theorem le_T3 {α β γ : Type} {P : α → Prop} {F : α → Rp} {P' : β → Prop} {F' : β → Rp} {P'' : γ → Prop} {F'' : γ → Rp} : Le (rT K [rEx P F, rEx P' F', rEx P'' F'']) (rEx (fun z : α × β × γ => P z.1 ∧ P' z.2.1 ∧ P'' z.2.2) fun z => rT K [F z.1, F' z.2.1, F'' z.2.2]) :=
  fun B v ⟨a, xs, e, hT, x, r, e1, ⟨i, pi, hi⟩, y, r', e2, ⟨j, pj, hj⟩, z, r'', e3, ⟨k, pk, hk⟩, hr⟩ => ⟨(i, j, k), ⟨pi, pj, pk⟩, a, xs, e, hT, x, r, e1, hi, y, r', e2, hj, z, r'', e3, hk, hr⟩
theorem le_T2 {α β : Type} {P : α → Prop} {F : α → Rp} {P' : β → Prop} {F' : β → Rp} : Le (rT K [rEx P F, rEx P' F']) (rEx (fun z : α × β => P z.1 ∧ P' z.2) fun z => rT K [F z.1, F' z.2]) :=
  fun B v ⟨a, xs, e, hT, x, r, e1, ⟨i, pi, hi⟩, y, r', e2, ⟨j, pj, hj⟩, hr⟩ => ⟨(i, j), ⟨pi, pj⟩, a, xs, e, hT, x, r, e1, hi, y, r', e2, hj, hr⟩
theorem le_one : Le R (rEx (fun _ : Unit => True) fun _ => R) := le_ex () trivial (Le.refl _)
end
section
variable {P : Program} {w : World} {K : PySem.W.Frag} {mg : Str → Option Value} {base : Heap} {m : Mt} {Γ : Gm} {ta tb te : TE}
/-! ### a draw -/
abbrev sp_law_dig : Sp := spM (fun _ (z : Addr × Int) => [rV (.ref z.1), dI z.2]) (fun m z => PuAt m z.1 ∧ 0 < z.2 ∧ z.2 ≤ 1000003) (fun _ z => rI1 (Rg 0 z.2))
theorem ev_xdm {n : Int} (hn : 0 < n ∧ n ≤ 1000003) (ha : EvG m ta Γ (rI1 (0 ≤ ·))) (hb : EvG m tb Γ (dI n)) : EvG m (tCB rDmW (tCons ta (tCons tb tNil))) Γ (rEx (fun z : Int × Int => 0 ≤ z.1 ∧ (0 ≤ z.2 ∧ z.2 < n)) fun z => rT K [dI z.1, dI z.2]) := ev_cb (ea2 ha hb) fun B H vs hp hv Q q => by
  obtain ⟨v, w, rfl, ⟨i, hi, e⟩, e'⟩ := all2 hv
  obtain rfl : v = .int i := e
  obtain rfl : w = .int n := e'
  exact ⟨i, n, rfl, ⟨hn.1, PyProof.noPylong_small (by omega)⟩, fun p np => q _ _ _ (hp.new np) ⟨(i / n, i % n), ⟨Int.ediv_nonneg hi (by omega), Int.emod_nonneg _ (by omega), Int.emod_lt_of_pos _ hn.1⟩, p, _, rfl, SqT.of upd_same, _, _, rfl, rfl, _, _, rfl, rfl, rfl⟩⟩
theorem c_law_dig (T : Tx w K mg) (D : Df K mg "_law_dig" "_law_dig" s_law_dig) : Cal P w K mg base 1 "_law_dig" sp_law_dig := by
  refine cal_ofM D sc_law_dig (fun _ _ _ _ _ _ us hl => match us, hl with | [_, _], _ => rfl) (fun _ _ => rfl) (by decide) (fun f cdv A outer s H E hr => ⟨_, (pss_cons (ps_if (pt_cmpR op_gt (pe_ix (ix_seqK (K := K) rfl) (pv 0) pe_int (fun _ _ => rfl)) pe_int (nomark _))
  (pss_cons (ps_asg (pe_callB call_divmodW (by rfl) T.b_divmod (by decide +kernel) (pa_cons (pe_ix (ix_seqK (K := K) rfl) (pv 0) pe_int (fun _ _ => rfl)) (pa_cons (pv 1) pa_nil))) (pg_unK (K := K) rfl rfl rfl rfl (pgs_cons (pg_sub (pv 0) pe_int set_list) (pgs_cons (pg_nameX (i := 2) sc_law_dig.nd rfl (.inl rfl) (.inr rfl)) pgs_nil))))
  (pss_cons (ps_ret (pv 2))
  pss_nil))
  pss_nil)
  (pss_cons (ps_asg (pe_op op_mod (pe_callTy call_int1 (by rfl) T.b_int (by decide +kernel) (pa_cons (pe_op op_addA (pe_op op_mulX (pe_ix (ix_seqK (K := K) rfl) (pv 0) pe_int (fun _ _ => rfl)) pe_int) pe_int) pa_nil)) pe_int) (pg_sub (pv 0) pe_int set_list))
  (pss_cons (ps_ret (pe_op op_mod (pe_callTy call_int1 (by rfl) T.b_int (by decide +kernel) (pa_cons (pe_op op_fdivW (pe_ix (ix_seqK (K := K) rfl) (pv 0) pe_int (fun _ _ => rfl)) pe_int) pa_nil)) (pv 1)))
  pss_nil))), fun m B0 H0 ⟨p, n⟩ Q hp ha q => ?_⟩)
  obtain ⟨hpu, hn⟩ := ha
  simp only at hpu hn
  refine st_if (P := fun _ => True) (eb_testx ((ev_op (ev_p1 hpu rfl) kI (bin_now fun B H x y _ ⟨a, pa, hx⟩ hy => ⟨.bl (decide ((0 : Int) < a)), ⟨_, trivial, rfl⟩, fun Q q => ⟨a, 0, hx, hy, q⟩⟩)))) (fun _ => ?_) (fun _ => st_nxt ?_)
  · refine st_asgX (ev_xdm hn (ev_p1 hpu rfl) (vr 1)) (fun z hz => ⟨_, tgx_un (tgsx_cons (tg_p1 hpu rfl hz.1) (tgsx_cons (tgx_of tg_name) tgsx_nil)), ?_⟩)
    exact st_ret ((vr 2).le (le_ex z.2 hz.2 (Le.refl _))) q
  · refine st_asgX (ev_xmod (ev_xint (ev_xadd (ev_xmul (ev_p0 hpu rfl) (ev_kx kI) fun x y hx hy => mulx_ok (a := 40) (b := 40) (by have := hx.1; have := hx.2; omega) (by rw [hy]; decide) (by decide)) (ev_kx kI))) kI (by decide)) (fun z hz => ⟨_, tg_p0 hpu rfl hz, ?_⟩)
    refine st_ret (ev_xmod (ev_xint (P := fun _ => True) ?_) (vr 1) hn.1) q
    exact ev_op (ev_p0 hpu rfl) kI (bin_now fun B H x y _ ⟨a, pa, hx⟩ hy => ⟨.int (a / 1024), ⟨_, trivial, rfl⟩, fun Q q => ⟨a, 1024, hx, hy, ⟨by decide, by decide⟩, q⟩⟩)
end
end Sq
/-! Sq, part F32: the law's purse of draws. -/
namespace Sq
open PySem PySem.Spec PyProof.Rows L2
/-- the script -/
def rSc (K : PySem.W.Frag) (ns : List Int) : Rp := ⟨fun B v => ∃ a, v = .ref a ∧ SqL K B a (ns.map V.int), fun s ⟨a, e, h⟩ => ⟨a, e, s.sqL h⟩⟩
theorem all_ints {B : Hp} : ∀ ns : List Int, AllR (ns.map dI) B (ns.map V.int)
  | [] => rfl
  | n :: ns => ⟨_, _, rfl, rfl, all_ints ns⟩
/-- what is wanted of a new purse -/
def RtP {m : Mt} (I : Iv m) (Q : VK) : Prop := ∀ a B H, I.p B H → I.fr a → B a = none → (∃ o, H a = some o ∧ PuOk o) → Q (.ref a) H
def spP {ι : Type} (args : Mt → ι → List Rp) (pre : ι → Prop) : Sp := fun vs H Q _ => ∃ (m : Mt) (B : Hp) (i : ι), Pre m B H ∧ pre i ∧ AllR (args m i) B vs ∧ ∀ a B' H', Pre m B' H' → Step m B H B' H' → H a = none → B' a = none → (∃ o, H' a = some o ∧ PuOk o) → Q (.ref a) H'
section
variable {P : Program} {w : World} {K : PySem.W.Frag} {mg : Str → Option Value} {base : Heap} {m : Mt} {Γ : Gm} {I : Iv m} {D : Ends} {ta tb te : TE} {t : TA} {tl th : TO} {u : TS} {ns : List Int}
theorem cal_ofP {ι : Type} {args : Mt → ι → List Rp} {pre : ι → Prop} {y x : Str} {st : Stmt} {N ps : List Str} {k : Nat} (D : Df K mg y x st) (S : FnScope N ps (defScope st))
    (hb : ∀ (kV doc pm : Value) (an : Option Addr) (cdv ct : Value) (us : List Value), us.length = ps.length → bindArgs (PySem.W.fnOf x x (defArgs st) (defBody st) (defScope st) .none kV doc pm an cdv ct) ⟨us, []⟩ = pure (ps.zip us))
    (hl : ∀ m i, (args m i).length = ps.length) (hN : ps.length ≤ N.length)
    (hbody : ∀ (f : Addr) (cdv : Value) (A : Around) (outer : List Env) (s : Shared) (H : Hp) (E : XK), Room k (A.deeper (envOfC x (defScope st) s.heap.objs.size f cdv)) →
      ∃ t, PSs (cxOf CX0 P w K mg base N x (defScope st) f cdv A outer s H E).nox (defBody st) t ∧
        ∀ (m : Mt) (B0 H0 : Hp) (i : ι) (Q : VK) (hp : Pre m B0 H0), pre i → RtP (I0 m B0 H0 hp) Q → StG m t (gam N (args m i)) (I0 m B0 H0 hp) { nx := fun _ H' => Q .non H', rt := Q }) : Cal P w K mg base (k + 1) y (spP args pre) := by
  obtain ⟨f, fd, F, hm⟩ := D.ex
  refine ⟨f, fd, ps, F.ok S (fun vs H Q E h => ?_) (fun cdv A outer s H vs Q E hr h => ?_), hm, F.kp, F.binds hb⟩
  · obtain ⟨m, B, i, _, _, h, _⟩ := h
    rw [h.len]
    exact hl m i
  · obtain ⟨t, h1, h2⟩ := hbody f cdv A outer s H E hr
    obtain ⟨m, B, i, hp, hpre, ha, q⟩ := h
    exact ⟨t, h1, h2 m B H i Q hp hpre (fun a B' H' p fr hB ho => q a B' H' p.1 p.2 fr hB ho) _ B H (sl_start ha (by rw [hl]; exact hN)) ⟨hp, hp.refl⟩⟩
theorem st_retP (ha : EvG m ta Γ (rI1 (Rg 0 2147483629))) (hb : EvG m tb Γ (rI1 (0 ≤ ·))) (q : RtP I D.rt) : StG m (tSeq (tRet (tLst (tCons ta (tCons tb tNil)))) u) Γ I D := fun σ B H hs hi =>
  ha σ B H hs (I.pre hi) _ fun v B1 H1 s1 ⟨x, px, e1⟩ => hb σ B1 H1 (hs.mono s1.sub) (I.pre (I.step hi s1)) _ fun w B2 H2 s2 ⟨y, py, e2⟩ => ⟨show 2 ≤ sizeLine by decide, fun p np => by
    obtain rfl : v = .int x := e1
    obtain rfl : w = .int y := e2
    have hi2 := I.step (I.step hi s1) s2
    have hb2 : B2 p = none := by
      cases e : B2 p with
      | none => rfl
      | some o => rw [(I.pre hi2).sub p o e] at np; cases np
    have s : Step m B2 H2 B2 (upd H2 p (.lst [.int x, .int y])) := ((I.pre hi2).new np).less (Sub.refl _) ((I.pre hi2).new np).sub
    exact q p B2 _ (I.step hi2 s) (I.news hi2 np) hb2 ⟨_, upd_same, x, y, rfl, px, py⟩⟩
/-! the script is read -/
theorem ev_lenQ (h : EvG m ta Γ (rSc K ns)) : EvG m (tCB (rLen K) (tCons ta tNil)) Γ (dI (ns.length : Int)) := ev_cb (ea1 h) (ca_now fun B H vs hp hv => by
  obtain ⟨v, rfl, a, rfl, ea⟩ := all1 hv
  exact ⟨_, rfl, fun Q q => ⟨_, ns.length, rfl, .inl ⟨_, hp.sub.sqL ea, by rw [List.length_map]⟩, q⟩⟩)
theorem ev_ixQ {k : Nat} {n : Int} (ha : EvG m ta Γ (rSc K ns)) (hb : EvG m tb Γ (dI (k : Int))) (h : ns[k]? = some n) : EvG m (tOp (rIx K) ta tb) Γ (dI n) :=
  ev_op ha hb (bin_now fun B H x y hp ⟨a, e, ea⟩ hy => ⟨.int n, rfl, fun Q q => .inl ⟨a, ns.map V.int, k, .int n, e, hy, hp.sub.sqL ea, atI_nat (by rw [List.getElem?_map, h] <;> rfl), q⟩⟩)
theorem ev_sliceQ {lo hi : Option Int} (ha : EvG m ta Γ (rSc K ns)) (hl : EvP m tl Γ lo) (hh : EvP m th Γ hi) :
    EvG m (tSl (rSlQ K) ta tl th) Γ (rL (((ns.drop (HT.sIx ns.length 0 lo)).take (HT.sIx ns.length ns.length hi - HT.sIx ns.length 0 lo)).map dI)) := fun σ B H hs hp Q q =>
  ha σ B H hs hp _ fun v B1 H1 s1 ⟨a, e, ea⟩ => hl σ B1 H1 (hs.mono s1.sub) (hp.step s1) _ fun B2 H2 s2 => hh σ B2 H2 (hs.mono (s1.sub.trans s2.sub)) ((hp.step s1).step s2) _ fun B3 H3 s3 => by
    have hp3 := ((hp.step s1).step s2).step s3
    have s03 := Step.trans hp (Step.trans hp s1 s2) s3
    have sb := s2.sub.trans s3.sub
    refine .inl ⟨a, ns.map V.int, e, (sb.trans hp3.sub).sqL ea, fun p np => q _ _ _ (Step.trans hp s03 (hp3.new np)) ⟨p, _, rfl, upd_same, ?_⟩⟩
    unfold cutV
    rw [List.length_map, ← List.map_drop, ← List.map_take]
    exact all_ints _
theorem ev_xabs {P : Int → Prop} (h : EvG m ta Γ (rI1 P)) : EvG m (tCB rAbs (tCons ta tNil)) Γ (rI1 (0 ≤ ·)) := ev_cb (ea1 h) (ca_now fun B H vs hp hv => by
  obtain ⟨v, rfl, a, pa, e⟩ := all1 hv
  obtain rfl : v = .int a := e
  exact ⟨_, ⟨_, by split <;> omega, rfl⟩, fun Q q => ⟨a, rfl, q⟩⟩)
theorem ev_xge {P P' : Int → Prop} (ha : EvG m ta Γ (rI1 P)) (hb : EvG m tb Γ (rI1 P')) : EvG m (tOp (rI0 fun i j => .bl (decide (j ≤ i))) ta tb) Γ (rEx (fun _ : Bool => True) dB) :=
  ev_op ha hb (bin_now fun B H x y _ ⟨a, pa, hx⟩ ⟨b, pb, hy⟩ => ⟨.bl (decide (b ≤ a)), ⟨_, trivial, rfl⟩, fun Q q => ⟨a, b, hx, hy, q⟩⟩)
theorem ev_xpow {i j : Int} (ha : EvG m ta Γ (dI i)) (hb : EvG m tb Γ (dI j)) (h : CPow i j) : EvG m (tOp (rI CPow fun i j => .int (i ^ j.toNat)) ta tb) Γ (rI1 (· = i ^ j.toNat)) := ev_kx (ev_pow ha hb h)
abbrev a_law_purl : Mt → List Int × Nat → List Rp := fun _ z => [rSc K z.1, dI (z.2 : Int)]
abbrev sp_law_purl : Sp := spP (a_law_purl (K := K)) (fun z => z.1.length ≤ 63 ∧ z.2 < 4)
theorem c_law_purl (T : Tx w K mg) (D : Df K mg "_law_purl" "_law_purl" s_law_purl) : Cal P w K mg base 1 "_law_purl" (sp_law_purl (K := K)) := by
  refine cal_ofP D sc_law_purl (fun _ _ _ _ _ _ us hl => match us, hl with | [_, _], _ => rfl) (fun _ _ => rfl) (by decide) (fun f cdv A outer s H E hr => ⟨_, (pss_cons (ps_set (i := 2) sc_law_purl.nd rfl (.inl rfl) (pe_op op_addA pe_int (pe_op op_mulX pe_int (pv 1))))
  (pss_cons (ps_for PassesOwn.never rfl (pi_seqK (K := K) rfl (pe_op op_addA (pe_slice (sl_seqK (K := K) rfl) (pv 0) po_none (po_some pe_int)) (pe_slice (sl_seqK (K := K) rfl) (pv 0) (po_some (pv 1)) (po_some (pe_op op_addA (pv 1) pe_int))))) (pg_nameX (i := 3) sc_law_purl.nd rfl (.inl rfl) (.inr rfl))
  (pss_cons (ps_set (i := 2) sc_law_purl.nd rfl (.inl rfl) (pe_op op_mod (pe_callTy call_int1 (by rfl) T.b_int (by decide +kernel) (pa_cons (pe_op op_addA (pe_op op_addA (pe_op op_mulX (pv 2) pe_int) (pv 3)) pe_int) pa_nil)) pe_int))
  pss_nil))
  (pss_cons (ps_set (i := 4) sc_law_purl.nd rfl (.inl rfl) (pe_ifExp (pt_cmpR op_lt (pv 1) (pe_callB (call_lenK (K := K) rfl) (by rfl) T.b_len (by decide +kernel) (pa_cons (pv 0) pa_nil)) (nomark _)) (pe_ix (ix_seqK (K := K) rfl) (pv 0) (pv 1) (fun _ _ => rfl)) pe_int))
  (pss_cons (ps_ret (pe_lst (pa_cons (pv 2) (pa_cons (pe_ifExp (pt_cmpR op_ge (pe_callB call_abs (by rfl) T.b_abs (by decide +kernel) (pa_cons (pv 4) pa_nil)) (pe_op op_pow pe_int pe_int) (nomark _)) (pe_callB call_abs (by rfl) T.b_abs (by decide +kernel) (pa_cons (pv 4) pa_nil)) pe_int) pa_nil))))
  pss_nil)))), fun m B0 H0 ⟨ns, k⟩ Q hp ha q => ?_⟩)
  obtain ⟨hl, hk⟩ := ha
  simp only at hl hk
  refine st_set (R := rI1 (Rg 0 2147483629)) ((ev_add kI (ev_mul kI (vr 1) (mulx_ok (a := 40) (b := 40) (by decide) (by omega) (by decide)))).le (le_ex _ ⟨by omega, by omega⟩ (Le.refl _))) ?_
  have hz : ∀ (xs : List Int) (a b : Nat), xs.length ≤ 63 → ((xs.drop a).take b).length ≤ 63 := fun xs a b h => by rw [List.length_take, List.length_drop]; omega
  refine st_forM (R0 := dI) (fun _ => [some (rSc K ns), some (dI (k : Int)), some (rI1 (Rg 0 2147483629)), none, none]) (fun J _ => J) fam_id (ei_seqL ((ev_cat (ev_sliceQ (vr 0) ep_no (ep_some kI)) (ev_sliceQ (vr 0) (ep_some (vr 1)) (ep_some (ev_add (vr 1) kI))) ?_).to (by rw [← List.map_append]))) (.same (.same (.same (.skip (.skip .nil))))) (fun J i x hJ hi => ⟨_, _, tg_name, ?_⟩) ?_
  · rw [List.length_map, List.length_map]
    exact Nat.le_trans (Nat.add_le_add (hz ns _ _ hl) (hz ns _ _ hl)) (by decide)
  · exact st_set (R := rI1 (Rg 0 2147483629)) (ev_xmod (ev_xint (ev_xadd (ev_xadd (ev_xmul (vr 2) (ev_kx kI) fun x y hx hy => mulx_ok (a := 40) (b := 40) (by have := hx.1; have := hx.2; omega) (by rw [hy]; decide) (by decide)) (ev_kx (vr 3))) (ev_kx kI))) kI (by decide)) (st_to (.same (.same (.same (.skip (.skip .nil))))) fun B H h => h)
  · refine st_set (R := rI1 fun _ => True) (ev_if (eb_test (ev_lt (vr 1) (ev_lenQ (vr 0)))) (fun h => ?_) (fun _ => kI.le (le_ex 0 trivial (Le.refl _)))) ?_
    · have hk2 : k < ns.length := by have := of_decide_eq_true h.symm; omega
      exact (ev_ixQ (vr 0) (vr 1) (List.getElem?_eq_getElem hk2)).le (le_ex _ trivial (Le.refl _))
    · refine st_retP (vr 2) (ev_if (eb_testx (ev_xge (ev_xabs (vr 4)) (ev_xpow kI kI ⟨by decide, by decide, by decide⟩))) (fun _ => ev_xabs (vr 4)) (fun _ => kI.le (le_ex 0 (by decide) (Le.refl _)))) q
/-! a purse is handed on, that the callee may change -/
theorem pu_add {d : Addr} : PuAt (m.add d PuOk) d := ⟨.inr rfl, fun o => ⟨fun h => h.1 rfl, fun h => ⟨fun _ => h, fun ne => absurd rfl ne⟩⟩⟩
theorem ev_handP {ι : Type} {args : Mt → ι → List Rp} {pre : ι → Prop} {R : Rp} (i : ι) (hi : pre i) (ha : EvA m t Γ (args m i)) : EvG m (tCl (spM (fun _ (a : Addr) => [rV (.ref a)]) (fun m a => PuAt m a) (fun _ _ => R)) (tCons (tCl (spP args pre) t) tNil)) Γ R := fun σ B H hs hp Q q =>
  ha σ B H hs hp _ fun vs B1 H1 s1 r1 => by
    have hp1 := hp.step s1
    refine ⟨m, B1, i, hp1, hi, r1, fun a B' H' hp' s hH hB ho => ?_⟩
    have h1 : (iObj (I0 m B1 H1 hp1) a PuOk).p B' H' := ⟨⟨hp', s⟩, hH, hB, ho⟩
    refine ⟨m.add a PuOk, B', a, obj_pre h1, pu_add, ⟨_, _, rfl, rfl, rfl⟩, fun v B2 H2 s2 r2 => ?_⟩
    exact q v B2 H2 (Step.trans hp s1 (obj_step h1 s2).1.2) r2
end
end Sq
/-! Sq, part F33: a drawn loop, a drawn deed. -/
namespace Sq
open PySem PySem.Spec PyProof.Rows L2
abbrev rPr (K : PySem.W.Frag) (z : Nat × Nat) : Rp := rT K [dI (z.1 : Int), dI (z.2 : Int)]
def usO : List (Nat × Nat) := [(1, 10), (1, 4), (1, 7), (1, 9), (4, 10), (7, 10)]
def usI : List (Nat × Nat) := [(1, 13), (13, 10), (14, 10), (13, 15), (13, 16), (16, 10), (1, 15)]
def usL (b : Bool) : List (Nat × Nat) := if b = true then usO ++ usI else usO
theorem us_ok (b d : Bool) : ∀ z ∈ usL b, LpOk b (z.1, z.2, d) := by
  have h : ∀ b : Bool, ∀ z ∈ usL b, z.1 < 18 ∧ z.2 < 18 ∧ (b = true ∨ (z.1 < 12 ∧ z.2 < 12)) := by decide +kernel
  exact fun z hz => h b z hz
theorem us_len (b : Bool) : 0 < (usL b).length ∧ (usL b).length ≤ 13 := by cases b <;> decide
section
variable {P : Program} {w : World} {K : PySem.W.Frag} {mg : Str → Option Value} {base : Heap} {m : Mt} {Γ : Gm} {ta tb te : TE} {p : Addr} {i : Nat}
theorem ev_dig {n : Int} (h : PuAt m p) (hi : Γ[i]? = some (some (rV (.ref p)))) (he : EvG m te Γ (dI n)) (hn : 0 < n ∧ n ≤ 1000003) : EvG m (tCl sp_law_dig (tCons (tVar i) (tCons te tNil))) Γ (rI1 (Rg 0 n)) := ev_callM (p, n) ⟨h, hn⟩ (ea2 (ev_var hi) he)
abbrev sp_law_loop : Sp := spM (fun _ (z : Addr × Bool) => [rV (.ref z.1), dB z.2]) (fun m z => PuAt m z.1) (fun _ z => rEx (LpOk z.2) (rLoop K))
theorem c_law_loop (T : Tx w K mg) (c_law_dig : Cal P w K mg base 1 "_law_dig" sp_law_dig) (D : Df K mg "_law_loop" "_law_loop" s_law_loop) : Cal P w K mg base 2 "_law_loop" (sp_law_loop (K := K)) := by
  refine cal_ofM D sc_law_loop (fun _ _ _ _ _ _ us hl => match us, hl with | [_, _], _ => rfl) (fun _ _ => rfl) (by decide) (fun f cdv A outer s H E hr => ⟨_, (pss_cons (ps_set (i := 2) sc_law_loop.nd rfl (.inl rfl) (pe_cmpR (op_eqK (K := K) hr rfl rfl) (pe_cal c_law_dig hr (by decide) (by rfl) (pa_cons (pv 0) (pa_cons pe_int pa_nil))) pe_int (nomark _)))
  (pss_cons (ps_if (pt_cmpR (op_eqK (K := K) hr rfl rfl) (pe_cal c_law_dig hr (by decide) (by rfl) (pa_cons (pv 0) (pa_cons pe_int pa_nil))) pe_int (nomark _))
  (pss_cons (ps_set (i := 3) sc_law_loop.nd rfl (.inl rfl) (pe_lst (pa_cons (pe_tup (pa_cons pe_int (pa_cons pe_int pa_nil))) (pa_cons (pe_tup (pa_cons pe_int (pa_cons pe_int pa_nil))) (pa_cons (pe_tup (pa_cons pe_int (pa_cons pe_int pa_nil))) (pa_cons (pe_tup (pa_cons pe_int (pa_cons pe_int pa_nil))) (pa_cons (pe_tup (pa_cons pe_int (pa_cons pe_int pa_nil))) (pa_cons (pe_tup (pa_cons pe_int (pa_cons pe_int pa_nil))) pa_nil))))))))
  (C8.pss_cut (ps_if (pt_val (pv 1))
  (pss_cons (ps_set (i := 3) sc_law_loop.nd rfl (.inl rfl) (pe_op op_addA (pv 3) (pe_lst (pa_cons (pe_tup (pa_cons pe_int (pa_cons pe_int pa_nil))) (pa_cons (pe_tup (pa_cons pe_int (pa_cons pe_int pa_nil))) (pa_cons (pe_tup (pa_cons pe_int (pa_cons pe_int pa_nil))) (pa_cons (pe_tup (pa_cons pe_int (pa_cons pe_int pa_nil))) (pa_cons (pe_tup (pa_cons pe_int (pa_cons pe_int pa_nil))) (pa_cons (pe_tup (pa_cons pe_int (pa_cons pe_int pa_nil))) (pa_cons (pe_tup (pa_cons pe_int (pa_cons pe_int pa_nil))) pa_nil))))))))))
  pss_nil)
  pss_nil)
  (pss_cons (ps_asg (pe_ix (ix_seqK (K := K) rfl) (pv 3) (pe_cal c_law_dig hr (by decide) (by rfl) (pa_cons (pv 0) (pa_cons (pe_callB (call_lenK (K := K) rfl) (by rfl) T.b_len (by decide +kernel) (pa_cons (pv 3) pa_nil)) pa_nil))) (fun _ _ => rfl)) (pg_unK (K := K) rfl rfl rfl rfl (pgs_cons (pg_nameX (i := 4) sc_law_loop.nd rfl (.inl rfl) (.inr rfl)) (pgs_cons (pg_nameX (i := 5) sc_law_loop.nd rfl (.inl rfl) (.inr rfl)) pgs_nil))))
  (pss_cons (ps_ret (pe_tup (pa_cons (pv 4) (pa_cons (pv 5) (pa_cons (pv 2) pa_nil)))))
  pss_nil))))
  pss_nil)
  (pss_cons (ps_set (i := 6) sc_law_loop.nd rfl (.inl rfl) (pe_ifExp (pt_val (pv 1)) pe_int pe_int))
  (pss_cons (ps_ret (pe_tup (pa_cons (pe_cal c_law_dig hr (by decide) (by rfl) (pa_cons (pv 0) (pa_cons (pv 6) pa_nil))) (pa_cons (pe_cal c_law_dig hr (by decide) (by rfl) (pa_cons (pv 0) (pa_cons (pv 6) pa_nil))) (pa_cons (pv 2) pa_nil)))))
  pss_nil)))), fun m B0 H0 ⟨p, b⟩ Q hp ha q => ?_⟩)
  have hpu : PuAt m p := ha
  refine st_setx (P := fun _ => True) (F := dB) (eb_xeq (ev_dig hpu rfl kI (by decide)) kI) (fun d _ => ?_)
  refine st_if (P := fun _ => True) (eb_testx (eb_xeq (ev_dig hpu rfl kI (by decide)) kI)) (fun _ => ?_) (fun _ => st_nxt ?_)
  · refine st_set (R := rL (usO.map (rPr K))) (ev_lst (ea_cons (ev_tup (ea2 kI kI)) (ea_cons (ev_tup (ea2 kI kI)) (ea_cons (ev_tup (ea2 kI kI)) (ea_cons (ev_tup (ea2 kI kI)) (ea2 (ev_tup (ea2 kI kI)) (ev_tup (ea2 kI kI)))))))) ?_
    refine st_cut [some (rV (.ref p)), some (dB b), some (dB d), some (rL ((usL b).map (rPr K))), none, none, none] (I0 m B0 H0 hp) ?_ ?_
    · refine st_if (eb_B (vr 1)) (fun h => ?_) (fun h => st_nxt (st_to ?_ fun B H h => h))
      · subst h
        refine st_set (R := rL ((usL true).map (rPr K))) (ev_cat (Rs := usO.map (rPr K)) (Ss := usI.map (rPr K)) (vr 3) (ev_lst (ea_cons (ev_tup (ea2 kI kI)) (ea_cons (ev_tup (ea2 kI kI)) (ea_cons (ev_tup (ea2 kI kI)) (ea_cons (ev_tup (ea2 kI kI)) (ea_cons (ev_tup (ea2 kI kI)) (ea2 (ev_tup (ea2 kI kI)) (ev_tup (ea2 kI kI))))))))) (show 13 ≤ sizeLine by decide)) (st_nxt (st_to (.same (.same (.same (.same (.skip (.skip (.skip .nil))))))) fun B H h => h))
      · subst h
        exact .same (.same (.same (.same (.skip (.skip (.skip .nil))))))
    · have hl := us_len b
      refine st_asgx (ev_ixE (xs := usL b) (vr 3) (ev_dig hpu rfl ((ev_lenL (vr 3)).to (by rw [List.length_map])) (by omega))) (fun z hz => ⟨_, _, tg_unT tgs2, ?_⟩)
      exact st_ret ((ev_tup (ea_cons (vr 4) (ea2 (vr 5) (vr 2)))).le (le_ex (z.1, z.2, d) (us_ok b d z hz) (Le.refl _))) q
  · refine st_set (R := dI (if b = true then 18 else 12)) (ev_if (eb_B (vr 1)) (fun h => kI.to (by rw [if_pos h.symm])) (fun h => kI.to (by have h' : false = b := h; subst h'; rfl))) ?_
    have hn : 0 < (if b = true then (18 : Int) else 12) ∧ (if b = true then (18 : Int) else 12) ≤ 1000003 := by cases b <;> decide
    refine st_ret ((ev_tup (K := K) (ea_cons (ev_dig hpu rfl (vr 6) hn) (ea2 (ev_dig hpu rfl (vr 6) hn) (vr 2)))).le ?_) q
    refine Le.trans (le_T (.cons (Le.refl _) (.cons (Le.refl _) (.cons le_one .nil)))) (Le.trans le_T3 (ex_le fun z hz => le_ex (z.1.toNat, z.2.1.toNat, d) ?_ (le_eq ?_)))
    · obtain ⟨⟨h1, h2⟩, ⟨h3, h4⟩, _⟩ := hz
      cases b with
      | true =>
        rw [if_pos rfl] at h2 h4
        exact ⟨show z.1.toNat < 18 by omega, show z.2.1.toNat < 18 by omega, .inl rfl⟩
      | false =>
        rw [if_neg (by decide)] at h2 h4
        exact ⟨show z.1.toNat < 18 by omega, show z.2.1.toNat < 18 by omega, .inr ⟨show z.1.toNat < 12 by omega, show z.2.1.toNat < 12 by omega⟩⟩
    · obtain ⟨⟨h1, h2⟩, ⟨h3, h4⟩, _⟩ := hz
      show rT K [dI z.1, dI z.2.1, dB d] = rT K [dI ((z.1.toNat : Nat) : Int), dI ((z.2.1.toNat : Nat) : Int), dB d]
      rw [Int.toNat_of_nonneg h1, Int.toNat_of_nonneg h3]
/-! ### a deed -/
abbrev dNs (xs : List Nat) : List Rp := xs.map fun (k : Nat) => dI (k : Int)
/-- spots that are taken, spots that are left -/
def TkOk (k : Nat) (e : List Nat × List Nat) : Prop := e.1.length = k ∧ e.2.length = 8 - k ∧ (e.1 ++ e.2).Nodup ∧ ∀ x ∈ e.1 ++ e.2, x < 8
theorem tk_step {k : Nat} {e : List Nat × List Nat} (h : TkOk k e) {j : Nat} (hj : j < e.2.length) : TkOk (k + 1) (e.1 ++ [e.2[j]], e.2.take j ++ e.2.drop (j + 1)) := by
  obtain ⟨h1, h2, h3, h4⟩ := h
  have e2 : e.2 = e.2.take j ++ e.2[j] :: e.2.drop (j + 1) := by
    rw [← List.drop_eq_getElem_cons hj, List.take_append_drop]
  have pm : ((e.1 ++ [e.2[j]]) ++ (e.2.take j ++ e.2.drop (j + 1))).Perm (e.1 ++ e.2) := by
    rw [List.append_assoc]
    conv => rhs; rw [e2]
    refine List.Perm.append_left _ ?_
    show (e.2[j] :: (e.2.take j ++ e.2.drop (j + 1))).Perm _
    exact List.perm_middle.symm
  refine ⟨?_, ?_, (pm.nodup_iff).mpr h3, fun x hx => h4 x (pm.mem_iff.mp hx)⟩
  · show (e.1 ++ [e.2[j]]).length = _
    rw [List.length_append, h1] <;> rfl
  · show (e.2.take j ++ e.2.drop (j + 1)).length = _
    rw [List.length_append, List.length_take, List.length_drop]
    omega
def wds : List Nat := [0, 1, 2, 3, 2, 3]
abbrev sp_law_deed : Sp := spM (fun _ (a : Addr) => [rV (.ref a)]) (fun m a => PuAt m a) (fun _ _ => rEx DdOk (rLd K))
theorem wd_eq {k : Nat} (h : k < 4) : decide (wordText k = ("turn" : Str)) = decide (k = 3) := by
  have h' : ∀ k, k < 4 → decide (wordText k = ("turn" : Str)) = decide (k = 3) := by decide +kernel
  exact h' k h
theorem c_law_deed (T : Tx w K mg) (c_law_dig : Cal P w K mg base 1 "_law_dig" sp_law_dig) (D : Df K mg "_law_deed" "_law_deed" s_law_deed) : Cal P w K mg base 2 "_law_deed" (sp_law_deed (K := K)) := by
  refine cal_ofM D sc_law_deed (fun _ _ _ _ _ _ us hl => match us, hl with | [_], _ => rfl) (fun _ _ => rfl) (by decide) (fun f cdv A outer s H E hr => ⟨_, (pss_cons (ps_set (i := 1) sc_law_deed.nd rfl (.inl rfl) (pe_ix (ix_seqK (K := K) rfl) (pe_lst (pa_cons pe_str (pa_cons pe_str (pa_cons pe_str (pa_cons pe_str (pa_cons pe_str (pa_cons pe_str pa_nil))))))) (pe_cal c_law_dig hr (by decide) (by rfl) (pa_cons (pv 0) (pa_cons pe_int pa_nil))) (fun _ _ => rfl)))
  (pss_cons (ps_set (i := 2) sc_law_deed.nd rfl (.inl rfl) (pe_ifExp (pt_cmpR (op_eqK (K := K) hr rfl rfl) (pv 1) pe_str (nomark _)) (pe_op op_addA pe_int (pe_cal c_law_dig hr (by decide) (by rfl) (pa_cons (pv 0) (pa_cons pe_int pa_nil)))) pe_int))
  (pss_cons (ps_par (i := 3) (j := 4) rfl sc_law_deed.nd rfl rfl (by decide) rfl rfl (pa_cons (pe_lst (pa_cons pe_int (pa_cons pe_int (pa_cons pe_int (pa_cons pe_int (pa_cons pe_int (pa_cons pe_int (pa_cons pe_int (pa_cons pe_int pa_nil))))))))) (pa_cons (pe_lst pa_nil) pa_nil)) (by rfl))
  (pss_cons (ps_for PassesOwn.never rfl (pi_range1 (by rfl) T.b_range (pa_cons (pv 2) pa_nil)) (pg_nameX (i := 5) sc_law_deed.nd rfl (.inl rfl) (.inr rfl))
  (pss_cons (ps_set (i := 6) sc_law_deed.nd rfl (.inl rfl) (pe_cal c_law_dig hr (by decide) (by rfl) (pa_cons (pv 0) (pa_cons (pe_op op_sub pe_int (pv 5)) pa_nil))))
  (pss_cons (ps_expr (pe_bm PySem.F.plainAttrs_list PySem.F.slot_list_append PySem.F.type_list_append mt_append (pv 4) (pa_cons (pe_ix (ix_seqK (K := K) rfl) (pv 3) (pv 6) (fun _ _ => rfl)) pa_nil)))
  (pss_cons (ps_set (i := 3) sc_law_deed.nd rfl (.inl rfl) (pe_op op_addA (pe_slice (sl_seqK (K := K) rfl) (pv 3) po_none (po_some (pv 6))) (pe_slice (sl_seqK (K := K) rfl) (pv 3) (po_some (pe_op op_addA (pv 6) pe_int)) po_none)))
  pss_nil))))
  (pss_cons (ps_set (i := 7) sc_law_deed.nd rfl (.inl rfl) pe_non)
  (C8.pss_cut (ps_if (pt_cmpR (op_eqK (K := K) hr rfl rfl) (pe_cal c_law_dig hr (by decide) (by rfl) (pa_cons (pv 0) (pa_cons pe_int pa_nil))) pe_int (nomark _))
  (pss_cons (ps_par (i := 8) (j := 9) rfl sc_law_deed.nd rfl rfl (by decide) rfl rfl (pa_cons (pe_cal c_law_dig hr (by decide) (by rfl) (pa_cons (pv 0) (pa_cons pe_int pa_nil))) (pa_cons (pe_cal c_law_dig hr (by decide) (by rfl) (pa_cons (pv 0) (pa_cons pe_int pa_nil))) pa_nil)) (by rfl))
  (pss_cons (ps_set (i := 7) sc_law_deed.nd rfl (.inl rfl) (pe_tup (pa_cons (pv 8) (pa_cons (pe_cal c_law_dig hr (by decide) (by rfl) (pa_cons (pv 0) (pa_cons pe_int pa_nil))) (pa_cons (pe_ifExp (pt_cmpR op_lt (pv 9) (pv 8) (nomark _)) (pv 9) (pe_op op_addA (pv 9) pe_int)) pa_nil)))))
  pss_nil))
  pss_nil)
  (pss_cons (ps_ret (pe_tup (pa_cons (pv 1) (pa_cons (pv 4) (pa_cons (pv 7) pa_nil)))))
  pss_nil))))))), fun m B0 H0 p Q hp ha q => ?_⟩)
  have hpu : PuAt m p := ha
  have hs : sizeLine = 16777216 := sizeLine_eq
  refine st_setx (ev_ixE (xs := wds) (F := fun k => dS (wordText k)) (ev_lst (ea_cons kS (ea_cons kS (ea_cons kS (ea_cons kS (ea2 kS kS)))))) (ev_dig hpu rfl kI (by decide))) (fun k hk => ?_)
  have hk4 : k < 4 := by
    have h : ∀ k ∈ wds, k < 4 := by decide
    exact h k hk
  refine st_setx (P := fun n : Nat => few k ≤ n ∧ n ≤ most k) (F := fun n : Nat => dI (n : Int)) (ev_if (eb_test (ev_eqS (vr 1) kS)) (fun h => ?_) (fun h => ?_)) (fun n hn => ?_)
  · rw [wd_eq hk4] at h
    have e3 : k = 3 := of_decide_eq_true h.symm
    refine (ev_xadd (ev_kx kI) (ev_dig hpu rfl kI (by decide))).le (ex_le fun z hz => le_ex z.toNat ?_ (le_eq ?_))
    · obtain ⟨x, y, hx, ⟨hy1, hy2⟩, hz⟩ := hz
      unfold few most
      rw [if_pos e3, if_pos e3]
      omega
    · obtain ⟨x, y, hx, ⟨hy1, hy2⟩, hz⟩ := hz
      show dI z = dI ((z.toNat : Nat) : Int)
      rw [Int.toNat_of_nonneg (by omega)]
  · rw [wd_eq hk4] at h
    have e3 : ¬ k = 3 := of_decide_eq_false h.symm
    refine kI.le (le_ex 2 ?_ (Le.refl _))
    unfold few most
    rw [if_neg e3, if_neg e3]
    omega
  have hn8 : n ≤ 8 := Nat.le_trans hn.2 (by unfold most; split <;> decide)
  refine st_parNew (Ra := rL (dNs [0, 1, 2, 3, 4, 5, 6, 7])) (by decide) (ev_lst (ea_cons kI (ea_cons kI (ea_cons kI (ea_cons kI (ea_cons kI (ea_cons kI (ea2 kI kI)))))))) (fun a => ?_)
  refine st_forG (fun _ (e : List Nat × List Nat) => [some (rV (.ref p)), some (dS (wordText k)), some (dI (n : Int)), some (rL (dNs e.2)), some (rV (.ref a)), none, none, none, none, none]) TkOk (fun J _ (e : List Nat × List Nat) => iLst J a (dNs e.1)) (fun e => fam_lst) ([], [0, 1, 2, 3, 4, 5, 6, 7]) ⟨rfl, rfl, by decide, by decide⟩ (ei_rngN (ea1 (vr 2)) (by omega)) (.same (.same (.same (.same (.same (.skip (.skip (.skip (.skip (.skip .nil)))))))))) (fun J i R e hJ hi hR he => ?_) (fun e he => ?_)
  · obtain rfl : dI (i : Int) = R := Option.some.inj hR
    refine ⟨_, _, tg_name, ?_⟩
    refine st_setx (ev_dig hpu rfl (ev_sub kI (vr 5)) (by omega)) (fun x hx => ?_)
    obtain ⟨j, rfl⟩ := Int.eq_ofNat_of_zero_le hx.1
    have hx2 := hx.2
    have hj : j < e.2.length := by have := he.2.1; omega
    have hl1 := he.1
    have hl2 := he.2.1
    refine st_app (R := dI ((e.2[j] : Nat) : Int)) (vr 4) (ev_ixL (vr 3) (vr 6) (atN (by rw [List.getElem?_map, List.getElem?_eq_getElem hj] <;> rfl))) (by rw [List.length_map]; omega) ?_
    refine st_set (R := rL (dNs (e.2.take j ++ e.2.drop (j + 1)))) ((ev_cat (ev_upto (vr 3) (vr 6)) (ev_past (k := j + 1) (vr 3) ((ev_add (vr 6) kI).to rfl)) ?_).to (by rw [← List.map_take, ← List.map_drop, ← List.map_append])) (st_toP (e.1 ++ [e.2[j]], e.2.take j ++ e.2.drop (j + 1)) (tk_step he hj) (.same (.same (.same (.same (.same (.skip (.skip (.skip (.skip (.skip .nil)))))))))) fun B H h => ?_)
    · rw [List.length_take, List.length_drop, List.length_map]
      omega
    · show (iLst J a (dNs (e.1 ++ [e.2[j]]))).p B H
      rw [show dNs (e.1 ++ [e.2[j]]) = dNs e.1 ++ [dI ((e.2[j] : Nat) : Int)] from List.map_append ..]
      exact h
  · refine st_set (R := dN) kN ?_
    refine st_cut [some (rV (.ref p)), some (dS (wordText k)), none, none, some (rV (.ref a)), none, none, some (rEx GoOk (rGd K)), none, none] (iLst (I0 m B0 H0 hp) a (dNs e.1)) ?_ ?_
    · refine st_if (P := fun _ => True) (eb_testx (eb_xeq (ev_dig hpu rfl kI (by decide)) kI)) (fun _ => ?_) (fun _ => st_nxt (st_to (.same (.same (.skip (.skip (.same (.skip (.skip (.cons (le_ex none (fun z hz => nomatch hz) (Le.refl _)) (.skip (.skip .nil)))))))))) fun B H h => h))
      refine st_par (Ra := rI1 (Rg 0 4)) (Rb := rI1 (Rg 0 3)) (by decide) (ea2 (ev_dig hpu rfl kI (by decide)) (ev_dig hpu rfl kI (by decide))) ?_
      refine st_open 8 rfl (fun x hx => st_open 9 rfl (fun y hy => ?_))
      refine st_set (R := rEx GoOk (rGd K)) ((ev_tup (K := K) (ea_cons (vr 8) (ea2 (ev_dig hpu rfl kI (by decide)) (ev_if (R := dI (if y < x then y else y + 1)) (eb_test (ev_lt (vr 9) (vr 8))) (fun h => (vr 9).to (by rw [if_pos (of_decide_eq_true h.symm)])) (fun h => (ev_add (vr 9) kI).to (by rw [if_neg (of_decide_eq_false h.symm)])))))).le ?_) (st_nxt (st_to (.same (.same (.skip (.skip (.same (.skip (.skip (.same (.skip (.skip .nil)))))))))) fun B H h => h))
      refine Le.trans (le_T (.cons le_one (.cons (Le.refl _) (.cons le_one .nil)))) (Le.trans le_T3 (ex_le fun z hz => le_ex (some (x.toNat, z.2.1.toNat, (if y < x then y else y + 1).toNat)) ?_ (le_eq ?_)))
      · obtain ⟨_, ⟨h1, h2⟩, _⟩ := hz
        obtain ⟨hx1, hx2⟩ := hx
        obtain ⟨hy1, hy2⟩ := hy
        intro g hg
        obtain rfl := Option.some.inj hg
        refine ⟨show x.toNat < 4 by omega, show z.2.1.toNat < 4 by omega, show (if y < x then y else y + 1).toNat < 4 by split <;> omega, show x.toNat ≠ (if y < x then y else y + 1).toNat by split <;> omega⟩
      · obtain ⟨_, ⟨h1, h2⟩, _⟩ := hz
        show rT K [dI x, dI z.2.1, dI (if y < x then y else y + 1)] = rT K [dI ((x.toNat : Nat) : Int), dI ((z.2.1.toNat : Nat) : Int), dI (((if y < x then y else y + 1).toNat : Nat) : Int)]
        rw [Int.toNat_of_nonneg hx.1, Int.toNat_of_nonneg h1, Int.toNat_of_nonneg (by have := hy.1; split <;> omega)]
    · refine st_frz 4 rfl (st_open 7 rfl (fun g hg => st_ret ((ev_tup (ea_cons (vr 1) (ea2 (vr 4) (vr 7)))).le (le_ex ⟨k, e.1, g⟩ ?_ (Le.refl _))) q))
      obtain ⟨h1, h2, h3, h4⟩ := he
      exact ⟨hk4, show few k ≤ e.1.length by rw [h1]; exact hn.1, show e.1.length ≤ most k by rw [h1]; exact hn.2, fun x hx => h4 x (List.mem_append_left _ hx), (List.nodup_append.mp h3).1, hg⟩
end
end Sq
/-! Sq, part F34: a drawn program, size and cell. -/
namespace Sq
open PySem PySem.Spec PyProof.Rows L2
section
variable {P : Program} {w : World} {K : PySem.W.Frag} {mg : Str → Option Value} {base : Heap} {m : Mt} {Γ : Gm} {ta tb te : TE} {p : Addr} {i : Nat}
abbrev sp_law_nest : Sp := spM (fun _ (a : Addr) => [rV (.ref a), dI 4]) (fun m a => PuAt m a) (fun _ _ => rEx NsOk (rLns K))
theorem c_law_nest (T : Tx w K mg) (c_law_dig : Cal P w K mg base 1 "_law_dig" sp_law_dig) (c_law_loop : Cal P w K mg base 2 "_law_loop" (sp_law_loop (K := K))) (c_law_deed : Cal P w K mg base 2 "_law_deed" (sp_law_deed (K := K))) (D : Df K mg "_law_nest" "_law_nest" s_law_nest) : Cal P w K mg base 3 "_law_nest" (sp_law_nest (K := K)) := by
  refine cal_ofM D sc_law_nest (fun _ _ _ _ _ _ us hl => match us, hl with | [_, _], _ => rfl) (fun _ _ => rfl) (by decide) (fun f cdv A outer s H E hr => ⟨_, (pss_cons (ps_par (i := 2) (j := 3) rfl sc_law_nest.nd rfl rfl (by decide) rfl rfl (pa_cons (pe_cal c_law_loop hr (by decide) (by rfl) (pa_cons (pv 0) (pa_cons pe_bl pa_nil))) (pa_cons (pe_cal c_law_loop hr (by decide) (by rfl) (pa_cons (pv 0) (pa_cons pe_bl pa_nil))) pa_nil)) (by rfl))
  (pss_cons (ps_ret (pe_tup (pa_cons (pv 2) (pa_cons (pv 3) (pa_cons (pe_lcX (own := [("_law_k", 4)]) rfl sc_law_nest.nd (pi_range1 (by rfl) T.b_range (pa_cons (pe_op op_addA pe_int (pe_cal c_law_dig hr (by decide) (by rfl) (pa_cons (pv 0) (pa_cons (pv 1) pa_nil)))) pa_nil)) (blkOk_by (N := ["_law_purl_here", "_law_deeds_most", "_law_outer", "_law_inner", "_law_k"]) (sc := defScope s_law_nest) (own := [("_law_k", 4)]) (by decide +kernel)) (fun _ _ _ _ _ => (pg_nameX (i := 4) sc_law_nest.nd rfl (.inl rfl) (.inr rfl))) (fun _ _ _ _ _ => pts_nil) (fun _ _ _ _ _ => (pe_cal c_law_deed hr (by decide) (by rfl) (pa_cons (pv 0) pa_nil))) (fun _ => rfl)) pa_nil)))))
  pss_nil)), fun m B0 H0 p Q hp ha q => ?_⟩)
  have hpu : PuAt m p := ha
  have hs : sizeLine = 16777216 := sizeLine_eq
  refine st_par (Ra := rEx (LpOk false) (rLoop K)) (Rb := rEx (LpOk true) (rLoop K)) (by decide) (ea2 (ev_callM (p, false) hpu (ea2 (vr 0) kB)) (ev_callM (p, true) hpu (ea2 (vr 0) kB))) ?_
  refine st_open 2 rfl (fun a ha => st_open 3 rfl (fun b hb => ?_))
  refine st_ret ((ev_tup (K := K) (ea_cons (vr 2) (ea2 (vr 3) (ev_lcx (P := Rg 1 5) (n := Int.toNat) (rEx DdOk (rLd K)) (fun a ha => by have := ha.2; omega) (ei_rngx (lo := 1) (hi := 5) (ea1 ((ev_xadd (ev_kx kI) (ev_dig hpu rfl (vr 1) (by decide))).le (rI_le fun z hz => by obtain ⟨x, y, h1, h2, h3⟩ := hz; have := h2.1; have := h2.2; exact ⟨by omega, by omega⟩))) (by decide) (by decide)) (fun a k R ha hk hR => ⟨_, _, tg_name, fun j hj => hj, ev_callM p hpu (ea1 (vr 0))⟩))))).le ?_) q
  refine Le.trans (le_T (.cons le_one (.cons le_one (.cons (ex_le fun a ha => Le.trans le_choose (ex_le fun zs hzs => le_ex (P := fun ds : List Dd => (∀ d ∈ ds, DdOk d) ∧ 1 ≤ ds.length ∧ ds.length ≤ 4) (R := fun ds => rL (ds.map (rLd K))) zs ?_ (Le.refl _))) .nil)))) (Le.trans le_T3 (ex_le fun z hz => le_ex ⟨a, b, z.2.2⟩ ⟨ha, hb, hz.2.2.1, hz.2.2.2.1, Nat.le_trans hz.2.2.2.2 (by decide)⟩ (Le.refl _)))
  obtain ⟨h1, h2⟩ := hzs
  rw [List.length_range] at h1
  have := ha.1
  have := ha.2
  exact ⟨h2, by omega, by omega⟩
abbrev sp_law_plan : Sp := spM (fun _ (a : Addr) => [rV (.ref a), dI 2, dI 4]) (fun m a => PuAt m a) (fun _ _ => rEx (fun p => PgOk p ∧ p ≠ []) (rPlan K))
theorem c_law_plan (T : Tx w K mg) (c_law_dig : Cal P w K mg base 1 "_law_dig" sp_law_dig) (c_law_nest : Cal P w K mg base 3 "_law_nest" (sp_law_nest (K := K))) (D : Df K mg "_law_plan" "_law_plan" s_law_plan) : Cal P w K mg base 4 "_law_plan" (sp_law_plan (K := K)) := by
  refine cal_ofM D sc_law_plan (fun _ _ _ _ _ _ us hl => match us, hl with | [_, _, _], _ => rfl) (fun _ _ => rfl) (by decide) (fun f cdv A outer s H E hr => ⟨_, (pss_cons (ps_ret (pe_lcX (own := [("_law_k", 3)]) rfl sc_law_plan.nd (pi_range1 (by rfl) T.b_range (pa_cons (pe_op op_addA pe_int (pe_cal c_law_dig hr (by decide) (by rfl) (pa_cons (pv 0) (pa_cons (pv 1) pa_nil)))) pa_nil)) (blkOk_by (N := ["_law_purl_here", "_law_nests_most", "_law_deeds_most", "_law_k"]) (sc := defScope s_law_plan) (own := [("_law_k", 3)]) (by decide +kernel)) (fun _ _ _ _ _ => (pg_nameX (i := 3) sc_law_plan.nd rfl (.inl rfl) (.inr rfl))) (fun _ _ _ _ _ => pts_nil) (fun _ _ _ _ _ => (pe_cal c_law_nest hr (by decide) (by rfl) (pa_cons (pv 0) (pa_cons (pv 2) pa_nil)))) (fun _ => rfl)))
  pss_nil), fun m B0 H0 p Q hp ha q => ?_⟩)
  have hpu : PuAt m p := ha
  have hs : sizeLine = 16777216 := sizeLine_eq
  refine st_ret ((ev_lcx (P := Rg 1 3) (n := Int.toNat) (rEx NsOk (rLns K)) (fun a ha => by have := ha.2; omega) (ei_rngx (lo := 1) (hi := 3) (ea1 ((ev_xadd (ev_kx kI) (ev_dig hpu rfl (vr 1) (by decide))).le (rI_le fun z hz => by obtain ⟨x, y, h1, h2, h3⟩ := hz; have := h2.1; have := h2.2; exact ⟨by omega, by omega⟩))) (by decide) (by decide)) (fun a k R ha hk hR => ⟨_, _, tg_name, fun j hj => hj, ev_callM p hpu (ea2 (vr 0) (vr 2))⟩)).le ?_) q
  refine ex_le fun a ha => Le.trans le_choose (ex_le fun zs hzs => le_ex zs ?_ (Le.refl _))
  obtain ⟨h1, h2⟩ := hzs
  rw [List.length_range] at h1
  have := ha.1
  have := ha.2
  refine ⟨⟨h2, by omega⟩, fun e => ?_⟩
  rw [e, List.length_nil] at h1
  omega
theorem ten30 : (10 : Int) ^ 30 = 1000000000000000000000000000000 := by decide +kernel
abbrev sp_law_far : Sp := spM (fun _ (a : Addr) => [rV (.ref a)]) (fun m a => PuAt m a) (fun _ _ => rI1 fun n => 1 ≤ n ∧ n ≤ 10 ^ 30)
theorem c_law_far (T : Tx w K mg) (c_law_dig : Cal P w K mg base 1 "_law_dig" sp_law_dig) (D : Df K mg "_law_far" "_law_far" s_law_far) : Cal P w K mg base 2 "_law_far" sp_law_far := by
  refine cal_ofM D sc_law_far (fun _ _ _ _ _ _ us hl => match us, hl with | [_], _ => rfl) (fun _ _ => rfl) (by decide) (fun f cdv A outer s H E hr => ⟨_, (pss_cons (ps_if (pt_cmpR (op_eqK (K := K) hr rfl rfl) (pe_cal c_law_dig hr (by decide) (by rfl) (pa_cons (pv 0) (pa_cons pe_int pa_nil))) pe_int (nomark _))
  (pss_cons (ps_ret (pe_op op_addA pe_int (pe_cal c_law_dig hr (by decide) (by rfl) (pa_cons (pv 0) (pa_cons pe_int pa_nil)))))
  pss_nil)
  pss_nil)
  (pss_cons (ps_par (i := 1) (j := 2) rfl sc_law_far.nd rfl rfl (by decide) rfl rfl (pa_cons (pe_op op_addA pe_int (pe_cal c_law_dig hr (by decide) (by rfl) (pa_cons (pv 0) (pa_cons pe_int pa_nil)))) (pa_cons pe_int pa_nil)) (by rfl))
  (pss_cons (ps_for PassesOwn.never rfl (pi_range1 (by rfl) T.b_range (pa_cons (pv 1) pa_nil)) (pg_nameX (i := 3) sc_law_far.nd rfl (.inl rfl) (.inr rfl))
  (pss_cons (ps_set (i := 2) sc_law_far.nd rfl (.inl rfl) (pe_op op_addA (pe_op op_mulX (pv 2) pe_int) (pe_cal c_law_dig hr (by decide) (by rfl) (pa_cons (pv 0) (pa_cons pe_int pa_nil)))))
  pss_nil))
  (pss_cons (ps_ret (pe_op op_addA pe_int (pe_op op_mod (pe_callTy call_int1 (by rfl) T.b_int (by decide +kernel) (pa_cons (pv 2) pa_nil)) (pe_op op_pow pe_int pe_int))))
  pss_nil)))), fun m B0 H0 p Q hp ha q => ?_⟩)
  have hpu : PuAt m p := ha
  have e30 := ten30
  refine st_if (P := fun _ => True) (eb_testx (eb_xeq (K := K) (ev_dig hpu rfl kI (by decide)) kI)) (fun _ => ?_) (fun _ => st_nxt ?_)
  · refine st_ret ((ev_xadd (ev_kx kI) (ev_dig hpu rfl kI (by decide))).le (rI_le fun z ⟨x, y, h1, h2, h3⟩ => ?_)) q
    have := h2.1
    have := h2.2
    rw [e30]
    omega
  · refine st_par (Ra := rI1 (Rg 2 31)) (Rb := dI 0) (by decide) (ea2 ((ev_xadd (ev_kx kI) (ev_dig hpu rfl kI (by decide))).le (rI_le fun z hz => by obtain ⟨x, y, h1, h2, h3⟩ := hz; have := h2.1; have := h2.2; exact ⟨by omega, by omega⟩)) kI) ?_
    refine st_open 1 rfl (fun n hn => ?_)
    obtain ⟨k, rfl⟩ := Int.eq_ofNat_of_zero_le (show 0 ≤ n by have := hn.1; omega)
    have hk : k ≤ 30 := by have := hn.2; omega
    refine st_forR (F := fun i => dI (i : Int)) (fun i => [some (rV (.ref p)), some (dI (k : Int)), some (rEx (fun y : Nat => y < 10 ^ i) fun y => dI (y : Int)), none]) (fun J _ => J) fam_id (ei_rngN (ea1 (vr 1)) (by omega)) (.same (.same (.cons (le_ex 0 (by decide) (Le.refl _)) (.skip .nil)))) (fun J i hJ hi => ⟨_, _, tg_name, ?_⟩) ?_
    · refine st_open 2 rfl (fun y hy => ?_)
      refine st_set (R := rEx (fun y : Nat => y < 10 ^ (i + 1)) fun y => dI (y : Int)) ((ev_xadd (ev_kx (ev_mul (vr 2) kI (mulx_ok (a := 110) (b := 10) ?_ (by decide) (by decide)))) (ev_dig hpu rfl kI (by decide))).le (ex_le fun z hz => le_ex z.toNat ?_ (le_eq ?_))) (st_to (.same (.same (.same (.skip .nil)))) fun B H h => h)
      · have h1 : 10 ^ i ≤ 10 ^ 30 := Nat.pow_le_pow_right (by decide) (by omega)
        have h2 : (10 : Nat) ^ 30 < 2 ^ 110 := by decide
        rw [Int.natAbs_natCast]
        omega
      · obtain ⟨a, b, h1, h2, h3⟩ := hz
        have := h2.1
        have := h2.2
        rw [Nat.pow_succ]
        generalize 10 ^ i = t at hy
        omega
      · obtain ⟨a, b, h1, h2, h3⟩ := hz
        have := h2.1
        rw [Int.toNat_of_nonneg (by omega)]
    · refine st_ret ((ev_xadd (ev_kx kI) (ev_xmod (ev_xint (P := fun _ => True) (EvG.le (R := rEx (fun y : Nat => y < 10 ^ k) fun y => dI (y : Int)) (vr 2) (ex_le fun y hy => le_ex (y : Int) trivial (Le.refl _)))) (ev_pow kI kI ⟨by decide, by decide, by decide⟩) (by decide +kernel))).le (rI_le fun z ⟨x, y, h1, h2, h3⟩ => ?_)) q
      have := h2.1
      have h4 : y < 10 ^ (30 : Int).toNat := h2.2
      rw [show (30 : Int).toNat = 30 from rfl, e30] at h4
      rw [e30]
      omega
/-! a cell -/
theorem ev_xsub {P P' : Int → Prop} (ha : EvG m ta Γ (rI1 P)) (hb : EvG m tb Γ (rI1 P')) : EvG m (tOp (rI0 fun i j => .int (i - j)) ta tb) Γ (rI1 fun z => ∃ x y, P x ∧ P' y ∧ z = x - y) :=
  ev_op ha hb (bin_now fun B H x y _ ⟨a, pa, hx⟩ ⟨b, pb, hy⟩ => ⟨.int (a - b), ⟨a - b, ⟨a, b, pa, pb, rfl⟩, rfl⟩, fun Q q => ⟨a, b, hx, hy, q⟩⟩)
abbrev sp_law_spot : Sp := spM (fun _ (z : Addr × Int) => [rV (.ref z.1), dI z.2]) (fun m z => PuAt m z.1 ∧ 1 ≤ z.2) (fun _ z => rEx (InT z.2) (rCell K))
theorem c_law_spot (T : Tx w K mg) (c_law_dig : Cal P w K mg base 1 "_law_dig" sp_law_dig) (D : Df K mg "_law_spot" "_law_spot" s_law_spot) : Cal P w K mg base 2 "_law_spot" (sp_law_spot (K := K)) := by
  refine cal_ofM D sc_law_spot (fun _ _ _ _ _ _ us hl => match us, hl with | [_, _], _ => rfl) (fun _ _ => rfl) (by decide) (fun f cdv A outer s H E hr => ⟨_, (pss_cons (ps_set (i := 2) sc_law_spot.nd rfl (.inl rfl) (pe_cal c_law_dig hr (by decide) (by rfl) (pa_cons (pv 0) (pa_cons pe_int pa_nil))))
  (pss_cons (ps_set (i := 3) sc_law_spot.nd rfl (.inl rfl) (pe_op op_mod (pe_callTy call_int1 (by rfl) T.b_int (by decide +kernel) (pa_cons (pe_op op_addA (pe_op op_mulX (pe_cal c_law_dig hr (by decide) (by rfl) (pa_cons (pv 0) (pa_cons pe_int pa_nil))) (pe_op op_pow pe_int pe_int)) (pe_cal c_law_dig hr (by decide) (by rfl) (pa_cons (pv 0) (pa_cons pe_int pa_nil)))) pa_nil)) (pv 1)))
  (pss_cons (ps_set (i := 4) sc_law_spot.nd rfl (.inl rfl) (pe_op op_mod (pe_callTy call_int1 (by rfl) T.b_int (by decide +kernel) (pa_cons (pe_op op_addA (pe_op op_mulX (pe_cal c_law_dig hr (by decide) (by rfl) (pa_cons (pv 0) (pa_cons pe_int pa_nil))) (pe_op op_pow pe_int pe_int)) (pe_cal c_law_dig hr (by decide) (by rfl) (pa_cons (pv 0) (pa_cons pe_int pa_nil)))) pa_nil)) (pv 1)))
  (C8.pss_cut (ps_if (pt_cmpR (op_eqK (K := K) hr rfl rfl) (pv 2) pe_int (nomark _))
  (pss_cons (ps_par (i := 3) (j := 4) rfl sc_law_spot.nd rfl rfl (by decide) rfl rfl (pa_cons (pe_op op_mod (pe_callTy call_int1 (by rfl) T.b_int (by decide +kernel) (pa_cons (pe_cal c_law_dig hr (by decide) (by rfl) (pa_cons (pv 0) (pa_cons pe_int pa_nil))) pa_nil)) (pv 1)) (pa_cons (pe_op op_mod (pe_callTy call_int1 (by rfl) T.b_int (by decide +kernel) (pa_cons (pe_cal c_law_dig hr (by decide) (by rfl) (pa_cons (pv 0) (pa_cons pe_int pa_nil))) pa_nil)) (pv 1)) pa_nil)) (by rfl))
  pss_nil)
  pss_nil)
  (C8.pss_cut (ps_if (pt_cmpR (op_eqK (K := K) hr rfl rfl) (pv 2) pe_int (nomark _))
  (pss_cons (ps_set (i := 3) sc_law_spot.nd rfl (.inl rfl) (pe_op op_mod (pe_callTy call_int1 (by rfl) T.b_int (by decide +kernel) (pa_cons (pe_op op_addA (pe_op op_fdivW (pv 1) pe_int) (pe_cal c_law_dig hr (by decide) (by rfl) (pa_cons (pv 0) (pa_cons pe_int pa_nil)))) pa_nil)) (pv 1)))
  (pss_cons (ps_set (i := 4) sc_law_spot.nd rfl (.inl rfl) (pe_op op_mod (pe_callTy call_int1 (by rfl) T.b_int (by decide +kernel) (pa_cons (pe_op op_addA (pe_op op_fdivW (pv 1) pe_int) (pe_cal c_law_dig hr (by decide) (by rfl) (pa_cons (pv 0) (pa_cons pe_int pa_nil)))) pa_nil)) (pv 1)))
  pss_nil))
  pss_nil)
  (C8.pss_cut (ps_if (pt_cmpR (op_eqK (K := K) hr rfl rfl) (pv 2) pe_int (nomark _))
  (pss_cons (ps_set (i := 4) sc_law_spot.nd rfl (.inl rfl) (pe_op op_mod (pe_callTy call_int1 (by rfl) T.b_int (by decide +kernel) (pa_cons (pe_op op_addA (pv 3) (pe_cal c_law_dig hr (by decide) (by rfl) (pa_cons (pv 0) (pa_cons pe_int pa_nil)))) pa_nil)) (pv 1)))
  pss_nil)
  pss_nil)
  (C8.pss_cut (ps_if (pt_cmpR (op_eqK (K := K) hr rfl rfl) (pe_cal c_law_dig hr (by decide) (by rfl) (pa_cons (pv 0) (pa_cons pe_int pa_nil))) pe_int (nomark _))
  (pss_cons (ps_set (i := 3) sc_law_spot.nd rfl (.inl rfl) (pe_op op_sub (pe_op op_sub (pv 1) pe_int) (pv 3)))
  pss_nil)
  pss_nil)
  (pss_cons (ps_ret (pe_tup (pa_cons (pv 3) (pa_cons (pv 4) pa_nil))))
  pss_nil)))))))), fun m B0 H0 ⟨p, n⟩ Q hp ha q => ?_⟩)
  obtain ⟨hpu, h1⟩ := ha
  simp only at hpu h1
  have hn : 0 < n := by omega
  have big : ∀ x y : Int, Rg 0 1000003 x → y = 10 ^ (25 : Int).toNat → CMulX x y := fun x y hx hy => mulx_ok (a := 40) (b := 100) (by have := hx.1; have := hx.2; omega) (by rw [hy]; decide) (by decide)
  have p25 : CPow 10 25 := ⟨by decide, by decide, by decide⟩
  refine st_setx (ev_dig hpu rfl kI (by decide)) (fun kk _ => ?_)
  refine st_set (R := rI1 (Rg 0 n)) (ev_xmod (ev_xint (ev_xadd (ev_xmul (ev_dig hpu rfl kI (by decide)) (ev_xpow kI kI p25) big) (ev_dig hpu rfl kI (by decide)))) (vr 1) hn) ?_
  refine st_set (R := rI1 (Rg 0 n)) (ev_xmod (ev_xint (ev_xadd (ev_xmul (ev_dig hpu rfl kI (by decide)) (ev_xpow kI kI p25) big) (ev_dig hpu rfl kI (by decide)))) (vr 1) hn) ?_
  refine st_cut [some (rV (.ref p)), some (dI n), some (dI kk), some (rI1 (Rg 0 n)), some (rI1 (Rg 0 n))] (I0 m B0 H0 hp) ?_ ?_
  · refine st_if (eb_test (ev_eqI (vr 2) kI)) (fun _ => ?_) (fun _ => st_nxt (st_to (.same (.same (.same (.same (.same .nil))))) fun B H h => h))
    exact st_par (Ra := rI1 (Rg 0 n)) (Rb := rI1 (Rg 0 n)) (by decide) (ea2 (ev_xmod (ev_xint (ev_dig hpu rfl kI (by decide))) (vr 1) hn) (ev_xmod (ev_xint (ev_dig hpu rfl kI (by decide))) (vr 1) hn)) (st_nxt (st_to (.same (.same (.same (.same (.same .nil))))) fun B H h => h))
  refine st_cut [some (rV (.ref p)), some (dI n), some (dI kk), some (rI1 (Rg 0 n)), some (rI1 (Rg 0 n))] (I0 m B0 H0 hp) ?_ ?_
  · refine st_if (eb_test (ev_eqI (vr 2) kI)) (fun _ => ?_) (fun _ => st_nxt (st_to (.same (.same (.same (.same (.same .nil))))) fun B H h => h))
    refine st_set (R := rI1 (Rg 0 n)) (ev_xmod (ev_xint (ev_xadd (ev_kx (ev_fdiv (vr 1) kI ⟨by decide, by decide⟩)) (ev_dig hpu rfl kI (by decide)))) (vr 1) hn) ?_
    exact st_set (R := rI1 (Rg 0 n)) (ev_xmod (ev_xint (ev_xadd (ev_kx (ev_fdiv (vr 1) kI ⟨by decide, by decide⟩)) (ev_dig hpu rfl kI (by decide)))) (vr 1) hn) (st_nxt (st_to (.same (.same (.same (.same (.same .nil))))) fun B H h => h))
  refine st_cut [some (rV (.ref p)), some (dI n), some (dI kk), some (rI1 (Rg 0 n)), some (rI1 (Rg 0 n))] (I0 m B0 H0 hp) ?_ ?_
  · refine st_if (eb_test (ev_eqI (vr 2) kI)) (fun _ => ?_) (fun _ => st_nxt (st_to (.same (.same (.same (.same (.same .nil))))) fun B H h => h))
    exact st_set (R := rI1 (Rg 0 n)) (ev_xmod (ev_xint (ev_xadd (vr 3) (ev_dig hpu rfl kI (by decide)))) (vr 1) hn) (st_nxt (st_to (.same (.same (.same (.same (.same .nil))))) fun B H h => h))
  refine st_cut [some (rV (.ref p)), some (dI n), some (dI kk), some (rI1 (Rg 0 n)), some (rI1 (Rg 0 n))] (I0 m B0 H0 hp) ?_ ?_
  · refine st_if (P := fun _ => True) (eb_testx (eb_xeq (ev_dig hpu rfl kI (by decide)) kI)) (fun _ => ?_) (fun _ => st_nxt (st_to (.same (.same (.same (.same (.same .nil))))) fun B H h => h))
    refine st_set (R := rI1 (Rg 0 n)) ((ev_xsub (ev_kx (ev_sub (vr 1) kI)) (vr 3)).le (rI_le fun z hz => by obtain ⟨x, y, h1, h2, h3⟩ := hz; have := h2.1; have := h2.2; exact ⟨by omega, by omega⟩)) (st_nxt (st_to (.same (.same (.same (.same (.same .nil))))) fun B H h => h))
  · refine st_ret ((ev_tup (K := K) (ea2 (R := rI1 (Rg 0 n)) (S := rI1 (Rg 0 n)) (vr 3) (vr 4))).le (Le.trans le_T2 (ex_le fun z hz => ?_))) q
    exact le_ex z ⟨hz.1.1, hz.1.2, hz.2.1, hz.2.2⟩ (Le.refl _)
end
end Sq
/-! Sq, part F35: the law at one purse. -/
namespace Sq
open PySem PySem.Spec PyProof.Rows L2
theorem q4_mem {n x y u : Int} (h : Ltr n x y u) : u ∈ q4 n x y := by
  unfold q4
  simp only [List.mem_cons, List.not_mem_nil, or_false]
  rcases h with (h | h) | (h | h)
  · exact .inl h
  · exact .inr (.inr (.inr h))
  · exact .inr (.inl h)
  · exact .inr (.inr (.inl h))
theorem lz_ok {m n x y X Y : Int} {cs : List Cell} (h : ∀ c ∈ cs, LtC m x y c) (hl : cs.length ≤ 1000) : LzOk ⟨cs, q4 m x y, q4 n X Y⟩ := ⟨fun c hc => ⟨q4_mem (h c hc).1, q4_mem (h c hc).2⟩, rfl, hl⟩
theorem pick_len (n : Int) (c : Cell) (v : Int) : (pick n c v).length ≤ 8 := by
  unfold pick
  rw [List.length_map]
  exact bits_len v
theorem res_len {ms : List Int} {n : Int} {c : Cell} (h : ms.length ≤ 256) : (resV ms n c).length ≤ 256 ∧ ∀ cs ∈ resV ms n c, cs.length ≤ 8 := by
  refine ⟨?_, fun cs hcs => ?_⟩
  · unfold resV leastC
    rw [List.length_mergeSort, List.length_map]
    exact Nat.le_trans (List.length_filter_le _ _) (by rw [List.length_range]; exact h)
  · have h := (List.mergeSort_perm _ _).mem_iff.mp hcs
    obtain ⟨v, _, rfl⟩ := List.mem_map.mp h
    exact pick_len _ _ _
theorem encs_lay : ∀ L : List (List Cell), PyData.canLayAll0 (L.map encT) = true ∧ PyData.depthAll (L.map encT) ≤ 20
  | [] => ⟨rfl, Nat.zero_le _⟩
  | cs :: L => by
    obtain ⟨h1, h2⟩ := encs_lay L
    obtain ⟨g1, g2⟩ := cells_lay cs
    refine ⟨?_, ?_⟩
    · show (PyData.canLay0 (encT cs) && PyData.canLayAll0 (L.map encT)) = true
      rw [h1, Bool.and_true]
      exact g1
    · have h3 : (encT cs).depth ≤ 20 := by unfold encT; simp only [PyData.depth]; omega
      rw [List.map_cons]
      simp only [PyData.depthAll]
      omega
theorem encs_shaped (L : List (List Cell)) : SeqAt.shaped (.tuple (L.map encT)) = true := by
  obtain ⟨h1, h2⟩ := encs_lay L
  unfold SeqAt.shaped
  have h3 : (PyData.tuple (L.map encT)).depth ≤ 64 := by simp only [PyData.depth]; omega
  rw [decide_eq_true h3, Bool.and_true]
  exact h1
def kdD (k : Kd) : PyData := .tuple [.int k.1, .int k.2.1, .int k.2.2]
section
variable {P : Program} {w : World} {K : PySem.W.Frag} {mg : Str → Option Value} {base : Heap} {m : Mt} {Γ : Gm} {ta tb te : TE} {p : Addr} {i : Nat}
theorem le_kd {k : Kd} : Le (rKd K k) (rD K (kdD k)) := Le.trans (le_T (.cons le_id (.cons le_id (.cons le_id .nil)))) (le_td (ds := [.int k.1, .int k.2.1, .int k.2.2]))
theorem le_cellsL {cs : List Cell} : Le (rL (cs.map rCellN)) (rD K (.list (cs.map cellD))) := by
  refine Le.trans (le_L (les_map (fun c => Le.trans le_Tn (le_cd (K := K))) cs)) ?_
  have h := le_ld (K := K) (ds := cs.map cellD)
  rw [List.map_map] at h
  exact h
theorem le_css {L : List (List Cell)} : Le (rT K (L.map (rCs K))) (rD K (.tuple (L.map encT))) := by
  refine Le.trans (le_T (les_map (fun c => le_encT (K := K)) L)) ?_
  have h := le_td (K := K) (ds := L.map encT)
  rw [List.map_map] at h
  exact h
theorem le_cn {cs : List Cell} : Le (rT K (cs.map rCellN)) (rCs K cs) := le_T (les_map (fun c => le_Tn) cs)
/-- the same data do not differ -/
theorem ev_same {d e : PyData} (ha : EvG m ta Γ (rD K d)) (hb : EvG m tb Γ (rD K e)) (he : e = d) (hs : SeqAt.shaped d = true) : EvG m (tOp (rNeA K) ta tb) Γ (dB false) := by
  subst he
  refine (ev_neD ha hb hs hs).to (congrArg dB ?_)
  rw [SeqAt.eqv_refl e (SeqAt.canLay_of_shaped hs)] <;> rfl
abbrev sp_law_ledT : Sp := spF (fun _ (z : Lz) => [rCs K z.cs, rL (z.hs.map dI), rL (z.ts.map dI)]) LzOk (fun _ z => rL ((z.cs.map (ledC z.hs z.ts)).map rCellN))
theorem c_law_ledT (T : Tx w K mg) (D : Df K mg "_law_led" "_law_led" s_law_led) : Cal P w K mg base 1 "_law_led" (sp_law_ledT (K := K)) := by
  refine cal_of D sc_law_led (fun _ _ _ _ _ _ us hl => match us, hl with | [_, _, _], _ => rfl) (fun _ _ => rfl) (by decide) (fun f cdv A outer s H E hr => ⟨_, (pss_cons (ps_ret (pe_lcX (own := [("_law_cell", 3)]) rfl sc_law_led.nd (pi_seqK (K := K) rfl (pv 0)) (blkOk_by (N := ["_law_cells_here", "_law_here", "_law_there", "_law_cell"]) (sc := defScope s_law_led) (own := [("_law_cell", 3)]) (by decide +kernel)) (fun _ _ _ _ _ => (pg_nameX (i := 3) sc_law_led.nd rfl (.inl rfl) (.inr rfl))) (fun _ _ _ _ _ => pts_nil) (fun _ _ _ _ _ => (pe_tup (pa_cons (pe_ix (ix_seqK (K := K) rfl) (pv 2) (pe_indexK (K := K) rfl (pv 1) (pa_cons (pe_ix (ix_seqK (K := K) rfl) (pv 3) pe_int (fun _ _ => rfl)) pa_nil) rfl rfl rfl rfl rfl) (fun _ _ => rfl)) (pa_cons (pe_ix (ix_seqK (K := K) rfl) (pv 2) (pe_indexK (K := K) rfl (pv 1) (pa_cons (pe_ix (ix_seqK (K := K) rfl) (pv 3) pe_int (fun _ _ => rfl)) pa_nil) rfl rfl rfl rfl rfl) (fun _ _ => rfl)) pa_nil)))) (fun _ => rfl)))
  pss_nil), fun m B0 H0 ⟨cs, hs, ts⟩ Q hp ha q => ?_⟩)
  obtain ⟨h1, h2, h3⟩ := ha
  simp only at h1 h2 h3
  refine st_ret ((ev_lcA (xs := cs) (R0 := rCell K) (fun c => rCellN (ledC hs ts c)) (Nat.lt_of_le_of_lt h3 (by decide)) (ei_seqT (vr 0)) (fun c hc => ⟨_, _, tg_name, fun j hj => hj, ev_tupN (ea2 (ev_led (h1 c hc).1 h2 (vr 2) (vr 1) (ev_ixT (vr 3) kI (atN (n := 0) rfl))) (ev_led (h1 c hc).2 h2 (vr 2) (vr 1) (ev_ixT (vr 3) kI (atN (n := 1) rfl))))⟩)).to (by rw [List.map_map] <;> rfl)) q
abbrev sp_law_right : Sp := spM (fun _ (a : Addr) => [rV (.ref a)]) (fun m a => PuAt m a) (fun _ _ => dB true)
theorem c_law_right (T : Ty w K mg) (c_law_plan : Cal P w K mg base 4 "_law_plan" (sp_law_plan (K := K))) (c_law_far : Cal P w K mg base 2 "_law_far" sp_law_far) (c_law_spot : Cal P w K mg base 2 "_law_spot" (sp_law_spot (K := K))) (c_law_sort : Cal P w K mg base 1 "_law_sort" (sp_law_sort (K := K)))
    (c_law_outfar : Cal P w K mg base 5 "_law_outfar" (sp_law_outfar (K := K))) (c_law_out : Cal P w K mg base 4 "_law_out" (sp_law_out (K := K))) (c_Action_of : Cme P w K mg base 7 (He.ga K "Action") "of" (sp_Action_of K P w)) (c_Program_read : Cme P w K mg base 8 (He.ga K "Program") "read" (sp_Program_read K))
    (c_law_text : Cal P w K mg base 3 "_law_text" (sp_law_text (K := K))) (c_law_letters : Cal P w K mg base 1 "_law_letters" sp_law_letters) (c_law_orbit : Cal P w K mg base 2 "_law_orbit" sp_law_orbit) (c_images : Cal P w K mg base 5 "images" (sp_images (K := K)))
    (c_law_led : Cal P w K mg base 1 "_law_led" (sp_law_led (K := K))) (c_law_ledT : Cal P w K mg base 1 "_law_led" (sp_law_ledT (K := K))) (c_kind_of : Cal P w K mg base 5 "kind_of" (sp_kind_of (K := K)))
    (c_Action_result : Own P w K mg base 5 (He.ga K "Action") "result" (sp_Action_result K P w)) (c_Action_reaches : Own P w K mg base 5 (He.ga K "Action") "reaches" (sp_Action_reaches K P w)) (D : Df K mg "_law_right" "_law_right" s_law_right) : Cal P w K mg base 10 "_law_right" sp_law_right := by
  refine cal_ofM D sc_law_right (fun _ _ _ _ _ _ us hl => match us, hl with | [_], _ => rfl) (fun _ _ => rfl) (by decide) (fun f cdv A outer s H E hr => ⟨_, (pss_cons (ps_par (i := 1) (j := 2) rfl sc_law_right.nd rfl rfl (by decide) rfl rfl (pa_cons (pe_cal c_law_plan hr (by decide) (by rfl) (pa_cons (pv 0) (pa_cons pe_int (pa_cons pe_int pa_nil)))) (pa_cons (pe_cal c_law_far hr (by decide) (by rfl) (pa_cons (pv 0) pa_nil)) pa_nil)) (by rfl))
  (pss_cons (ps_asg (pe_cal c_law_spot hr (by decide) (by rfl) (pa_cons (pv 0) (pa_cons (pv 2) pa_nil))) (pg_unK (K := K) rfl rfl rfl rfl (pgs_cons (pg_nameX (i := 3) sc_law_right.nd rfl (.inl rfl) (.inr rfl)) (pgs_cons (pg_nameX (i := 4) sc_law_right.nd rfl (.inl rfl) (.inr rfl)) pgs_nil))))
  (pss_cons (ps_set (i := 5) sc_law_right.nd rfl (.inl rfl) (pe_cal c_law_sort hr (by decide) (by rfl) (pa_cons (pv 2) (pa_cons (pv 3) (pa_cons (pv 4) pa_nil)))))
  (pss_cons (ps_set (i := 6) sc_law_right.nd rfl (.inl rfl) (pe_op op_addA (pe_op op_addA (pe_op op_mulX pe_int (pe_op op_addA (pe_ix (ix_seqK (K := K) rfl) (pv 5) pe_int (fun _ _ => rfl)) (pe_ix (ix_seqK (K := K) rfl) (pv 5) pe_int (fun _ _ => rfl)))) (pe_ix (ix_seqK (K := K) rfl) (pv 5) pe_int (fun _ _ => rfl))) pe_int))
  (pss_cons (ps_if (PW.pt (pw_or (pt_val (pe_cal c_law_outfar hr (by decide) (by rfl) (pa_cons (pv 1) (pa_cons (pv 2) pa_nil)))) (pw_or1 (pt_val (pe_cal c_law_out hr (by decide) (by rfl) (pa_cons (pv 1) (pa_cons (pv 6) pa_nil)))))))
  (pss_cons (ps_ret pe_bl)
  pss_nil)
  pss_nil)
  (pss_cons (ps_set (i := 7) sc_law_right.nd rfl (.inl rfl) (pe_cme c_Action_of hr (by decide) rfl (C8.pe_gc (by rfl) T.g_Action) (pa_cons (pe_cme c_Program_read hr (by decide) rfl (C8.pe_gc (by rfl) T.g_Program) (pa_cons (pe_cal c_law_text hr (by decide) (by rfl) (pa_cons (pv 1) pa_nil)) pa_nil) rfl rfl rfl) pa_nil) rfl rfl rfl))
  (pss_cons (ps_asg (pe_tup (pa_cons (pe_cal c_law_letters hr (by decide) (by rfl) (pa_cons (pv 6) (pa_cons (pe_ix (ix_seqK (K := K) rfl) (pv 5) pe_int (fun _ _ => rfl)) (pa_cons (pe_op op_addA (pe_ix (ix_seqK (K := K) rfl) (pv 5) pe_int (fun _ _ => rfl)) (pe_ix (ix_seqK (K := K) rfl) (pv 5) pe_int (fun _ _ => rfl))) pa_nil)))) (pa_cons (pe_cal c_law_letters hr (by decide) (by rfl) (pa_cons (pv 2) (pa_cons (pv 3) (pa_cons (pv 4) pa_nil)))) pa_nil))) (pg_unK (K := K) rfl rfl rfl rfl (pgs_cons (pg_nameX (i := 8) sc_law_right.nd rfl (.inr rfl) (.inl rfl)) (pgs_cons (pg_nameX (i := 9) sc_law_right.nd rfl (.inr rfl) (.inl rfl)) pgs_nil))))
  (pss_cons (ps_set (i := 10) sc_law_right.nd rfl (.inl rfl) (pe_cal c_law_orbit hr (by decide) (by rfl) (pa_cons (pv 6) (pa_cons (pe_ix (ix_seqK (K := K) rfl) (pv 5) pe_int (fun _ _ => rfl)) (pa_cons (pe_op op_addA (pe_ix (ix_seqK (K := K) rfl) (pv 5) pe_int (fun _ _ => rfl)) (pe_ix (ix_seqK (K := K) rfl) (pv 5) pe_int (fun _ _ => rfl))) pa_nil)))))
  (pss_cons (ps_if (pt_cmpR (op_neK (K := K) hr rfl rfl) (pe_callTy (call_listK (K := K) rfl) (by rfl) T.b_list (by decide +kernel) (pa_cons (pe_cal c_images hr (by decide) (by rfl) (pa_cons (pv 2) (pa_cons (pe_tup (pa_cons (pv 3) (pa_cons (pv 4) pa_nil))) pa_nil))) pa_nil)) (pe_cal c_law_led hr (by decide) (by rfl) (pa_cons (pv 10) (pa_cons (pv 8) (pa_cons (pv 9) pa_nil)))) (nomark _))
  (pss_cons (ps_ret pe_bl)
  pss_nil)
  pss_nil)
  (pss_cons (ps_if (PW.pt (pw_or (pt_cmpR (op_neK (K := K) hr rfl rfl) (pe_cal c_kind_of hr (by decide) (by rfl) (pa_cons (pv 2) (pa_cons (pe_tup (pa_cons (pv 3) (pa_cons (pv 4) pa_nil))) pa_nil))) (pv 5) (nomark _)) (pw_or1 (pt_cmpR (op_neK (K := K) hr rfl rfl) (pe_cal c_kind_of hr (by decide) (by rfl) (pa_cons (pv 6) (pa_cons (pe_ix (ix_seqK (K := K) rfl) (pv 10) (pe_un un_neg pe_int) (fun _ _ => rfl)) pa_nil))) (pv 5) (nomark _)))))
  (pss_cons (ps_ret pe_bl)
  pss_nil)
  pss_nil)
  (pss_cons (ps_for PassesOwn.never rfl (pi_seqK (K := K) rfl (pv 10)) (pg_nameX (i := 11) sc_law_right.nd rfl (.inl rfl) (.inr rfl))
  (pss_cons (ps_set (i := 12) sc_law_right.nd rfl (.inl rfl) (pe_ix (ix_seqK (K := K) rfl) (pe_cal c_law_led hr (by decide) (by rfl) (pa_cons (pe_lst (pa_cons (pv 11) pa_nil)) (pa_cons (pv 8) (pa_cons (pv 9) pa_nil)))) pe_int (fun _ _ => rfl)))
  (pss_cons (ps_setLcX (i := 13) (own := [("_law_some", 14)]) rfl sc_law_right.nd rfl rfl (sw_true rfl rfl rfl (by decide +kernel)) (pi_seqK (K := K) rfl (pe_own c_Action_result T.f_Action.cl hr (by decide) rfl (pv 7) (pa_cons (pv 6) (pa_cons (pv 11) pa_nil)) rfl rfl rfl)) (blkOk_by (N := ["_law_purl_here", "_law_plan_here", "_law_size", "_law_row", "_law_column", "_law_kind", "_law_small", "_law_mine", "_law_here", "_law_there", "_law_cells_here", "_law_cell", "_law_there_cell", "_law_due", "_law_some"]) (sc := defScope s_law_right) (own := [("_law_some", 14)]) (by decide +kernel)) (fun _ _ _ _ _ => (pg_nameX (i := 14) sc_law_right.nd rfl (.inl rfl) (.inr rfl))) (fun _ _ _ _ _ => pts_nil) (fun _ _ _ _ _ => (pe_callTy (call_tupleK (K := K) rfl) (by rfl) T.b_tuple (by decide +kernel) (pa_cons (pe_cal c_law_ledT hr (by decide) (by rfl) (pa_cons (pv 14) (pa_cons (pv 8) (pa_cons (pv 9) pa_nil)))) pa_nil))) (fun _ => rfl))
  (pss_cons (ps_if (pt_cmpR (op_neK (K := K) hr rfl rfl) (pe_own c_Action_result T.f_Action.cl hr (by decide) rfl (pv 7) (pa_cons (pv 2) (pa_cons (pv 12) pa_nil)) rfl rfl rfl) (pe_callTy (call_tupleK (K := K) rfl) (by rfl) T.b_tuple (by decide +kernel) (pa_cons (pv 13) pa_nil)) (nomark _))
  (pss_cons (ps_ret pe_bl)
  pss_nil)
  pss_nil)
  (pss_cons (ps_if (pt_cmpR (op_neK (K := K) hr rfl rfl) (pe_own c_Action_reaches T.f_Action.cl hr (by decide) rfl (pv 7) (pa_cons (pv 2) (pa_cons (pv 12) pa_nil)) rfl rfl rfl) (pe_callTy (call_tupleK (K := K) rfl) (by rfl) T.b_tuple (by decide +kernel) (pa_cons (pe_cal c_law_ledT hr (by decide) (by rfl) (pa_cons (pe_own c_Action_reaches T.f_Action.cl hr (by decide) rfl (pv 7) (pa_cons (pv 6) (pa_cons (pv 11) pa_nil)) rfl rfl rfl) (pa_cons (pv 8) (pa_cons (pv 9) pa_nil)))) pa_nil)) (nomark _))
  (pss_cons (ps_ret pe_bl)
  pss_nil)
  pss_nil)
  pss_nil)))))
  (pss_cons (ps_ret pe_bl)
  pss_nil)))))))))))), fun m B0 H0 pu Q hp ha q => ?_⟩)
  have hpu : PuAt m pu := ha
  have hs : sizeLine = 16777216 := sizeLine_eq
  refine st_par (Ra := rEx (fun p => PgOk p ∧ p ≠ []) (rPlan K)) (Rb := rI1 fun n => 1 ≤ n ∧ n ≤ 10 ^ 30) (by decide) (ea2 (ev_callM pu hpu (ea_cons (vr 0) (ea2 kI kI))) (ev_callM pu hpu (ea1 (vr 0)))) ?_
  refine st_open 1 rfl (fun p hp1 => st_open 2 rfl (fun n hn => ?_))
  obtain ⟨hpg, hne⟩ := hp1
  refine st_asgx (F := rCell K) (ev_callM (pu, n) ⟨hpu, hn.1⟩ (ea2 (vr 0) (vr 2))) (fun c hc => ⟨_, _, tg_unT tgs2, ?_⟩)
  have hcT : InT n c := hc
  obtain ⟨X, Y, L⟩ := lw_ex hcT
  obtain ⟨kd, ekd⟩ : ∃ kd, kdOf n c = kd := ⟨_, rfl⟩
  have hk : KdOk kd := by rw [← ekd]; exact L.kdOk
  have l0 := lw_small hk
  have hkm := kd_mem hk
  have ks := kd_small hk
  have ak := alk_of l0 L (by rw [ks, ekd])
  have bd : 1 ≤ lsz kd ∧ lsz kd ≤ 10 := by unfold KdOk at hk; unfold lsz; omega
  refine st_set (R := rKd K kd) ((ev_call (n, c) trivial (ea_cons (vr 2) (ea2 (vr 3) (vr 4)))).to (congrArg (rKd K) ekd)) ?_
  refine st_set (R := dI (lsz kd)) (ev_add (ev_add (ev_mul kI (ev_add (ev_ixT (vr 5) kI (atN (n := 0) rfl)) (ev_ixT (vr 5) kI (atN (n := 1) rfl))) (mulx_small (by decide) (by unfold KdOk at hk; omega))) (ev_ixT (vr 5) kI (atN (n := 2) rfl))) kI) ?_
  refine st_if (eb_orE (eb_B (ev_call (p, n) ⟨hpg, hn.1⟩ (ea2 (vr 1) (vr 2)))) (fun _ => eb_B (ev_call (p, lsz kd) ⟨hpg, show 0 ≤ lsz kd ∧ lsz kd ≤ 15 by omega⟩ (ea2 (vr 1) (vr 6))))) (fun _ => st_ret kB q) (fun h => st_nxt ?_)
  obtain ⟨o1, o2⟩ := Bool.or_eq_false_iff.mp h.symm
  have hlp : ∀ z ∈ p, LpOk false z.over ∧ LpOk true z.below := fun z hz => ⟨(hpg.1 z hz).1, (hpg.1 z hz).2.1⟩
  have f1 := out_false hlp hn.1 o1
  have f2 := out_false hlp bd.1 (show outB p (farN (lsz kd)) = false by unfold farN; rw [if_pos (by omega)]; exact o2)
  refine st_setx (α := (Kd → List Int) × Gp) (P := AcOk p) (F := fun z => rAct K P w z.1 z.2) (ev_cme p hpg ev_c (ea1 (ev_cme p (show PgOk p ∧ p ≠ [] from ⟨hpg, hne⟩) ev_c (ea1 (ev_call p hpg (ea1 (vr 1)))) rfl)) rfl) (fun z hz => ?_)
  obtain ⟨M, g⟩ := z
  obtain ⟨hM, hg⟩ := hz
  simp only at hM hg
  have g1 := gaps_no hg hn.1 f1
  have g2 := gaps_no hg bd.1 f2
  have hMk := hM kd hkm
  have evc : ∀ {Γ' : Gm}, Γ'[5]? = some (some (rKd K kd)) → EvG m (tOp (rIx K) (tVar 5) (tC (.int 0))) Γ' (dI (cnr kd).1) ∧ EvG m (tOp rAddA (tOp (rIx K) (tVar 5) (tC (.int 0))) (tOp (rIx K) (tVar 5) (tC (.int 1)))) Γ' (dI (cnr kd).2) := fun h => ⟨ev_ixT (vr 5 h) kI (atN (n := 0) rfl), ev_add (ev_ixT (vr 5 h) kI (atN (n := 0) rfl)) (ev_ixT (vr 5 h) kI (atN (n := 1) rfl))⟩
  generalize ex : kd.1 = x at l0 ak
  generalize ey : x + kd.2.1 = y at l0 ak
  refine st_asg (R := rT K [rL ((q4 (lsz kd) x y).map dI), rL ((q4 n X Y).map dI)]) (ev_tup (ea2 ((ev_call (lsz kd, cnr kd) trivial (ea_cons (vr 6) (ea2 (evc rfl).1 (evc rfl).2))).to (by show rL ((quad (lsz kd) (cnr kd)).map dI) = _; rw [l0.q])) ((ev_call (n, c) trivial (ea_cons (vr 2) (ea2 (vr 3) (vr 4)))).to (by show rL ((quad n c).map dI) = _; rw [L.q])))) (tg_unT tgs2) ?_
  refine st_set (R := rL ((imgs (lsz kd) (cnr kd)).map rCellN)) (ev_call (lsz kd, cnr kd) trivial (ea_cons (vr 6) (ea2 (evc rfl).1 (evc rfl).2))) ?_
  have hl8 := (imgs_len (n := lsz kd) (c := cnr kd)).2.1
  have hlt : ∀ d ∈ imgs (lsz kd) (cnr kd), LtC (lsz kd) x y d := fun d hd => l0.ltc hd
  have him := imgs_map l0 L ak
  refine st_if (P := fun b => b = false) (eb_test (ev_same ((ev_listT (ev_call (n, c) ⟨hn, hcT⟩ (ea2 (vr 2) (ev_tup (ea2 (vr 3) (vr 4)))))).le le_cellsL) ((ev_call ⟨imgs (lsz kd) (cnr kd), q4 (lsz kd) x y, q4 n X Y⟩ (lz_ok hlt (by omega)) (ea_cons ((vr 10).le (le_L (les_map (fun _ => le_Tn) _))) (ea2 (vr 8) (vr 9)))).le le_cellsL) (by rw [← him]) (cells_shapedL _))) (fun h => nomatch h) (fun _ => st_nxt ?_)
  obtain ⟨ys, dl, el⟩ : ∃ ys dl, imgs (lsz kd) (cnr kd) = ys ++ [dl] := by
    have h0 : imgs (lsz kd) (cnr kd) ≠ [] := List.ne_nil_of_length_pos (imgs_len (n := lsz kd) (c := cnr kd)).1
    exact ⟨_, _, (List.dropLast_concat_getLast h0).symm⟩
  have hdl : dl ∈ imgs (lsz kd) (cnr kd) := by rw [el]; simp
  have kimg : ∀ d ∈ imgs (lsz kd) (cnr kd), kdOf (lsz kd) d = kd := fun d hd => by rw [(l0.img hd).kd, ← l0.kd, ks]
  have b30 : lsz kd ≤ 10 ^ 30 := by rw [ten30]; omega
  refine st_if (P := fun b => b = false) (eb_orE (c := false) (eb_test (ev_same ((ev_call (n, c) ⟨hn, hcT⟩ (ea2 (vr 2) (ev_tup (ea2 (vr 3) (vr 4))))).le le_kd) ((vr 5).le le_kd) (by show kdD kd = kdD (kdOf n c); rw [ekd]) (by rfl))) (fun _ => eb_test (ev_same ((ev_call (lsz kd, dl) ⟨⟨bd.1, b30⟩, (l0.img hdl).inT⟩ (ea2 (vr 6) ((ev_ixL (R := rCellN dl) (n := -1) (vr 10) (ev_neg kI) (by rw [el, List.map_append]; exact ix_last _ _)).le le_Tn))).le le_kd) ((vr 5).le le_kd) (by show kdD kd = kdD (kdOf (lsz kd) dl); rw [kimg dl hdl]) (by rfl)))) (fun h => nomatch h) (fun _ => st_nxt ?_)
  have kimg2 : ∀ d ∈ imgs n c, kdOf n d = kd := fun d hd => by rw [(L.img hd).kd, ← L.kd, ekd]
  have two : ∀ d ∈ imgs (lsz kd) (cnr kd), Two (lsz kd) d x y n (ld (lsz kd) x y n X Y d) X Y := fun d hd => ⟨l0.img hd, L.img (by rw [him]; exact List.mem_map.mpr ⟨d, hd, rfl⟩), ak, rfl⟩
  have ldm : ∀ d ∈ imgs (lsz kd) (cnr kd), ld (lsz kd) x y n X Y d ∈ imgs n c := fun d hd => by rw [him]; exact List.mem_map.mpr ⟨d, hd, rfl⟩
  have klen1 : ∀ d ∈ imgs (lsz kd) (cnr kd), (imgs (lsz kd) d).length = klen kd := fun d hd => by rw [l0.imgs_eq (l0.img hd)] <;> rfl
  have r1 : ∀ d ∈ imgs (lsz kd) (cnr kd), RqOk ⟨M, g, lsz kd, d⟩ := fun d hd => ⟨⟨bd.1, b30⟩, (l0.img hd).inT, g2, by rw [kimg d hd]; exact hkm, by show MvOk (imgs (lsz kd) d).length (M (kdOf (lsz kd) d)); rw [kimg d hd, klen1 d hd]; exact hMk⟩
  have r2 : ∀ d ∈ imgs (lsz kd) (cnr kd), RqOk ⟨M, g, n, ld (lsz kd) x y n X Y d⟩ := fun d hd => ⟨hn, (two d hd).L.inT, g1, by rw [kimg2 _ (ldm d hd)]; exact hkm, by show MvOk (imgs n (ld (lsz kd) x y n X Y d)).length (M (kdOf n (ld (lsz kd) x y n X Y d))); rw [kimg2 _ (ldm d hd), (two d hd).len, klen1 d hd]; exact hMk⟩
  have mvd : ∀ d ∈ imgs (lsz kd) (cnr kd), MvOk (imgs (lsz kd) d).length (M kd) := fun d hd => by rw [klen1 d hd]; exact hMk
  have ml : (M kd).length ≤ 256 := by
    rw [mv_len hMk]
    exact p8 hl8
  refine st_forM (xs := imgs (lsz kd) (cnr kd)) (R0 := rCellN) (fun _ => [some (rV (.ref pu)), some (rPlan K p), some (dI n), some (dI c.1), some (dI c.2), some (rKd K kd), some (dI (lsz kd)), some (rAct K P w M g), some (rL ((q4 (lsz kd) x y).map dI)), some (rL ((q4 n X Y).map dI)), some (rL ((imgs (lsz kd) (cnr kd)).map rCellN)), none, none, none, none]) (fun J _ => J) fam_id (ei_seqL (vr 10)) (.same (.same (.same (.same (.same (.same (.same (.same (.same (.same (.same (.skip (.skip (.skip (.skip .nil))))))))))))))) (fun J k d hJ hd => ⟨_, _, tg_name, ?_⟩) ?_
  · have hdm := List.mem_of_getElem? hd
    have hrl := res_len (n := lsz kd) (c := d) ml
    have ltd : ∀ e ∈ imgs (lsz kd) d, LtC (lsz kd) x y e := fun e he => (l0.img hdm).ltc he
    refine st_set (R := rCellN (ld (lsz kd) x y n X Y d)) (ev_ixL (ev_call ⟨[d], q4 (lsz kd) x y, q4 n X Y⟩ (lz_ok (cs := [d]) (fun e he => by rw [List.mem_singleton.mp he]; exact hlt d hdm) (show 1 ≤ 1000 by decide)) (ea_cons (ev_lst (ea1 ((vr 11).le le_Tn))) (ea2 (vr 8) (vr 9)))) kI (atN (n := 0) rfl)) ?_
    refine st_set (R := rL ((resV (M kd) (lsz kd) d).map fun cs => rT K ((cs.map (ld (lsz kd) x y n X Y)).map rCellN))) (ev_lcA (xs := resV (M kd) (lsz kd) d) (R0 := rCs K) (fun cs => rT K ((cs.map (ld (lsz kd) x y n X Y)).map rCellN)) (by omega) (ei_seqT ((ev_own (sp := sp_law_right) (⟨M, g, lsz kd, d⟩ : Rq) (by decide) (r1 d hdm) (vr 7) (ea2 (vr 6) ((vr 11).le le_Tn)) rfl).to (by show rT K ((resV (M (kdOf (lsz kd) d)) (lsz kd) d).map (rCs K)) = _; rw [kimg d hdm]))) (fun cs hcs => ⟨_, _, tg_name, fun j hj => hj, ev_tupleL (ev_call (⟨cs, q4 (lsz kd) x y, q4 n X Y⟩ : Lz) (lz_ok (fun e he => ltd e (res_in (mvd d hdm) cs hcs e he)) (by have := hrl.2 cs hcs; omega)) (ea_cons (vr 14) (ea2 (vr 8) (vr 9))))⟩)) ?_
    have eres : resV (M kd) n (ld (lsz kd) x y n X Y d) = (resV (M kd) (lsz kd) d).map (List.map (ld (lsz kd) x y n X Y)) := (two d hdm).res (mvd d hdm)
    have erea : reaV (M kd) n (ld (lsz kd) x y n X Y d) = (reaV (M kd) (lsz kd) d).map (ld (lsz kd) x y n X Y) := (two d hdm).rea (mvd d hdm)
    have kd2 := kimg2 _ (ldm d hdm)
    have hdue : Le (rT K ((resV (M kd) (lsz kd) d).map fun cs => rT K ((cs.map (ld (lsz kd) x y n X Y)).map rCellN))) (rD K (.tuple ((resV (M kd) n (ld (lsz kd) x y n X Y d)).map encT))) := by
      refine Le.trans (le_T (les_map (g := fun cs : List Cell => rCs K (cs.map (ld (lsz kd) x y n X Y))) (fun cs => le_cn) _)) ?_
      rw [eres]
      have h := le_css (K := K) (L := (resV (M kd) (lsz kd) d).map (List.map (ld (lsz kd) x y n X Y)))
      rw [List.map_map (g := rCs K)] at h
      exact h
    refine st_if (P := fun b => b = false) (eb_test (ev_same (d := .tuple ((resV (M kd) n (ld (lsz kd) x y n X Y d)).map encT)) (EvG.le (R := rT K ((resV (M kd) n (ld (lsz kd) x y n X Y d)).map (rCs K))) ((ev_own (sp := sp_law_right) (⟨M, g, n, ld (lsz kd) x y n X Y d⟩ : Rq) (by decide) (r2 d hdm) (vr 7) (ea2 (vr 2) ((vr 12).le le_Tn)) rfl).to (by show rT K ((resV (M (kdOf n (ld (lsz kd) x y n X Y d))) n (ld (lsz kd) x y n X Y d)).map (rCs K)) = _; rw [kd2])) le_css) ((ev_tupleL (vr 13)).le hdue) rfl (encs_shaped _))) (fun h => nomatch h) (fun _ => st_nxt ?_)
    refine st_if (P := fun b => b = false) (eb_test (ev_same (d := encT (reaV (M kd) n (ld (lsz kd) x y n X Y d))) (EvG.le (R := rCs K (reaV (M kd) n (ld (lsz kd) x y n X Y d))) ((ev_own (sp := sp_law_right) (⟨M, g, n, ld (lsz kd) x y n X Y d⟩ : Rq) (by decide) (r2 d hdm) (vr 7) (ea2 (vr 2) ((vr 12).le le_Tn)) rfl).to (by show rCs K (reaV (M (kdOf n (ld (lsz kd) x y n X Y d))) n (ld (lsz kd) x y n X Y d)) = _; rw [kd2])) le_encT) ((ev_tupleL (ev_call (⟨reaV (M kd) (lsz kd) d, q4 (lsz kd) x y, q4 n X Y⟩ : Lz) (lz_ok (fun e he => ltd e (rea_in (mvd d hdm) e he)) (Nat.le_trans (pick_len _ _ _) (by decide))) (ea_cons ((ev_own (sp := sp_law_right) (⟨M, g, lsz kd, d⟩ : Rq) (by decide) (r1 d hdm) (vr 7) (ea2 (vr 6) ((vr 11).le le_Tn)) rfl).to (by show rCs K (reaV (M (kdOf (lsz kd) d)) (lsz kd) d) = _; rw [kimg d hdm])) (ea2 (vr 8) (vr 9))))).le (Le.trans le_cn (Le.trans (le_eq (by rw [erea])) le_encT))) rfl (cells_shaped _))) (fun h => nomatch h) (fun _ => st_nxt ?_)
    exact st_to (.same (.same (.same (.same (.same (.same (.same (.same (.same (.same (.same (.skip (.skip (.skip (.skip .nil))))))))))))))) fun B H h => h
  · exact st_ret kB q
end
end Sq
/-! Sq, part F36: the law. -/
namespace Sq
open PySem PySem.Spec PyProof.Rows L2
section
variable {P : Program} {w : World} {K : PySem.W.Frag} {mg : Str → Option Value} {base : Heap} {m : Mt} {Γ : Gm} {ta tb te : TE}
abbrev sp_lawM : Sp := spM (fun _ (ns : List Int) => [rSc K ns]) (fun _ ns => ns.length ≤ 63) (fun _ _ => dB true)
theorem law_fn (T : Tx w K mg) (c_law_purl : Cal P w K mg base 1 "_law_purl" (sp_law_purl (K := K))) (c_law_right : Cal P w K mg base 10 "_law_right" sp_law_right) {f : Addr} {fd : FuncData} (F : Fun K "law" "law" s_law f fd) : FnOk P w K mg base CX0 11 f fd ["_law_script"] (sp_lawM (K := K)) := by
  refine fn_body F sc_law (fun _ _ => rfl) (by decide) (fun f cdv A outer s H E hr => ⟨_, (pss_cons (ps_ret (pe_callB (cr_all rfl) (by rfl) T.b_all (by decide +kernel) (pa_cons (pe_lcX (own := [("_law_spot_here", 1)]) rfl sc_law.nd (pi_range1 (by rfl) T.b_range (pa_cons (pe_callB (call_max2 rfl) (by rfl) T.b_max (by decide +kernel) (pa_cons pe_int (pa_cons (pe_callB (call_min2 rfl) (by rfl) T.b_min (by decide +kernel) (pa_cons (pe_callB (call_lenK (K := K) rfl) (by rfl) T.b_len (by decide +kernel) (pa_cons (pv 0) pa_nil)) (pa_cons pe_int pa_nil))) pa_nil))) pa_nil)) (blkOk_by (N := ["_law_script", "_law_spot_here"]) (sc := defScope s_law) (own := [("_law_spot_here", 1)]) (by decide +kernel)) (fun _ _ _ _ _ => (pg_nameX (i := 1) sc_law.nd rfl (.inl rfl) (.inr rfl))) (fun _ _ _ _ _ => pts_nil) (fun _ _ _ _ _ => (pe_cal c_law_right hr (by decide) (by rfl) (pa_cons (pe_cal c_law_purl hr (by decide) (by rfl) (pa_cons (pv 0) (pa_cons (pv 1) pa_nil))) pa_nil))) (fun _ => rfl)) pa_nil)))
  pss_nil), fun m B0 H0 ns Q hp ha q => ?_⟩)
  have hl : ns.length ≤ 63 := ha
  obtain ⟨n, hn⟩ : ∃ n : Nat, (if (if (4 : Int) < (ns.length : Int) then (4 : Int) else (ns.length : Int)) > 2 then (if (4 : Int) < (ns.length : Int) then (4 : Int) else (ns.length : Int)) else 2) = (n : Int) := ⟨_, (Int.toNat_of_nonneg (by split <;> split <;> omega)).symm⟩
  have hn4 : n ≤ 4 := by
    split at hn <;> split at hn <;> omega
  refine st_ret ((ev_all (bs := (List.range n).map fun _ => true) ((ev_lcR (n := n) (F := fun i => dI (i : Int)) (fun _ => dB true) (Nat.lt_of_le_of_lt hn4 (by decide)) (ei_rngN (ea1 ((ev_max kI (ev_min (ev_lenQ (vr 0)) kI)).to (congrArg dI hn))) (by omega)) (fun k hk => ⟨_, _, tg_name, fun j hj => hj, ev_handP (ns, k) ⟨hl, by show k < 4; omega⟩ (ea2 (vr 0) (vr 1))⟩)).to (by rw [List.map_map] <;> rfl))).to (congrArg dB ?_)) q
  rw [List.all_eq_true]
  intro b hb
  obtain ⟨_, _, rfl⟩ := List.mem_map.mp hb
  rfl
theorem law_binds {f : Addr} {fd : FuncData} (F : Fun K "law" "law" s_law f fd) : Binds K fd ["_law_script"] [] := F.binds fun _ _ _ _ _ _ us hl => match us, hl with | [_], _ => rfl
/-- .. as the head wants it -/
def spLaw (K : PySem.W.Frag) : Sp := fun vs H Q _ => ∃ (a : Addr) (ns : List Int), vs = [.ref a] ∧ SqL K H a (ns.map V.int) ∧ ns.length ≤ 63 ∧ ∀ H', Q (.bl true) H'
theorem law_sp {vs : List V} {H : Hp} {Q : VK} {E : XK} (h : spLaw K vs H Q E) : sp_lawM (K := K) vs H Q E := by
  obtain ⟨a, ns, rfl, hS, hl, hQ⟩ := h
  refine ⟨⟨fun _ => False, fun _ _ => True⟩, H, ns, ⟨Sub.refl _, fun _ h => h.elim, fun _ h => h.elim⟩, hl, ⟨_, _, rfl, ⟨a, rfl, hS⟩, rfl⟩, fun v B' H' _ r => ?_⟩
  rw [show v = .bl true from r]
  exact hQ H'
end
end Sq
/-! Sq, part K1: what the head looks at. -/
namespace Sq
open PySem PySem.Spec PyProof.Rows L2 He He5
theorem tupAt_ok {K : PySem.W.Frag} {a : Addr} {vs : List V} (h : tupAt K a vs = true) (H : Hp) : SqT K H a vs := by
  unfold tupAt at h
  cases q : K.lookup a with
  | none =>
    rw [q] at h
    cases h
  | some o =>
    obtain ⟨oc, od, dt, osl⟩ := o
    rw [q] at h
    cases oc with
    | type c =>
      cases dt with
      | seq its n =>
        obtain ⟨h1, h2⟩ := ba (show (decide (c = "tuple") && (decide (its.size ≤ sizeLine) && relAll vs its.toList)) = true from h)
        obtain ⟨h3, h4⟩ := ba h2
        exact .inr ⟨_, its, n, q, congrArg Value.type (of_decide_eq_true h1), rfl, of_decide_eq_true h3, relAll_ok h4⟩
      | _ => cases h
    | _ => cases dt <;> cases h
theorem kixT_ok {K : PySem.W.Frag} {d : Addr} {x : Str} {vs : List V} (h : kixT K d x vs = true) : ∃ t, PySem.W.nsIn K d x = some (some (.ref t)) ∧ ∀ H, SqT K H t vs := by
  unfold kixT at h
  split at h
  · rename_i t e
    exact ⟨t, e, tupAt_ok h⟩
  · cases h
theorem kixV_ok {K : PySem.W.Frag} {d : Addr} {x : Str} {v : V} (h : kixV K d x v = true) : ∃ u, PySem.W.nsIn K d x = some (some u) ∧ RelV v u := by
  unfold kixV at h
  split at h
  · rename_i u e
    exact ⟨u, e, relB_ok h⟩
  · cases h
theorem kdct_of {K : PySem.W.Frag} {w : World} {d : Addr} {x : Str} {v : V} {u : Value} (D : ∃ es n, KDict K w d es n) (h : PySem.W.nsIn K d x = some (some u)) (r : RelV v u) : KDct K w d x v := by
  obtain ⟨es, n, h1, h2, _⟩ := D
  exact ⟨es, n, u, h1, h2, h, r⟩
theorem allKd_ok {K : PySem.W.Frag} : ∀ {ks : List Kd} {us : List Value}, allKd K ks us = true → ∃ xs : List V, Vals xs us ∧ ∀ B, AllR (ks.map (rKd K)) B xs
  | [], [], _ => ⟨[], .nil, fun _ => rfl⟩
  | [], _ :: _, h => by cases h
  | k :: ks, [], h => by cases h
  | k :: ks, u :: us, h => by
    cases u with
    | ref a =>
      obtain ⟨h1, h2⟩ := ba (show (tupAt K a [.int k.1, .int k.2.1, .int k.2.2] && allKd K ks us) = true from h)
      obtain ⟨xs, e1, e2⟩ := allKd_ok h2
      exact ⟨.ref a :: xs, .cons rfl e1, fun B => ⟨_, _, rfl, ⟨a, _, rfl, tupAt_ok h1 B, _, _, rfl, rfl, _, _, rfl, rfl, _, _, rfl, rfl, rfl⟩, e2 B⟩⟩
    | _ => cases h
theorem kindsB_ok {K : PySem.W.Frag} (h : kindsB K = true) (B : Hp) : (rT K (kinds.map (rKd K))).p B (.ref (ga K "KINDS")) := by
  unfold kindsB at h
  cases q : K.lookup (ga K "KINDS") with
  | none =>
    rw [q] at h
    cases h
  | some o =>
    obtain ⟨oc, od, dt, osl⟩ := o
    rw [q] at h
    cases oc with
    | type c =>
      cases dt with
      | seq its n =>
        obtain ⟨h1, h2⟩ := ba (show (decide (c = "tuple") && (decide (its.size ≤ sizeLine) && allKd K kinds its.toList)) = true from h)
        obtain ⟨h3, h4⟩ := ba h2
        obtain ⟨xs, e1, e2⟩ := allKd_ok h4
        exact ⟨_, xs, rfl, .inr ⟨_, its, n, q, congrArg Value.type (of_decide_eq_true h1), rfl, of_decide_eq_true h3, e1⟩, e2 B⟩
      | _ => cases h
    | _ => cases dt <;> cases h
theorem insB_ok {K : PySem.W.Frag} {C : Addr} (c : Cls K C) (h : insB K C = true) : C8.InsC K C := by
  obtain ⟨h1, h⟩ := ba h
  obtain ⟨h2, h⟩ := ba h
  obtain ⟨h3, h⟩ := ba h
  obtain ⟨h4, h5⟩ := ba h
  exact ⟨c, eqO_ok h1, eqO_ok h2, of_decide_eq_true h3, of_decide_eq_true h4, of_decide_eq_true h5⟩
theorem creB_ok {K : PySem.W.Frag} {C : Addr} (h : creB K C = true) : ClX.CRead K C (.type "type") := by
  obtain ⟨h1, h2⟩ := ba h
  exact ⟨h1, eqO_ok h2⟩
theorem cmeB_ok {K : PySem.W.Frag} {C : Addr} {m : Str} (h : cmeB K C m = true) : ClX.CMet K C (.type "type") m (ma K C m) (wf K C "classmethod" m) := by
  obtain ⟨h1, h2⟩ := ba h
  exact cmet_of h1 h2
/-! ### the Hook -/
section
variable {fa : List Fa} {fn : List DefA} {ts : List Tab} {xs : List XFa} {w : World} {K : PySem.W.Frag}
theorem SaysS.all (c : SaysS fa fn ts xs w K) : (fa.all fun f => f.ok K) = true ∧ (fn.all fun d => d.ok K) = true ∧ (xs.all fun f => f K) = true := by
  obtain ⟨h1, h2⟩ := ba (show ((fa.all fun f => f.ok K) && ((fn.all fun d => d.ok K) && xs.all fun f => f K)) = true from congrArg (fun z : AlT => z.1.1) c)
  exact ⟨h1, ba h2⟩
theorem SaysS.fact (c : SaysS fa fn ts xs w K) (i : Nat) {f : Fa} (h : fa[i]? = some f := by rfl) : f.ok K = true := List.all_eq_true.mp c.all.1 f (List.mem_of_getElem? h)
theorem SaysS.more (c : SaysS fa fn ts xs w K) (i : Nat) {f : XFa} (h : xs[i]? = some f := by rfl) : f K = true := List.all_eq_true.mp c.all.2.2 f (List.mem_of_getElem? h)
theorem SaysS.def_ (c : SaysS fa fn ts xs w K) (i : Nat) {d : DefA} (h : fn[i]? = some d := by rfl) : ∃ fd, FunD K d.name d.qual d.params d.body d.scope (d.dvs K) (d.kws K) (d.at_ K) fd := by
  have e : fn.map (fun d => fnA K (d.at_ K)) = fn.map DefA.val := congrArg (fun z : AlT => z.1.2) c
  have e2 : (fn.map fun d => fnA K (d.at_ K))[i]? = (fn.map DefA.val)[i]? := by rw [e]
  rw [List.getElem?_map, List.getElem?_map, h] at e2
  exact DefA.funD (Option.some.inj e2) (List.all_eq_true.mp c.all.2.1 d (List.mem_of_getElem? h))
theorem SaysS.tab (c : SaysS fa fn ts xs w K) (i : Nat) {t : Tab} (h : ts[i]? = some t := by rfl) : ∃ es n, KDict K w (t.1 K) es n := by
  have e : ts.map (fun t => dicW K (t.1 K)) = ts.map fun t => some (keysIn w.params t.2) := congrArg (fun z : AlT => z.2) c
  have e2 : (ts.map fun t => dicW K (t.1 K))[i]? = (ts.map fun t => some (keysIn w.params t.2))[i]? := by rw [e]
  rw [List.getElem?_map, List.getElem?_map, h] at e2
  exact dicW_ok (Option.some.inj e2)
end
end Sq
/-! Sq, part K3: from the head's facts to the law. -/
namespace Sq
open PySem PySem.Spec PyProof.Rows L2 He He5
section
variable {P : Program} {w : World} {K : PySem.W.Frag} {h : Heap} {mg : Str → Option Value}
theorem gi {x : Str} {i : Int} (h : ∃ t, mg x = some (.int i t)) : ∃ u, mg x = some u ∧ RelV (.int i) u := by
  obtain ⟨t, e⟩ := h
  exact ⟨_, e, t, rfl⟩
theorem gs {x y : Str} (h : ∃ t, mg x = some (.str y t)) : ∃ u, mg x = some u ∧ RelV (.str y) u := by
  obtain ⟨t, e⟩ := h
  exact ⟨_, e, t, rfl⟩
theorem gr {x : Str} {a : Addr} (h : mg x = some (.ref a)) : ∃ u, mg x = some u ∧ RelV (.ref a) u := ⟨_, h, rfl⟩
theorem rng_all {n : Nat} {p : Nat → Bool} (h : ((List.range n).all p) = true) {k : Nat} (hk : k < n) : p k = true := List.all_eq_true.mp h k (List.mem_range.mpr hk)
abbrev Says (w : World) (K : PySem.W.Frag) : Prop := SaysS sqFa sqFn sqTs sqXs w K
theorem tx_of (X : K.In h) (G : h.Ns mainGlobals mg) (c : Says w K) : Tx w K mg where
  b_len := free_ok X G (c.fact 0 (f := .free "len") rfl)
  b_range := free_ok X G (c.fact 1 (f := .free "range") rfl)
  b_int := free_ok X G (c.fact 2 (f := .free "int") rfl)
  b_bool := free_ok X G (c.fact 3 (f := .free "bool") rfl)
  b_abs := free_ok X G (c.fact 4 (f := .free "abs") rfl)
  b_min := free_ok X G (c.fact 5 (f := .free "min") rfl)
  b_max := free_ok X G (c.fact 6 (f := .free "max") rfl)
  b_sorted := free_ok X G (c.fact 7 (f := .free "sorted") rfl)
  b_tuple := free_ok X G (c.fact 8 (f := .free "tuple") rfl)
  b_list := free_ok X G (c.fact 9 (f := .free "list") rfl)
  b_set := free_ok X G (c.fact 10 (f := .free "set") rfl)
  b_dict := free_ok X G (c.fact 11 (f := .free "dict") rfl)
  b_zip := free_ok X G (c.fact 12 (f := .free "zip") rfl)
  b_isinstance := free_ok X G (c.fact 13 (f := .free "isinstance") rfl)
  b_divmod := free_ok X G (c.fact 14 (f := .free "divmod") rfl)
  b_str := free_ok X G (c.fact 15 (f := .free "str") rfl)
  b_sum := free_ok X G (c.fact 16 (f := .free "sum") rfl)
  b_any := free_ok X G (c.fact 17 (f := .free "any") rfl)
  b_all := free_ok X G (c.fact 18 (f := .free "all") rfl)
  b_enumerate := free_ok X G (c.fact 19 (f := .free "enumerate") rfl)
  g_MOST_SIZE := gi (int_ok X G (c.fact 20 (f := .int "MOST_SIZE" (10 ^ 30)) rfl))
  g_MOST_NESTS := gi (int_ok X G (c.fact 21 (f := .int "MOST_NESTS" 4) rfl))
  g_MOST_DEEDS := gi (int_ok X G (c.fact 22 (f := .int "MOST_DEEDS" 6) rfl))
  g_DECIDING := gi (int_ok X G (c.fact 23 (f := .int "DECIDING" 11) rfl))
  g_OUTER_HEAD := gs (str_ok X G (c.fact 24 (f := .str "OUTER_HEAD" "i from ") rfl))
  g_INNER_HEAD := gs (str_ok X G (c.fact 25 (f := .str "INNER_HEAD" "j from ") rfl))
  g_OUTER := gr (glo_ok X G (c.fact 26 (f := .glo "OUTER") rfl))
  g_INNER := gr (glo_ok X G (c.fact 27 (f := .glo "INNER") rfl))
  d_OUTER := c.tab 0 rfl
  d_INNER := c.tab 1 rfl
  l_OUTER := fun a ha => by
    obtain ⟨t, h1, h2⟩ := kixT_ok (rng_all (c.more 0 rfl) ha)
    exact ⟨t, kdct_of (c.tab 0 rfl) h1 rfl, h2⟩
  n_OUTER := fun a h1 h2 => by
    obtain ⟨b, rfl⟩ : ∃ b, a = b + 12 := ⟨a - 12, by omega⟩
    exact eqO_ok (rng_all (c.more 1 rfl) (show b < 6 by omega))
  l_INNER := fun a h1 h2 => by
    obtain ⟨b, rfl⟩ : ∃ b, a = b + 12 := ⟨a - 12, by omega⟩
    obtain ⟨t, h1, h2⟩ := kixT_ok (rng_all (c.more 2 rfl) (show b < 6 by omega))
    exact ⟨t, kdct_of (c.tab 1 rfl) h1 rfl, h2⟩
theorem ty_of (X : K.In h) (G : h.Ns mainGlobals mg) (c : Says w K) : Ty w K mg where
  toTx := tx_of X G c
  g_FEWEST := gr (glo_ok X G (c.fact 28 (f := .glo "FEWEST") rfl))
  g_MOST := gr (glo_ok X G (c.fact 29 (f := .glo "MOST") rfl))
  g_PLACES := gr (glo_ok X G (c.fact 30 (f := .glo "PLACES") rfl))
  g_NUMBERS := gr (glo_ok X G (c.fact 31 (f := .glo "NUMBERS") rfl))
  g_SIGNS := gr (glo_ok X G (c.fact 32 (f := .glo "SIGNS") rfl))
  g_Nest := gr (glo_ok X G (c.fact 35 (f := .glo "Nest") rfl))
  g_Program := gr (glo_ok X G (c.fact 36 (f := .glo "Program") rfl))
  g_Action := gr (glo_ok X G (c.fact 38 (f := .glo "Action") rfl))
  g_meet_rows := gr (glo_ok X G (c.fact 65 (f := .glo "meet_rows") rfl))
  g_join_rows := gr (glo_ok X G (c.fact 66 (f := .glo "join_rows") rfl))
  g_KINDS := gr (glo_ok X G (c.fact 33 (f := .glo "KINDS") rfl))
  d_FEWEST := c.tab 2 rfl
  l_FEWEST := fun k hk => by
    obtain ⟨u, h1, h2⟩ := kixV_ok (rng_all (c.more 3 rfl) hk)
    exact kdct_of (c.tab 2 rfl) h1 h2
  l_MOST := fun k hk => by
    obtain ⟨u, h1, h2⟩ := kixV_ok (rng_all (c.more 4 rfl) hk)
    exact kdct_of (c.tab 3 rfl) h1 h2
  t_PLACES := fun H => tupAt_ok (c.more 5 rfl) H
  t_NUMBERS := fun H => tupAt_ok (c.more 6 rfl) H
  t_SIGNS := fun H => tupAt_ok (c.more 7 rfl) H
  m_Deed := glo_ok X G (c.fact 34 (f := .glo "Deed") rfl)
  f_Deed := ⟨cls_ok (c.fact 105 (f := .cls "Deed") rfl), fun f hf => by
    simp only [List.mem_cons, List.not_mem_nil, or_false] at hf
    rcases hf with rfl | rfl | rfl
    · exact noat_ok (c.fact 106 (f := .noat "Deed" "word") rfl)
    · exact noat_ok (c.fact 107 (f := .noat "Deed" "spots") rfl)
    · exact noat_ok (c.fact 108 (f := .noat "Deed" "guard") rfl)⟩
  m_Nest := glo_ok X G (c.fact 35 (f := .glo "Nest") rfl)
  f_Nest := ⟨cls_ok (c.fact 110 (f := .cls "Nest") rfl), fun f hf => by
    simp only [List.mem_cons, List.not_mem_nil, or_false] at hf
    rcases hf with rfl | rfl | rfl | rfl
    · exact noat_ok (c.fact 111 (f := .noat "Nest" "over") rfl)
    · exact noat_ok (c.fact 112 (f := .noat "Nest" "below") rfl)
    · exact noat_ok (c.fact 113 (f := .noat "Nest" "texts") rfl)
    · exact noat_ok (c.fact 114 (f := .noat "Nest" "parsed") rfl)⟩
  m_Program := glo_ok X G (c.fact 36 (f := .glo "Program") rfl)
  f_Program := ⟨cls_ok (c.fact 116 (f := .cls "Program") rfl), fun f hf => by
    simp only [List.mem_cons, List.not_mem_nil, or_false] at hf
    subst hf
    exact noat_ok (c.fact 117 (f := .noat "Program" "parts") rfl)⟩
  m_Sizes := glo_ok X G (c.fact 37 (f := .glo "Sizes") rfl)
  f_Sizes := ⟨cls_ok (c.fact 119 (f := .cls "Sizes") rfl), fun f hf => by
    simp only [List.mem_cons, List.not_mem_nil, or_false] at hf
    rcases hf with rfl | rfl
    · exact noat_ok (c.fact 120 (f := .noat "Sizes" "tails") rfl)
    · exact noat_ok (c.fact 121 (f := .noat "Sizes" "few") rfl)⟩
  m_Action := glo_ok X G (c.fact 38 (f := .glo "Action") rfl)
  f_Action := ⟨cls_ok (c.fact 123 (f := .cls "Action") rfl), fun f hf => by
    simp only [List.mem_cons, List.not_mem_nil, or_false] at hf
    rcases hf with rfl | rfl
    · exact noat_ok (c.fact 124 (f := .noat "Action" "moves") rfl)
    · exact noat_ok (c.fact 125 (f := .noat "Action" "gaps") rfl)⟩
  i_Nest := insB_ok (cls_ok (c.fact 110 (f := .cls "Nest") rfl)) (c.more 9 rfl)
  i_Program := insB_ok (cls_ok (c.fact 116 (f := .cls "Program") rfl)) (c.more 10 rfl)
  t_KINDS := kindsB_ok (c.more 8 rfl)
theorem D_bound_value (X : K.In h) (G : h.Ns mainGlobals mg) (c : Says w K) : Df K mg "bound_value" "bound_value" s_bound_value := ⟨_, _, He5.fun_of (x := "bound_value") (qual := "bound_value") (st := s_bound_value) (kws := []) (c.def_ 0 (d := d_bound_value) rfl).choose_spec, glo_ok X G (c.fact 39 (f := .glo "bound_value") rfl)⟩
theorem D_is_bound (X : K.In h) (G : h.Ns mainGlobals mg) (c : Says w K) : Df K mg "is_bound" "is_bound" s_is_bound := ⟨_, _, He5.fun_of (x := "is_bound") (qual := "is_bound") (st := s_is_bound) (kws := []) (c.def_ 1 (d := d_is_bound) rfl).choose_spec, glo_ok X G (c.fact 40 (f := .glo "is_bound") rfl)⟩
theorem D_is_loop (X : K.In h) (G : h.Ns mainGlobals mg) (c : Says w K) : Df K mg "is_loop" "is_loop" s_is_loop := ⟨_, _, He5.fun_of (x := "is_loop") (qual := "is_loop") (st := s_is_loop) (kws := []) (c.def_ 2 (d := d_is_loop) rfl).choose_spec, glo_ok X G (c.fact 41 (f := .glo "is_loop") rfl)⟩
theorem D_goes_down (X : K.In h) (G : h.Ns mainGlobals mg) (c : Says w K) : Df K mg "goes_down" "goes_down" s_goes_down := ⟨_, _, He5.fun_of (x := "goes_down") (qual := "goes_down") (st := s_goes_down) (kws := []) (c.def_ 3 (d := d_goes_down) rfl).choose_spec, glo_ok X G (c.fact 42 (f := .glo "goes_down") rfl)⟩
theorem D_loop_range (X : K.In h) (G : h.Ns mainGlobals mg) (c : Says w K) : Df K mg "loop_range" "loop_range" s_loop_range := ⟨_, _, He5.fun_of (x := "loop_range") (qual := "loop_range") (st := s_loop_range) (kws := []) (c.def_ 4 (d := d_loop_range) rfl).choose_spec, glo_ok X G (c.fact 43 (f := .glo "loop_range") rfl)⟩
theorem D_in_loop (X : K.In h) (G : h.Ns mainGlobals mg) (c : Says w K) : Df K mg "in_loop" "in_loop" s_in_loop := ⟨_, _, He5.fun_of (x := "in_loop") (qual := "in_loop") (st := s_in_loop) (kws := []) (c.def_ 5 (d := d_in_loop) rfl).choose_spec, glo_ok X G (c.fact 44 (f := .glo "in_loop") rfl)⟩
theorem D_is_guard (X : K.In h) (G : h.Ns mainGlobals mg) (c : Says w K) : Df K mg "is_guard" "is_guard" s_is_guard := ⟨_, _, He5.fun_of (x := "is_guard") (qual := "is_guard") (st := s_is_guard) (kws := []) (c.def_ 6 (d := d_is_guard) rfl).choose_spec, glo_ok X G (c.fact 45 (f := .glo "is_guard") rfl)⟩
theorem D_parsed_deed (X : K.In h) (G : h.Ns mainGlobals mg) (c : Says w K) : Df K mg "parsed_deed" "parsed_deed" s_parsed_deed := ⟨_, _, He5.fun_of (x := "parsed_deed") (qual := "parsed_deed") (st := s_parsed_deed) (kws := []) (c.def_ 7 (d := d_parsed_deed) rfl).choose_spec, glo_ok X G (c.fact 46 (f := .glo "parsed_deed") rfl)⟩
theorem D_number_of (X : K.In h) (G : h.Ns mainGlobals mg) (c : Says w K) : Df K mg "number_of" "number_of" s_number_of := ⟨_, _, He5.fun_of (x := "number_of") (qual := "number_of") (st := s_number_of) (kws := []) (c.def_ 8 (d := d_number_of) rfl).choose_spec, glo_ok X G (c.fact 47 (f := .glo "number_of") rfl)⟩
theorem D_place_cell (X : K.In h) (G : h.Ns mainGlobals mg) (c : Says w K) : Df K mg "place_cell" "place_cell" s_place_cell := ⟨_, _, He5.fun_of (x := "place_cell") (qual := "place_cell") (st := s_place_cell) (kws := []) (c.def_ 9 (d := d_place_cell) rfl).choose_spec, glo_ok X G (c.fact 48 (f := .glo "place_cell") rfl)⟩
theorem D_holds (X : K.In h) (G : h.Ns mainGlobals mg) (c : Says w K) : Df K mg "holds" "holds" s_holds := ⟨_, _, He5.fun_of (x := "holds") (qual := "holds") (st := s_holds) (kws := []) (c.def_ 10 (d := d_holds) rfl).choose_spec, glo_ok X G (c.fact 49 (f := .glo "holds") rfl)⟩
theorem D_do_deed (X : K.In h) (G : h.Ns mainGlobals mg) (c : Says w K) : Df K mg "do_deed" "do_deed" s_do_deed := ⟨_, _, He5.fun_of (x := "do_deed") (qual := "do_deed") (st := s_do_deed) (kws := []) (c.def_ 11 (d := d_do_deed) rfl).choose_spec, glo_ok X G (c.fact 50 (f := .glo "do_deed") rfl)⟩
theorem D_Deed___init (c : Says w K) : DfI K (ga K "Deed") "Deed.__init__" s_Deed___init := ⟨_, _, mkr_ok (c.fact 109 (f := .mkr "Deed") rfl), He5.fun_of (x := "__init__") (qual := "Deed.__init__") (st := s_Deed___init) (kws := []) (c.def_ 12 (d := d_Deed___init) rfl).choose_spec⟩
theorem D_is_integer (X : K.In h) (G : h.Ns mainGlobals mg) (c : Says w K) : Df K mg "is_integer" "is_integer" s_is_integer := ⟨_, _, He5.fun_of (x := "is_integer") (qual := "is_integer") (st := s_is_integer) (kws := []) (c.def_ 13 (d := d_is_integer) rfl).choose_spec, glo_ok X G (c.fact 51 (f := .glo "is_integer") rfl)⟩
theorem D_within (X : K.In h) (G : h.Ns mainGlobals mg) (c : Says w K) : Df K mg "within" "within" s_within := ⟨_, _, He5.fun_of (x := "within") (qual := "within") (st := s_within) (kws := []) (c.def_ 14 (d := d_within) rfl).choose_spec, glo_ok X G (c.fact 52 (f := .glo "within") rfl)⟩
theorem D_is_cell (X : K.In h) (G : h.Ns mainGlobals mg) (c : Says w K) : Df K mg "is_cell" "is_cell" s_is_cell := ⟨_, _, He5.fun_of (x := "is_cell") (qual := "is_cell") (st := s_is_cell) (kws := []) (c.def_ 15 (d := d_is_cell) rfl).choose_spec, glo_ok X G (c.fact 53 (f := .glo "is_cell") rfl)⟩
theorem D_check_size (X : K.In h) (G : h.Ns mainGlobals mg) (c : Says w K) : Df K mg "check_size" "check_size" s_check_size := ⟨_, _, He5.fun_of (x := "check_size") (qual := "check_size") (st := s_check_size) (kws := []) (c.def_ 16 (d := d_check_size) rfl).choose_spec, glo_ok X G (c.fact 54 (f := .glo "check_size") rfl)⟩
theorem D_check_cell (X : K.In h) (G : h.Ns mainGlobals mg) (c : Says w K) : Df K mg "check_cell" "check_cell" s_check_cell := ⟨_, _, He5.fun_of (x := "check_cell") (qual := "check_cell") (st := s_check_cell) (kws := []) (c.def_ 17 (d := d_check_cell) rfl).choose_spec, glo_ok X G (c.fact 55 (f := .glo "check_cell") rfl)⟩
theorem D_images_of (X : K.In h) (G : h.Ns mainGlobals mg) (c : Says w K) : Df K mg "images_of" "images_of" s_images_of := ⟨_, _, He5.fun_of (x := "images_of") (qual := "images_of") (st := s_images_of) (kws := []) (c.def_ 18 (d := d_images_of) rfl).choose_spec, glo_ok X G (c.fact 56 (f := .glo "images_of") rfl)⟩
theorem D_images (X : K.In h) (G : h.Ns mainGlobals mg) (c : Says w K) : Df K mg "images" "images" s_images := ⟨_, _, He5.fun_of (x := "images") (qual := "images") (st := s_images) (kws := []) (c.def_ 19 (d := d_images) rfl).choose_spec, glo_ok X G (c.fact 57 (f := .glo "images") rfl)⟩
theorem D_found_kind (X : K.In h) (G : h.Ns mainGlobals mg) (c : Says w K) : Df K mg "found_kind" "found_kind" s_found_kind := ⟨_, _, He5.fun_of (x := "found_kind") (qual := "found_kind") (st := s_found_kind) (kws := []) (c.def_ 20 (d := d_found_kind) rfl).choose_spec, glo_ok X G (c.fact 58 (f := .glo "found_kind") rfl)⟩
theorem D_kind_of (X : K.In h) (G : h.Ns mainGlobals mg) (c : Says w K) : Df K mg "kind_of" "kind_of" s_kind_of := ⟨_, _, He5.fun_of (x := "kind_of") (qual := "kind_of") (st := s_kind_of) (kws := []) (c.def_ 21 (d := d_kind_of) rfl).choose_spec, glo_ok X G (c.fact 59 (f := .glo "kind_of") rfl)⟩
theorem D_least_size (X : K.In h) (G : h.Ns mainGlobals mg) (c : Says w K) : Df K mg "least_size" "least_size" s_least_size := ⟨_, _, He5.fun_of (x := "least_size") (qual := "least_size") (st := s_least_size) (kws := []) (c.def_ 22 (d := d_least_size) rfl).choose_spec, glo_ok X G (c.fact 60 (f := .glo "least_size") rfl)⟩
theorem D_corner (X : K.In h) (G : h.Ns mainGlobals mg) (c : Says w K) : Df K mg "corner" "corner" s_corner := ⟨_, _, He5.fun_of (x := "corner") (qual := "corner") (st := s_corner) (kws := []) (c.def_ 23 (d := d_corner) rfl).choose_spec, glo_ok X G (c.fact 61 (f := .glo "corner") rfl)⟩
theorem D_falls_at (X : K.In h) (G : h.Ns mainGlobals mg) (c : Says w K) : Df K mg "falls_at" "falls_at" s_falls_at := ⟨_, _, He5.fun_of (x := "falls_at") (qual := "falls_at") (st := s_falls_at) (kws := []) (c.def_ 24 (d := d_falls_at) rfl).choose_spec, glo_ok X G (c.fact 62 (f := .glo "falls_at") rfl)⟩
theorem D_orbit_rounds (X : K.In h) (G : h.Ns mainGlobals mg) (c : Says w K) : Df K mg "orbit_rounds" "orbit_rounds" s_orbit_rounds := ⟨_, _, He5.fun_of (x := "orbit_rounds") (qual := "orbit_rounds") (st := s_orbit_rounds) (kws := []) (c.def_ 25 (d := d_orbit_rounds) rfl).choose_spec, glo_ok X G (c.fact 63 (f := .glo "orbit_rounds") rfl)⟩
theorem D_starts (X : K.In h) (G : h.Ns mainGlobals mg) (c : Says w K) : Df K mg "starts" "starts" s_starts := ⟨_, _, He5.fun_of (x := "starts") (qual := "starts") (st := s_starts) (kws := []) (c.def_ 26 (d := d_starts) rfl).choose_spec, glo_ok X G (c.fact 64 (f := .glo "starts") rfl)⟩
theorem D_meet_rows (X : K.In h) (G : h.Ns mainGlobals mg) (c : Says w K) : Df K mg "meet_rows" "meet_rows" s_meet_rows := ⟨_, _, He5.fun_of (x := "meet_rows") (qual := "meet_rows") (st := s_meet_rows) (kws := []) (c.def_ 27 (d := d_meet_rows) rfl).choose_spec, glo_ok X G (c.fact 65 (f := .glo "meet_rows") rfl)⟩
theorem D_join_rows (X : K.In h) (G : h.Ns mainGlobals mg) (c : Says w K) : Df K mg "join_rows" "join_rows" s_join_rows := ⟨_, _, He5.fun_of (x := "join_rows") (qual := "join_rows") (st := s_join_rows) (kws := []) (c.def_ 28 (d := d_join_rows) rfl).choose_spec, glo_ok X G (c.fact 66 (f := .glo "join_rows") rfl)⟩
theorem D_moves_from (X : K.In h) (G : h.Ns mainGlobals mg) (c : Says w K) : Df K mg "moves_from" "moves_from" s_moves_from := ⟨_, _, He5.fun_of (x := "moves_from") (qual := "moves_from") (st := s_moves_from) (kws := []) (c.def_ 29 (d := d_moves_from) rfl).choose_spec, glo_ok X G (c.fact 67 (f := .glo "moves_from") rfl)⟩
theorem D_effect_on (X : K.In h) (G : h.Ns mainGlobals mg) (c : Says w K) : Df K mg "effect_on" "effect_on" s_effect_on := ⟨_, _, He5.fun_of (x := "effect_on") (qual := "effect_on") (st := s_effect_on) (kws := []) (c.def_ 30 (d := d_effect_on) rfl).choose_spec, glo_ok X G (c.fact 68 (f := .glo "effect_on") rfl)⟩
theorem D_bits_of (X : K.In h) (G : h.Ns mainGlobals mg) (c : Says w K) : Df K mg "bits_of" "bits_of" s_bits_of := ⟨_, _, He5.fun_of (x := "bits_of") (qual := "bits_of") (st := s_bits_of) (kws := []) (c.def_ 31 (d := d_bits_of) rfl).choose_spec, glo_ok X G (c.fact 69 (f := .glo "bits_of") rfl)⟩
theorem D_least_contents (X : K.In h) (G : h.Ns mainGlobals mg) (c : Says w K) : Df K mg "least_contents" "least_contents" s_least_contents := ⟨_, _, He5.fun_of (x := "least_contents") (qual := "least_contents") (st := s_least_contents) (kws := []) (c.def_ 32 (d := d_least_contents) rfl).choose_spec, glo_ok X G (c.fact 70 (f := .glo "least_contents") rfl)⟩
theorem D_Nest___init (c : Says w K) : DfI K (ga K "Nest") "Nest.__init__" s_Nest___init := ⟨_, _, mkr_ok (c.fact 115 (f := .mkr "Nest") rfl), He5.fun_of (x := "__init__") (qual := "Nest.__init__") (st := s_Nest___init) (kws := []) (c.def_ 33 (d := d_Nest___init) rfl).choose_spec⟩
theorem D_Program___init (c : Says w K) : DfI K (ga K "Program") "Program.__init__" s_Program___init := ⟨_, _, mkr_ok (c.fact 118 (f := .mkr "Program") rfl), He5.fun_of (x := "__init__") (qual := "Program.__init__") (st := s_Program___init) (kws := []) (c.def_ 34 (d := d_Program___init) rfl).choose_spec⟩
theorem D_Program_read (c : Says w K) : DfM K (ga K "Program") "read" "Program.read" s_Program_read := ⟨_, _, _, _, creB_ok (c.more 12 rfl), cmeB_ok (c.more 14 rfl), He5.fun_of (x := "read") (qual := "Program.read") (st := s_Program_read) (kws := []) (c.def_ 35 (d := d_Program_read) rfl).choose_spec⟩
theorem D_check_program (X : K.In h) (G : h.Ns mainGlobals mg) (c : Says w K) : Df K mg "check_program" "check_program" s_check_program := ⟨_, _, He5.fun_of (x := "check_program") (qual := "check_program") (st := s_check_program) (kws := []) (c.def_ 36 (d := d_check_program) rfl).choose_spec, glo_ok X G (c.fact 71 (f := .glo "check_program") rfl)⟩
theorem D_read_nests (X : K.In h) (G : h.Ns mainGlobals mg) (c : Says w K) : Df K mg "read_nests" "read_nests" s_read_nests := ⟨_, _, He5.fun_of (x := "read_nests") (qual := "read_nests") (st := s_read_nests) (kws := []) (c.def_ 37 (d := d_read_nests) rfl).choose_spec, glo_ok X G (c.fact 72 (f := .glo "read_nests") rfl)⟩
theorem D_read_nest (X : K.In h) (G : h.Ns mainGlobals mg) (c : Says w K) : Df K mg "read_nest" "read_nest" s_read_nest := ⟨_, _, He5.fun_of (x := "read_nest") (qual := "read_nest") (st := s_read_nest) (kws := []) (c.def_ 38 (d := d_read_nest) rfl).choose_spec, glo_ok X G (c.fact 73 (f := .glo "read_nest") rfl)⟩
theorem D_check_listed (X : K.In h) (G : h.Ns mainGlobals mg) (c : Says w K) : Df K mg "check_listed" "check_listed" s_check_listed := ⟨_, _, He5.fun_of (x := "check_listed") (qual := "check_listed") (st := s_check_listed) (kws := []) (c.def_ 39 (d := d_check_listed) rfl).choose_spec, glo_ok X G (c.fact 74 (f := .glo "check_listed") rfl)⟩
theorem D_check_tail (X : K.In h) (G : h.Ns mainGlobals mg) (c : Says w K) : Df K mg "check_tail" "check_tail" s_check_tail := ⟨_, _, He5.fun_of (x := "check_tail") (qual := "check_tail") (st := s_check_tail) (kws := []) (c.def_ 40 (d := d_check_tail) rfl).choose_spec, glo_ok X G (c.fact 75 (f := .glo "check_tail") rfl)⟩
theorem D_tail_from (X : K.In h) (G : h.Ns mainGlobals mg) (c : Says w K) : Df K mg "tail_from" "tail_from" s_tail_from := ⟨_, _, He5.fun_of (x := "tail_from") (qual := "tail_from") (st := s_tail_from) (kws := []) (c.def_ 41 (d := d_tail_from) rfl).choose_spec, glo_ok X G (c.fact 76 (f := .glo "tail_from") rfl)⟩
theorem D_goes_on (X : K.In h) (G : h.Ns mainGlobals mg) (c : Says w K) : Df K mg "goes_on" "goes_on" s_goes_on := ⟨_, _, He5.fun_of (x := "goes_on") (qual := "goes_on") (st := s_goes_on) (kws := []) (c.def_ 42 (d := d_goes_on) rfl).choose_spec, glo_ok X G (c.fact 77 (f := .glo "goes_on") rfl)⟩
theorem D_Sizes___init (c : Says w K) : DfK K (ga K "Sizes") "Sizes.__init__" s_Sizes___init := by
  obtain ⟨fd, F⟩ := c.def_ 43 (d := d_Sizes___init) rfl
  exact ⟨_, fd, _, _, mkr_ok (c.fact 122 (f := .mkr "Sizes") rfl), rfl, List.cons_ne_nil _ _, F⟩
theorem D_Sizes___contains (c : Says w K) : DfO K (ga K "Sizes") "__contains__" "Sizes.__contains__" s_Sizes___contains := ⟨_, _, meth_ok (c.fact 127 (f := .meth "Sizes" "__contains__") rfl), He5.fun_of (x := "__contains__") (qual := "Sizes.__contains__") (st := s_Sizes___contains) (kws := []) (c.def_ 44 (d := d_Sizes___contains) rfl).choose_spec⟩
theorem D_sizes_where (X : K.In h) (G : h.Ns mainGlobals mg) (c : Says w K) : Df K mg "sizes_where" "sizes_where" s_sizes_where := ⟨_, _, He5.fun_of (x := "sizes_where") (qual := "sizes_where") (st := s_sizes_where) (kws := []) (c.def_ 45 (d := d_sizes_where) rfl).choose_spec, glo_ok X G (c.fact 78 (f := .glo "sizes_where") rfl)⟩
theorem D_Action___init (c : Says w K) : DfI K (ga K "Action") "Action.__init__" s_Action___init := ⟨_, _, mkr_ok (c.fact 126 (f := .mkr "Action") rfl), He5.fun_of (x := "__init__") (qual := "Action.__init__") (st := s_Action___init) (kws := []) (c.def_ 46 (d := d_Action___init) rfl).choose_spec⟩
theorem D_Action_of (c : Says w K) : DfM K (ga K "Action") "of" "Action.of" s_Action_of := ⟨_, _, _, _, creB_ok (c.more 11 rfl), cmeB_ok (c.more 13 rfl), He5.fun_of (x := "of") (qual := "Action.of") (st := s_Action_of) (kws := []) (c.def_ 47 (d := d_Action_of) rfl).choose_spec⟩
theorem D_Action_result (c : Says w K) : DfO K (ga K "Action") "result" "Action.result" s_Action_result := ⟨_, _, meth_ok (c.fact 128 (f := .meth "Action" "result") rfl), He5.fun_of (x := "result") (qual := "Action.result") (st := s_Action_result) (kws := []) (c.def_ 48 (d := d_Action_result) rfl).choose_spec⟩
theorem D_Action_reaches (c : Says w K) : DfO K (ga K "Action") "reaches" "Action.reaches" s_Action_reaches := ⟨_, _, meth_ok (c.fact 129 (f := .meth "Action" "reaches") rfl), He5.fun_of (x := "reaches") (qual := "Action.reaches") (st := s_Action_reaches) (kws := []) (c.def_ 49 (d := d_Action_reaches) rfl).choose_spec⟩
theorem D_reached_bits (X : K.In h) (G : h.Ns mainGlobals mg) (c : Says w K) : Df K mg "reached_bits" "reached_bits" s_reached_bits := ⟨_, _, He5.fun_of (x := "reached_bits") (qual := "reached_bits") (st := s_reached_bits) (kws := []) (c.def_ 50 (d := d_reached_bits) rfl).choose_spec, glo_ok X G (c.fact 79 (f := .glo "reached_bits") rfl)⟩
theorem D_law_purl (X : K.In h) (G : h.Ns mainGlobals mg) (c : Says w K) : Df K mg "_law_purl" "_law_purl" s_law_purl := ⟨_, _, He5.fun_of (x := "_law_purl") (qual := "_law_purl") (st := s_law_purl) (kws := []) (c.def_ 51 (d := d_law_purl) rfl).choose_spec, glo_ok X G (c.fact 80 (f := .glo "_law_purl") rfl)⟩
theorem D_law_dig (X : K.In h) (G : h.Ns mainGlobals mg) (c : Says w K) : Df K mg "_law_dig" "_law_dig" s_law_dig := ⟨_, _, He5.fun_of (x := "_law_dig") (qual := "_law_dig") (st := s_law_dig) (kws := []) (c.def_ 52 (d := d_law_dig) rfl).choose_spec, glo_ok X G (c.fact 81 (f := .glo "_law_dig") rfl)⟩
theorem D_law_spots (X : K.In h) (G : h.Ns mainGlobals mg) (c : Says w K) : Df K mg "_law_spots" "_law_spots" s_law_spots := ⟨_, _, He5.fun_of (x := "_law_spots") (qual := "_law_spots") (st := s_law_spots) (kws := []) (c.def_ 53 (d := d_law_spots) rfl).choose_spec, glo_ok X G (c.fact 82 (f := .glo "_law_spots") rfl)⟩
theorem D_law_cells (X : K.In h) (G : h.Ns mainGlobals mg) (c : Says w K) : Df K mg "_law_cells" "_law_cells" s_law_cells := ⟨_, _, He5.fun_of (x := "_law_cells") (qual := "_law_cells") (st := s_law_cells) (kws := []) (c.def_ 54 (d := d_law_cells) rfl).choose_spec, glo_ok X G (c.fact 83 (f := .glo "_law_cells") rfl)⟩
theorem D_law_orbit (X : K.In h) (G : h.Ns mainGlobals mg) (c : Says w K) : Df K mg "_law_orbit" "_law_orbit" s_law_orbit := ⟨_, _, He5.fun_of (x := "_law_orbit") (qual := "_law_orbit") (st := s_law_orbit) (kws := []) (c.def_ 55 (d := d_law_orbit) rfl).choose_spec, glo_ok X G (c.fact 84 (f := .glo "_law_orbit") rfl)⟩
theorem D_law_end (X : K.In h) (G : h.Ns mainGlobals mg) (c : Says w K) : Df K mg "_law_end" "_law_end" s_law_end := ⟨_, _, He5.fun_of (x := "_law_end") (qual := "_law_end") (st := s_law_end) (kws := []) (c.def_ 56 (d := d_law_end) rfl).choose_spec, glo_ok X G (c.fact 85 (f := .glo "_law_end") rfl)⟩
theorem D_law_endtext (X : K.In h) (G : h.Ns mainGlobals mg) (c : Says w K) : Df K mg "_law_endtext" "_law_endtext" s_law_endtext := ⟨_, _, He5.fun_of (x := "_law_endtext") (qual := "_law_endtext") (st := s_law_endtext) (kws := []) (c.def_ 57 (d := d_law_endtext) rfl).choose_spec, glo_ok X G (c.fact 86 (f := .glo "_law_endtext") rfl)⟩
theorem D_law_loop (X : K.In h) (G : h.Ns mainGlobals mg) (c : Says w K) : Df K mg "_law_loop" "_law_loop" s_law_loop := ⟨_, _, He5.fun_of (x := "_law_loop") (qual := "_law_loop") (st := s_law_loop) (kws := []) (c.def_ 58 (d := d_law_loop) rfl).choose_spec, glo_ok X G (c.fact 87 (f := .glo "_law_loop") rfl)⟩
theorem D_law_looptext (X : K.In h) (G : h.Ns mainGlobals mg) (c : Says w K) : Df K mg "_law_looptext" "_law_looptext" s_law_looptext := ⟨_, _, He5.fun_of (x := "_law_looptext") (qual := "_law_looptext") (st := s_law_looptext) (kws := []) (c.def_ 59 (d := d_law_looptext) rfl).choose_spec, glo_ok X G (c.fact 88 (f := .glo "_law_looptext") rfl)⟩
theorem D_law_deed (X : K.In h) (G : h.Ns mainGlobals mg) (c : Says w K) : Df K mg "_law_deed" "_law_deed" s_law_deed := ⟨_, _, He5.fun_of (x := "_law_deed") (qual := "_law_deed") (st := s_law_deed) (kws := []) (c.def_ 60 (d := d_law_deed) rfl).choose_spec, glo_ok X G (c.fact 89 (f := .glo "_law_deed") rfl)⟩
theorem D_law_deedtext (X : K.In h) (G : h.Ns mainGlobals mg) (c : Says w K) : Df K mg "_law_deedtext" "_law_deedtext" s_law_deedtext := ⟨_, _, He5.fun_of (x := "_law_deedtext") (qual := "_law_deedtext") (st := s_law_deedtext) (kws := []) (c.def_ 61 (d := d_law_deedtext) rfl).choose_spec, glo_ok X G (c.fact 90 (f := .glo "_law_deedtext") rfl)⟩
theorem D_law_nest (X : K.In h) (G : h.Ns mainGlobals mg) (c : Says w K) : Df K mg "_law_nest" "_law_nest" s_law_nest := ⟨_, _, He5.fun_of (x := "_law_nest") (qual := "_law_nest") (st := s_law_nest) (kws := []) (c.def_ 62 (d := d_law_nest) rfl).choose_spec, glo_ok X G (c.fact 91 (f := .glo "_law_nest") rfl)⟩
theorem D_law_plan (X : K.In h) (G : h.Ns mainGlobals mg) (c : Says w K) : Df K mg "_law_plan" "_law_plan" s_law_plan := ⟨_, _, He5.fun_of (x := "_law_plan") (qual := "_law_plan") (st := s_law_plan) (kws := []) (c.def_ 63 (d := d_law_plan) rfl).choose_spec, glo_ok X G (c.fact 92 (f := .glo "_law_plan") rfl)⟩
theorem D_law_text (X : K.In h) (G : h.Ns mainGlobals mg) (c : Says w K) : Df K mg "_law_text" "_law_text" s_law_text := ⟨_, _, He5.fun_of (x := "_law_text") (qual := "_law_text") (st := s_law_text) (kws := []) (c.def_ 64 (d := d_law_text) rfl).choose_spec, glo_ok X G (c.fact 93 (f := .glo "_law_text") rfl)⟩
theorem D_law_steps (X : K.In h) (G : h.Ns mainGlobals mg) (c : Says w K) : Df K mg "_law_steps" "_law_steps" s_law_steps := ⟨_, _, He5.fun_of (x := "_law_steps") (qual := "_law_steps") (st := s_law_steps) (kws := []) (c.def_ 65 (d := d_law_steps) rfl).choose_spec, glo_ok X G (c.fact 94 (f := .glo "_law_steps") rfl)⟩
theorem D_law_turns (X : K.In h) (G : h.Ns mainGlobals mg) (c : Says w K) : Df K mg "_law_turns" "_law_turns" s_law_turns := ⟨_, _, He5.fun_of (x := "_law_turns") (qual := "_law_turns") (st := s_law_turns) (kws := []) (c.def_ 66 (d := d_law_turns) rfl).choose_spec, glo_ok X G (c.fact 95 (f := .glo "_law_turns") rfl)⟩
theorem D_law_out (X : K.In h) (G : h.Ns mainGlobals mg) (c : Says w K) : Df K mg "_law_out" "_law_out" s_law_out := ⟨_, _, He5.fun_of (x := "_law_out") (qual := "_law_out") (st := s_law_out) (kws := []) (c.def_ 67 (d := d_law_out) rfl).choose_spec, glo_ok X G (c.fact 96 (f := .glo "_law_out") rfl)⟩
theorem D_law_outfar (X : K.In h) (G : h.Ns mainGlobals mg) (c : Says w K) : Df K mg "_law_outfar" "_law_outfar" s_law_outfar := ⟨_, _, He5.fun_of (x := "_law_outfar") (qual := "_law_outfar") (st := s_law_outfar) (kws := []) (c.def_ 68 (d := d_law_outfar) rfl).choose_spec, glo_ok X G (c.fact 97 (f := .glo "_law_outfar") rfl)⟩
theorem D_law_far (X : K.In h) (G : h.Ns mainGlobals mg) (c : Says w K) : Df K mg "_law_far" "_law_far" s_law_far := ⟨_, _, He5.fun_of (x := "_law_far") (qual := "_law_far") (st := s_law_far) (kws := []) (c.def_ 69 (d := d_law_far) rfl).choose_spec, glo_ok X G (c.fact 98 (f := .glo "_law_far") rfl)⟩
theorem D_law_spot (X : K.In h) (G : h.Ns mainGlobals mg) (c : Says w K) : Df K mg "_law_spot" "_law_spot" s_law_spot := ⟨_, _, He5.fun_of (x := "_law_spot") (qual := "_law_spot") (st := s_law_spot) (kws := []) (c.def_ 70 (d := d_law_spot) rfl).choose_spec, glo_ok X G (c.fact 99 (f := .glo "_law_spot") rfl)⟩
theorem D_law_sort (X : K.In h) (G : h.Ns mainGlobals mg) (c : Says w K) : Df K mg "_law_sort" "_law_sort" s_law_sort := ⟨_, _, He5.fun_of (x := "_law_sort") (qual := "_law_sort") (st := s_law_sort) (kws := []) (c.def_ 71 (d := d_law_sort) rfl).choose_spec, glo_ok X G (c.fact 100 (f := .glo "_law_sort") rfl)⟩
theorem D_law_letters (X : K.In h) (G : h.Ns mainGlobals mg) (c : Says w K) : Df K mg "_law_letters" "_law_letters" s_law_letters := ⟨_, _, He5.fun_of (x := "_law_letters") (qual := "_law_letters") (st := s_law_letters) (kws := []) (c.def_ 72 (d := d_law_letters) rfl).choose_spec, glo_ok X G (c.fact 101 (f := .glo "_law_letters") rfl)⟩
theorem D_law_led (X : K.In h) (G : h.Ns mainGlobals mg) (c : Says w K) : Df K mg "_law_led" "_law_led" s_law_led := ⟨_, _, He5.fun_of (x := "_law_led") (qual := "_law_led") (st := s_law_led) (kws := []) (c.def_ 73 (d := d_law_led) rfl).choose_spec, glo_ok X G (c.fact 102 (f := .glo "_law_led") rfl)⟩
theorem D_law_right (X : K.In h) (G : h.Ns mainGlobals mg) (c : Says w K) : Df K mg "_law_right" "_law_right" s_law_right := ⟨_, _, He5.fun_of (x := "_law_right") (qual := "_law_right") (st := s_law_right) (kws := []) (c.def_ 74 (d := d_law_right) rfl).choose_spec, glo_ok X G (c.fact 103 (f := .glo "_law_right") rfl)⟩
theorem D_law (X : K.In h) (G : h.Ns mainGlobals mg) (c : Says w K) : Df K mg "law" "law" s_law := ⟨_, _, He5.fun_of (x := "law") (qual := "law") (st := s_law) (kws := []) (c.def_ 75 (d := d_law) rfl).choose_spec, glo_ok X G (c.fact 104 (f := .glo "law") rfl)⟩
theorem D_within_values (X : K.In h) (G : h.Ns mainGlobals mg) (c : Says w K) : Df K mg "within_values" "within" s_within := ⟨_, _, He5.fun_of (x := "within") (qual := "within") (st := s_within) (kws := []) (c.def_ 14 (d := d_within) rfl).choose_spec, PySem.W.mg_of X G (eqO_ok (c.more 15 rfl))⟩
theorem law_all (X : K.In h) (G : h.Ns mainGlobals mg) (c : Says w K) : mg "law" = some (.ref (ga K "law")) ∧ ∃ fd : FuncData, (∀ (s : Shared) (v : Value), BindsTo s fd ⟨[v], []⟩ [("_law_script", v)]) ∧ ∀ base : Heap, FnOk P w K mg base CX0 11 (ga K "law") fd ["_law_script"] (sp_lawM (K := K)) := by
  have T : Ty w K mg := ty_of X G c
  obtain ⟨fd, F⟩ := c.def_ 75 (d := d_law) rfl
  have F2 : Fun K "law" "law" s_law (ga K "law") fd := He5.fun_of (x := "law") (qual := "law") (st := s_law) (kws := []) F
  have b := FunD.bindsA (ps := ["_law_script"]) F fun _ _ _ _ _ _ us hl => match us, hl with | [_], _ => rfl
  refine ⟨glo_ok X G (c.fact 104 (f := .glo "law") rfl), fd, fun s v => b s [v] rfl, fun base => ?_⟩
  have c_bound_value := Sq.c_bound_value (P := P) (w := w) (base := base) T.toTx (D_bound_value X G c)
  have c_is_bound := Sq.c_is_bound (P := P) (w := w) (base := base) T.toTx (D_is_bound X G c)
  have c_goes_down := Sq.c_goes_down (P := P) (w := w) (base := base) (D_goes_down X G c)
  have c_loop_range := Sq.c_loop_range (P := P) (w := w) (base := base) T.toTx c_bound_value c_goes_down (D_loop_range X G c)
  have c_in_loop := Sq.c_in_loop (P := P) (w := w) (base := base) c_loop_range (D_in_loop X G c)
  have c_is_loop := Sq.c_is_loop (P := P) (w := w) (base := base) T.toTx c_is_bound (D_is_loop X G c)
  have c_is_integer := Sq.c_is_integer (P := P) (w := w) (base := base) T.toTx (D_is_integer X G c)
  have c_within_values := Sq.c_within (P := P) (w := w) (base := base) c_is_integer (D_within_values X G c)
  have c_is_cell := Sq.c_is_cell (P := P) (w := w) (base := base) T.toTx c_within_values (D_is_cell X G c)
  have c_check_size := Sq.c_check_size (P := P) (w := w) (base := base) T.toTx c_within_values (D_check_size X G c)
  have c_check_cell := Sq.c_check_cell (P := P) (w := w) (base := base) c_is_cell (D_check_cell X G c)
  have c_images_of := Sq.c_images_of (P := P) (w := w) (base := base) T.toTx (D_images_of X G c)
  have c_images := Sq.c_images (P := P) (w := w) (base := base) c_check_size c_check_cell c_images_of (D_images X G c)
  have c_found_kind := Sq.c_found_kind (P := P) (w := w) (base := base) T.toTx (D_found_kind X G c)
  have c_kind_of := Sq.c_kind_of (P := P) (w := w) (base := base) c_check_size c_check_cell c_found_kind (D_kind_of X G c)
  have c_least_size := Sq.c_least_size (P := P) (w := w) (base := base) (D_least_size X G c)
  have c_corner := Sq.c_corner (P := P) (w := w) (base := base) (D_corner X G c)
  have c_meet_rows := Sq.c_meet_rows (P := P) (w := w) (base := base) (D_meet_rows X G c)
  have c_join_rows := Sq.c_join_rows (P := P) (w := w) (base := base) (D_join_rows X G c)
  have c_bits_of := Sq.c_bits_of (P := P) (w := w) (base := base) T.toTx (D_bits_of X G c)
  have c_starts := Sq.c_starts (P := P) (w := w) (base := base) T.toTx (D_starts X G c)
  have c_moves_from := Sq.c_moves_from (P := P) (w := w) (base := base) T.toTx (D_moves_from X G c)
  have c_least_contents := Sq.c_least_contents (P := P) (w := w) (base := base) T.toTx c_bits_of (D_least_contents X G c)
  have c_reached_bits := Sq.c_reached_bits (P := P) (w := w) (base := base) T.toTx c_bits_of (D_reached_bits X G c)
  have c_is_guard := Sq.c_is_guard (P := P) (w := w) (base := base) T (D_is_guard X G c)
  have c_number_of := Sq.c_number_of (P := P) (w := w) (base := base) (D_number_of X G c)
  have c_place_cell := Sq.c_place_cell (P := P) (w := w) (base := base) c_number_of (D_place_cell X G c)
  have c_holds := Sq.c_holds (P := P) (w := w) (base := base) T c_number_of (D_holds X G c)
  have c_Deed___init := Sq.c_Deed___init (P := P) (w := w) (base := base) T (D_Deed___init c)
  have c_parsed_deed := Sq.c_parsed_deed (P := P) (w := w) (base := base) T c_is_guard c_Deed___init (D_parsed_deed X G c)
  have c_meetA := Sq.c_meetA (P := P) (w := w) (base := base) (D_meet_rows X G c)
  have c_joinA := Sq.c_joinA (P := P) (w := w) (base := base) (D_join_rows X G c)
  have c_do_deed := Sq.c_do_deed (P := P) (w := w) (base := base) T (held_of c_meetA T.g_meet_rows) (held_of c_joinA T.g_join_rows) c_holds c_place_cell (D_do_deed X G c)
  have c_orbit_rounds := Sq.c_orbit_rounds (P := P) (w := w) (base := base) T c_in_loop c_goes_down (D_orbit_rounds X G c)
  have c_effect_on := Sq.c_effect_on (P := P) (w := w) (base := base) T c_images_of c_starts c_orbit_rounds c_do_deed c_moves_from (D_effect_on X G c)
  have c_falls_at := Sq.c_falls_at (P := P) (w := w) (base := base) T c_loop_range (D_falls_at X G c)
  have c_check_listed := Sq.c_check_listed (P := P) (w := w) (base := base) T c_within_values (D_check_listed X G c)
  have c_check_tail := Sq.c_check_tail (P := P) (w := w) (base := base) T c_within_values (D_check_tail X G c)
  have c_tail_from := Sq.c_tail_from (P := P) (w := w) (base := base) T (D_tail_from X G c)
  have c_goes_on := Sq.c_goes_on (P := P) (w := w) (base := base) T (D_goes_on X G c)
  have c_Sizes___contains := Sq.c_Sizes___contains (P := P) (w := w) (base := base) T c_is_integer c_goes_on (D_Sizes___contains c)
  have c_Sizes___init := Sq.c_Sizes___init (P := P) (w := w) (base := base) T c_check_listed c_check_tail c_tail_from c_goes_on (D_Sizes___init c)
  have c_sizes_where := Sq.c_sizes_where (P := P) (w := w) (base := base) T c_Sizes___init (D_sizes_where X G c)
  have c_Action___init := Sq.c_Action___init (P := P) (w := w) (base := base) T (D_Action___init c)
  have c_check_program := Sq.c_check_program (P := P) (w := w) (base := base) T (D_check_program X G c)
  have c_Action_of := Sq.c_Action_of (P := P) (w := w) (base := base) T c_check_program c_effect_on c_least_size c_corner c_sizes_where c_falls_at c_Action___init (D_Action_of c)
  have c_Action_result := Sq.c_Action_result (P := P) (w := w) (base := base) T c_check_size c_check_cell c_images_of c_found_kind c_least_contents c_bits_of c_Sizes___contains (D_Action_result c)
  have c_Action_reaches := Sq.c_Action_reaches (P := P) (w := w) (base := base) T c_check_size c_check_cell c_images_of c_found_kind c_reached_bits c_Sizes___contains (D_Action_reaches c)
  have c_Nest___init := Sq.c_Nest___init (P := P) (w := w) (base := base) T c_is_loop c_parsed_deed (D_Nest___init c)
  have c_Program___init := Sq.c_Program___init (P := P) (w := w) (base := base) T (D_Program___init c)
  have c_read_nest := Sq.c_read_nest (P := P) (w := w) (base := base) T c_Nest___init (D_read_nest X G c)
  have c_read_nests := Sq.c_read_nests (P := P) (w := w) (base := base) T c_read_nest (D_read_nests X G c)
  have c_Program_read := Sq.c_Program_read (P := P) (w := w) (base := base) T c_read_nests c_Program___init (D_Program_read c)
  have c_law_endtext := Sq.c_law_endtext (P := P) (w := w) (base := base) T (D_law_endtext X G c)
  have c_law_looptext := Sq.c_law_looptext (P := P) (w := w) (base := base) T c_law_endtext (D_law_looptext X G c)
  have c_law_end := Sq.c_law_end (P := P) (w := w) (base := base) T (D_law_end X G c)
  have c_law_spots := Sq.c_law_spots (P := P) (w := w) (base := base) T (D_law_spots X G c)
  have c_law_deedtext := Sq.c_law_deedtext (P := P) (w := w) (base := base) T c_law_spots (D_law_deedtext X G c)
  have c_law_text := Sq.c_law_text (P := P) (w := w) (base := base) T c_law_looptext c_law_deedtext (D_law_text X G c)
  have c_law_led := Sq.c_law_led (P := P) (w := w) (base := base) T (D_law_led X G c)
  have c_law_sort := Sq.c_law_sort (P := P) (w := w) (base := base) T.toTx (D_law_sort X G c)
  have c_law_letters := Sq.c_law_letters (P := P) (w := w) (base := base) T.toTx (D_law_letters X G c)
  have c_law_cells := Sq.c_law_cells (P := P) (w := w) (base := base) T.toTx (D_law_cells X G c)
  have c_law_orbit := Sq.c_law_orbit (P := P) (w := w) (base := base) T.toTx c_law_cells (D_law_orbit X G c)
  have c_law_steps := Sq.c_law_steps (P := P) (w := w) (base := base) T.toTx c_law_end (D_law_steps X G c)
  have c_law_turns := Sq.c_law_turns (P := P) (w := w) (base := base) T c_law_steps (D_law_turns X G c)
  have c_law_out := Sq.c_law_out (P := P) (w := w) (base := base) T c_law_turns (D_law_out X G c)
  have c_law_outfar := Sq.c_law_outfar (P := P) (w := w) (base := base) T c_law_out (D_law_outfar X G c)
  have c_law_dig := Sq.c_law_dig (P := P) (w := w) (base := base) T.toTx (D_law_dig X G c)
  have c_law_purl := Sq.c_law_purl (P := P) (w := w) (base := base) T.toTx (D_law_purl X G c)
  have c_law_loop := Sq.c_law_loop (P := P) (w := w) (base := base) T.toTx c_law_dig (D_law_loop X G c)
  have c_law_deed := Sq.c_law_deed (P := P) (w := w) (base := base) T.toTx c_law_dig (D_law_deed X G c)
  have c_law_nest := Sq.c_law_nest (P := P) (w := w) (base := base) T.toTx c_law_dig c_law_loop c_law_deed (D_law_nest X G c)
  have c_law_plan := Sq.c_law_plan (P := P) (w := w) (base := base) T.toTx c_law_dig c_law_nest (D_law_plan X G c)
  have c_law_far := Sq.c_law_far (P := P) (w := w) (base := base) T.toTx c_law_dig (D_law_far X G c)
  have c_law_spot := Sq.c_law_spot (P := P) (w := w) (base := base) T.toTx c_law_dig (D_law_spot X G c)
  have c_law_ledT := Sq.c_law_ledT (P := P) (w := w) (base := base) T.toTx (D_law_led X G c)
  have c_law_right := Sq.c_law_right (P := P) (w := w) (base := base) T c_law_plan c_law_far c_law_spot c_law_sort c_law_outfar c_law_out c_Action_of c_Program_read c_law_text c_law_letters c_law_orbit c_images c_law_led c_law_ledT c_kind_of c_Action_result c_Action_reaches (D_law_right X G c)
  exact law_fn T.toTx c_law_purl c_law_right F2
end
end Sq
/-! Sq, part K4: the end. -/
namespace Sq
open PySem PySem.Spec PyProof.Rows L2 He He5
theorem facts {P : Program} {w : World} {K : PySem.W.Frag} {h : Heap} {mg : Str → Option Value} {f : Addr} (X : K.In h) (G : h.Ns mainGlobals mg) (hfa : mg ("law" : Str) = some (.ref f)) (c : Says w K) :
    ∃ fd : FuncData, (∀ (s : Shared) (v : Value), BindsTo s fd ⟨[v], []⟩ [("_law_script", v)]) ∧ ∀ base : Heap, K.In base → base.Ns mainGlobals mg → FnOk P w K mg base CX0 11 f fd ["_law_script"] (spLaw K) := by
  obtain ⟨e1, fd, b, ok⟩ := law_all (P := P) X G c
  have e := hfa.symm.trans e1
  cases e
  exact ⟨fd, b, fun base _ _ => (ok base).imp fun vs H Q E h => law_sp h⟩
end Sq
open PySem PySem.W PySem.Calls PyProof.Rows
theorem PySem.Challenge.cw_squareloops_k83_whole_cells_of_one_kind_holds : PySem.Challenge.rw_squareloops_k83_whole_cells_of_one_kind.Holds := by
  w_on; o_law
  refine HandSHeadRun.head_any (r := OpenLaw.row PySem.Challenge.rw_squareloops_k83_whole_cells_of_one_kind) (q := view (OpenLaw.row PySem.Challenge.rw_squareloops_k83_whole_cells_of_one_kind).prog [123]) (H := Sq.sqHk) (ob := Sq.sqOb) (M := 20000) (loose := Sq.sqNm) (d := HandSHeadRun.topDef (OpenLaw.row PySem.Challenge.rw_squareloops_k83_whole_cells_of_one_kind).prog 123) (kwd := []) Sq.sqOb_eq
    (by kernel_rfl) (fun s => by kernel_rfl) Sq.sqRun (by kernel_rfl) (by kernel_rfl) (by kernel_rfl) (by rfl) (by first | assumption | decide +kernel) (by decide +kernel) ⟨rfl, rfl, rfl, rfl, rfl, by decide +kernel⟩ ?hw ?hc
  case hw => w_witness2
  case hc =>
    refine L2.walk_ofE (l := PySem.Challenge.rw_squareloops_k83_whole_cells_of_one_kind) (n := 63) (k := 11) (x := "_law_script") (CX := L2.CX0) rfl (by decide) (by kernel_rfl) ⟨rfl, by decide, by decide⟩ ?F (fun _ _ _ _ z => z)
    intro w mg fa h Y G hmg0
    obtain ⟨K, KX, c⟩ := Y
    have hmg : mg ("law" : PySem.Str) = some (.ref fa) := by
      have e : (HandSHeadRun.topDef (OpenLaw.row PySem.Challenge.rw_squareloops_k83_whole_cells_of_one_kind).prog 123).name = ("law" : PySem.Str) := by kernel_rfl
      rw [← e]
      exact hmg0
    obtain ⟨fd, hb, hF⟩ := Sq.facts (P := (PySem.Challenge.rw_squareloops_k83_whole_cells_of_one_kind).prog) (w := w) KX G hmg c
    exact ⟨K, fd, Sq.spLaw K, KX, hb, fun H a ns hl _ hS => ⟨a, ns, rfl, hS, hl, fun _ => rfl⟩, hF⟩
