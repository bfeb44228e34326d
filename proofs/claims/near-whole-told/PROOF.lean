import PyProof.Rows.All
import Wide.All
import OpenK.AllK
import Wide.FinOn
import HandS.ForMost
import HandS.Head0
import HandS.Head1
import HandS.Head2
import HandS.HeadEnd
import HandS.HeadHook1
import HandS.Evl
import HandS.IsInst
import HandS.Wide
import HandS.Zip
import HandS.Exc
import HandS.SortRule
import HandS.Conv
import HandS.Text
import PyProof.ReprRoads
import PyProof.ReprLen
import PyProof.FitsInt
import PySem.Challenge.RW_ringloads_k39_near_whole_told
section NwText_
set_option Elab.async false
set_option linter.all false
set_option maxRecDepth 100000
set_option maxHeartbeats 0
namespace NwT
open PySem PySem.Spec PyProof.Rows L2
def top (i : Nat) : Stmt := PySem.Challenge.pw_ringloads_k39_near_whole_told.main.body.getD i (.Pass ⟨0, 0, 0, 0⟩)
abbrev s_is_whole : Stmt := top 5
abbrev s_common : Stmt := top 6
abbrev s_is_ratio : Stmt := top 7
abbrev s_lowered : Stmt := top 10
abbrev s_plus : Stmt := top 11
abbrev s_minus : Stmt := top 12
abbrev s_times : Stmt := top 13
abbrev s_over : Stmt := top 14
abbrev s_under : Stmt := top 15
abbrev s_greater : Stmt := top 16
abbrev s_lesser : Stmt := top 17
abbrev s_sum_of : Stmt := top 18
abbrev s_do_cross : Stmt := top 20
abbrev s_is_parted : Stmt := top 21
abbrev s_parted_in : Stmt := top 22
abbrev s_all_cross : Stmt := top 23
abbrev s_is_cut : Stmt := top 25
abbrev s_is_within : Stmt := top 26
abbrev s_is_apart : Stmt := top 27
abbrev s_across : Stmt := top 28
abbrev s_rooms_of : Stmt := top 29
abbrev s_shown_by : Stmt := top 30
abbrev s_all_cuts : Stmt := top 31
abbrev s_greatest_cut : Stmt := top 32
abbrev s_other_way : Stmt := top 36
abbrev s_ties_of : Stmt := top 37
abbrev s_is_over : Stmt := top 38
abbrev s_loads_of : Stmt := top 40
abbrev s_strains_of : Stmt := top 41
abbrev s_top_of : Stmt := top 42
abbrev s_table_of : Stmt := top 44
abbrev s_cut_above : Stmt := top 47
abbrev s_Filling___init__ : Stmt := inClass (top 48) 0
abbrev s_Filling_slack : Stmt := inClass (top 48) 1
abbrev s_Filling_most_on : Stmt := inClass (top 48) 2
abbrev s_Filling_take : Stmt := inClass (top 48) 3
abbrev s_Filling_sent : Stmt := inClass (top 48) 4
abbrev s_fitting : Stmt := top 49
abbrev s_first_broken : Stmt := top 51
abbrev s_are_ways : Stmt := top 52
abbrev s_sent_by : Stmt := top 53
abbrev s_least_top : Stmt := top 55
abbrev s_is_sending : Stmt := top 56
abbrev s_lets_least : Stmt := top 57
abbrev s_is_number : Stmt := top 59
abbrev s_gone_by : Stmt := top 62
abbrev s_are_apart : Stmt := top 63
abbrev s_is_way : Stmt := top 64
abbrev s_is_slide : Stmt := top 65
abbrev s_moved : Stmt := top 66
abbrev s_slid : Stmt := top 67
abbrev s_slid_by : Stmt := top 68
abbrev s_ways_apart : Stmt := top 69
abbrev s_next_slide : Stmt := top 70
abbrev s_slides_for : Stmt := top 71
abbrev s_rising_way : Stmt := top 73
abbrev s_gain_by : Stmt := top 74
abbrev s_in_order : Stmt := top 75
abbrev s_half_of_greatest : Stmt := top 76
abbrev s_goes_whole : Stmt := top 77
abbrev s_are_rounded : Stmt := top 78
abbrev s_behind_or_none : Stmt := top 79
abbrev s_lets_rounding : Stmt := top 80
abbrev s_whole_ways : Stmt := top 81
abbrev s_rounding_of : Stmt := top 82
abbrev s_near_whole : Stmt := top 83
abbrev s__law_begun : Stmt := top 85
abbrev s__law_take : Stmt := top 86
abbrev s__law_low : Stmt := top 87
abbrev s__law_amount : Stmt := top 88
abbrev s__law_names : Stmt := top 89
abbrev s__law_rooms : Stmt := top 90
abbrev s__law_ends : Stmt := top 91
abbrev s__law_ring : Stmt := top 92
abbrev s__law_plus : Stmt := top 93
abbrev s__law_minus : Stmt := top 94
abbrev s__law_under : Stmt := top 95
abbrev s__law_ties : Stmt := top 96
abbrev s__law_loads : Stmt := top 97
abbrev s__law_parted : Stmt := top 98
abbrev s__law_greatest : Stmt := top 99
abbrev s__law_right : Stmt := top 100
abbrev s_law : Stmt := top 101
def ks0 : List Str := ["__name__", "__doc__", "__package__", "__loader__", "__spec__", "__annotations__", "__builtins__", "__file__", "__cached__", "LoadError", "NoNumber", "NoSlide", "is_whole", "common", "is_ratio", "NOUGHT", "lowered", "plus", "minus", "times", "over", "under", "greater", "lesser"]
def ks1 : List Str := ["sum_of", "do_cross", "is_parted", "parted_in", "all_cross", "is_cut", "is_within", "is_apart", "across", "rooms_of", "shown_by", "all_cuts", "greatest_cut", "ON", "BACK", "other_way", "ties_of", "is_over", "loads_of", "strains_of", "top_of", "table_of", "TWO", "cut_above"]
def ks2 : List Str := ["Filling", "fitting", "first_broken", "are_ways", "sent_by", "least_top", "is_sending", "lets_least", "is_number", "BOTH", "gone_by", "are_apart", "is_way", "is_slide", "moved", "slid", "slid_by", "ways_apart", "next_slide", "slides_for", "rising_way", "gain_by", "in_order", "half_of_greatest"]
def ks3 : List Str := ["goes_whole", "are_rounded", "behind_or_none", "lets_rounding", "whole_ways", "rounding_of", "near_whole", "_law_begun", "_law_take", "_law_low", "_law_amount", "_law_names", "_law_rooms", "_law_ends", "_law_ring", "_law_plus", "_law_minus", "_law_under", "_law_ties", "_law_loads", "_law_parted", "_law_greatest", "_law_right", "law"]
/-- the names that the top binds, in their order -/
def ks : List Str := ks0 ++ ks1 ++ ks2 ++ ks3
def vs0 : List V := [.ref 24, .ref 37, .ref 56, .ref 65, .ref 72, .ref 79, .ref 80, .ref 87, .ref 94, .ref 101, .ref 108, .ref 115, .ref 122, .ref 129, .ref 136, .ref 143, .ref 148, .ref 155, .ref 160, .ref 167, .ref 174, .ref 181, .ref 188, .ref 193]
def vs1 : List V := [.ref 200, .ref 207, .ref 212, .ref 219, .str "on", .str "back", .ref 226, .ref 231, .ref 238, .ref 245, .ref 250, .ref 257, .ref 262, .ref 263, .ref 270, .ref 311, .ref 322, .ref 329, .ref 334, .ref 339, .ref 346, .ref 351, .ref 358, .ref 365]
def vs2 : List V := [.ref 366, .ref 373, .ref 378, .ref 385, .ref 392, .ref 399, .ref 406, .ref 413, .ref 420, .ref 427, .ref 434, .ref 441, .ref 448, .ref 453, .ref 460, .ref 467, .ref 474, .ref 481, .ref 488, .ref 493, .ref 500, .ref 507, .ref 514, .ref 521]
def vs3 : List V := [.ref 528, .ref 535, .ref 540, .ref 547, .ref 554, .ref 561, .ref 568, .ref 575, .ref 582, .ref 589, .ref 596, .ref 603, .ref 610, .ref 615, .ref 622]
def vs : List V := vs0 ++ vs1 ++ vs2 ++ vs3
/-- a def: where it stands, its name, its qualified name, its text -/
structure Dd where
  at_ : Addr
  name : Str
  qual : Str
  st : Stmt
def d_is_whole : Dd := ⟨65, "is_whole", "is_whole", s_is_whole⟩
def d_common : Dd := ⟨72, "common", "common", s_common⟩
def d_is_ratio : Dd := ⟨79, "is_ratio", "is_ratio", s_is_ratio⟩
def d_lowered : Dd := ⟨87, "lowered", "lowered", s_lowered⟩
def d_plus : Dd := ⟨94, "plus", "plus", s_plus⟩
def d_minus : Dd := ⟨101, "minus", "minus", s_minus⟩
def d_times : Dd := ⟨108, "times", "times", s_times⟩
def d_over : Dd := ⟨115, "over", "over", s_over⟩
def d_under : Dd := ⟨122, "under", "under", s_under⟩
def d_greater : Dd := ⟨129, "greater", "greater", s_greater⟩
def d_lesser : Dd := ⟨136, "lesser", "lesser", s_lesser⟩
def d_sum_of : Dd := ⟨143, "sum_of", "sum_of", s_sum_of⟩
def d_do_cross : Dd := ⟨148, "do_cross", "do_cross", s_do_cross⟩
def d_is_parted : Dd := ⟨155, "is_parted", "is_parted", s_is_parted⟩
def d_parted_in : Dd := ⟨160, "parted_in", "parted_in", s_parted_in⟩
def d_all_cross : Dd := ⟨167, "all_cross", "all_cross", s_all_cross⟩
def d_is_cut : Dd := ⟨174, "is_cut", "is_cut", s_is_cut⟩
def d_is_within : Dd := ⟨181, "is_within", "is_within", s_is_within⟩
def d_is_apart : Dd := ⟨188, "is_apart", "is_apart", s_is_apart⟩
def d_across : Dd := ⟨193, "across", "across", s_across⟩
def d_rooms_of : Dd := ⟨200, "rooms_of", "rooms_of", s_rooms_of⟩
def d_shown_by : Dd := ⟨207, "shown_by", "shown_by", s_shown_by⟩
def d_all_cuts : Dd := ⟨212, "all_cuts", "all_cuts", s_all_cuts⟩
def d_greatest_cut : Dd := ⟨219, "greatest_cut", "greatest_cut", s_greatest_cut⟩
def d_other_way : Dd := ⟨226, "other_way", "other_way", s_other_way⟩
def d_ties_of : Dd := ⟨231, "ties_of", "ties_of", s_ties_of⟩
def d_is_over : Dd := ⟨238, "is_over", "is_over", s_is_over⟩
def d_loads_of : Dd := ⟨245, "loads_of", "loads_of", s_loads_of⟩
def d_strains_of : Dd := ⟨250, "strains_of", "strains_of", s_strains_of⟩
def d_top_of : Dd := ⟨257, "top_of", "top_of", s_top_of⟩
def d_table_of : Dd := ⟨262, "table_of", "table_of", s_table_of⟩
def d_cut_above : Dd := ⟨270, "cut_above", "cut_above", s_cut_above⟩
def d_fitting : Dd := ⟨322, "fitting", "fitting", s_fitting⟩
def d_first_broken : Dd := ⟨329, "first_broken", "first_broken", s_first_broken⟩
def d_are_ways : Dd := ⟨334, "are_ways", "are_ways", s_are_ways⟩
def d_sent_by : Dd := ⟨339, "sent_by", "sent_by", s_sent_by⟩
def d_least_top : Dd := ⟨346, "least_top", "least_top", s_least_top⟩
def d_is_sending : Dd := ⟨351, "is_sending", "is_sending", s_is_sending⟩
def d_lets_least : Dd := ⟨358, "lets_least", "lets_least", s_lets_least⟩
def d_is_number : Dd := ⟨365, "is_number", "is_number", s_is_number⟩
def d_gone_by : Dd := ⟨373, "gone_by", "gone_by", s_gone_by⟩
def d_are_apart : Dd := ⟨378, "are_apart", "are_apart", s_are_apart⟩
def d_is_way : Dd := ⟨385, "is_way", "is_way", s_is_way⟩
def d_is_slide : Dd := ⟨392, "is_slide", "is_slide", s_is_slide⟩
def d_moved : Dd := ⟨399, "moved", "moved", s_moved⟩
def d_slid : Dd := ⟨406, "slid", "slid", s_slid⟩
def d_slid_by : Dd := ⟨413, "slid_by", "slid_by", s_slid_by⟩
def d_ways_apart : Dd := ⟨420, "ways_apart", "ways_apart", s_ways_apart⟩
def d_next_slide : Dd := ⟨427, "next_slide", "next_slide", s_next_slide⟩
def d_slides_for : Dd := ⟨434, "slides_for", "slides_for", s_slides_for⟩
def d_rising_way : Dd := ⟨441, "rising_way", "rising_way", s_rising_way⟩
def d_gain_by : Dd := ⟨448, "gain_by", "gain_by", s_gain_by⟩
def d_in_order : Dd := ⟨453, "in_order", "in_order", s_in_order⟩
def d_half_of_greatest : Dd := ⟨460, "half_of_greatest", "half_of_greatest", s_half_of_greatest⟩
def d_goes_whole : Dd := ⟨467, "goes_whole", "goes_whole", s_goes_whole⟩
def d_are_rounded : Dd := ⟨474, "are_rounded", "are_rounded", s_are_rounded⟩
def d_behind_or_none : Dd := ⟨481, "behind_or_none", "behind_or_none", s_behind_or_none⟩
def d_lets_rounding : Dd := ⟨488, "lets_rounding", "lets_rounding", s_lets_rounding⟩
def d_whole_ways : Dd := ⟨493, "whole_ways", "whole_ways", s_whole_ways⟩
def d_rounding_of : Dd := ⟨500, "rounding_of", "rounding_of", s_rounding_of⟩
def d_near_whole : Dd := ⟨507, "near_whole", "near_whole", s_near_whole⟩
def d__law_begun : Dd := ⟨514, "_law_begun", "_law_begun", s__law_begun⟩
def d__law_take : Dd := ⟨521, "_law_take", "_law_take", s__law_take⟩
def d__law_low : Dd := ⟨528, "_law_low", "_law_low", s__law_low⟩
def d__law_amount : Dd := ⟨535, "_law_amount", "_law_amount", s__law_amount⟩
def d__law_names : Dd := ⟨540, "_law_names", "_law_names", s__law_names⟩
def d__law_rooms : Dd := ⟨547, "_law_rooms", "_law_rooms", s__law_rooms⟩
def d__law_ends : Dd := ⟨554, "_law_ends", "_law_ends", s__law_ends⟩
def d__law_ring : Dd := ⟨561, "_law_ring", "_law_ring", s__law_ring⟩
def d__law_plus : Dd := ⟨568, "_law_plus", "_law_plus", s__law_plus⟩
def d__law_minus : Dd := ⟨575, "_law_minus", "_law_minus", s__law_minus⟩
def d__law_under : Dd := ⟨582, "_law_under", "_law_under", s__law_under⟩
def d__law_ties : Dd := ⟨589, "_law_ties", "_law_ties", s__law_ties⟩
def d__law_loads : Dd := ⟨596, "_law_loads", "_law_loads", s__law_loads⟩
def d__law_parted : Dd := ⟨603, "_law_parted", "_law_parted", s__law_parted⟩
def d__law_greatest : Dd := ⟨610, "_law_greatest", "_law_greatest", s__law_greatest⟩
def d__law_right : Dd := ⟨615, "_law_right", "_law_right", s__law_right⟩
def d_law : Dd := ⟨622, "law", "law", s_law⟩
def d_Filling___init__ : Dd := ⟨282, "__init__", "Filling.__init__", s_Filling___init__⟩
def d_Filling_slack : Dd := ⟨289, "slack", "Filling.slack", s_Filling_slack⟩
def d_Filling_most_on : Dd := ⟨296, "most_on", "Filling.most_on", s_Filling_most_on⟩
def d_Filling_take : Dd := ⟨301, "take", "Filling.take", s_Filling_take⟩
def d_Filling_sent : Dd := ⟨308, "sent", "Filling.sent", s_Filling_sent⟩
def ds0 : List Dd := [d_is_whole, d_common, d_is_ratio, d_lowered, d_plus, d_minus, d_times, d_over, d_under, d_greater, d_lesser, d_sum_of, d_do_cross, d_is_parted, d_parted_in, d_all_cross, d_is_cut, d_is_within, d_is_apart, d_across, d_rooms_of, d_shown_by, d_all_cuts, d_greatest_cut]
def ds1 : List Dd := [d_other_way, d_ties_of, d_is_over, d_loads_of, d_strains_of, d_top_of, d_table_of, d_cut_above, d_fitting, d_first_broken, d_are_ways, d_sent_by, d_least_top, d_is_sending, d_lets_least, d_is_number, d_gone_by, d_are_apart, d_is_way, d_is_slide, d_moved, d_slid, d_slid_by, d_ways_apart]
def ds2 : List Dd := [d_next_slide, d_slides_for, d_rising_way, d_gain_by, d_in_order, d_half_of_greatest, d_goes_whole, d_are_rounded, d_behind_or_none, d_lets_rounding, d_whole_ways, d_rounding_of, d_near_whole, d__law_begun, d__law_take, d__law_low, d__law_amount, d__law_names, d__law_rooms, d__law_ends, d__law_ring, d__law_plus, d__law_minus, d__law_under]
def ds3 : List Dd := [d__law_ties, d__law_loads, d__law_parted, d__law_greatest, d__law_right, d_law, d_Filling___init__, d_Filling_slack, d_Filling_most_on, d_Filling_take, d_Filling_sent]
def ds : List Dd := ds0 ++ ds1 ++ ds2 ++ ds3
def al0 : List Addr := [3, 311, 310, 80, 263, 366, 282, 281, 289, 288, 296, 295, 301, 300, 308, 307, 65, 64, 72, 71, 79, 78, 87, 86, 94, 93, 101, 100, 108, 107]
def al1 : List Addr := [115, 114, 122, 121, 129, 128, 136, 135, 143, 142, 148, 147, 155, 154, 160, 159, 167, 166, 174, 173, 181, 180, 188, 187, 193, 192, 200, 199, 207, 206]
def al2 : List Addr := [212, 211, 219, 218, 226, 225, 231, 230, 238, 237, 245, 244, 250, 249, 257, 256, 262, 261, 270, 269, 322, 321, 329, 328, 334, 333, 339, 338, 346, 345]
def al3 : List Addr := [351, 350, 358, 357, 365, 364, 373, 372, 378, 377, 385, 384, 392, 391, 399, 398, 406, 405, 413, 412, 420, 419, 427, 426, 434, 433, 441, 440, 448, 447]
def al4 : List Addr := [453, 452, 460, 459, 467, 466, 474, 473, 481, 480, 488, 487, 493, 492, 500, 499, 507, 506, 514, 513, 521, 520, 528, 527, 535, 534, 540, 539, 547, 546]
def al5 : List Addr := [554, 553, 561, 560, 568, 567, 575, 574, 582, 581, 589, 588, 596, 595, 603, 602, 610, 609, 615, 614, 622, 621]
/-- the objects that the proofs lean on -/
def AL : List Addr := al0 ++ al1 ++ al2 ++ al3 ++ al4 ++ al5
/-! ### what is looked at behind the top -/
abbrev Gt := Addr → Option Obj
def ents (g : Gt) : List DictEntry := match g 3 with
  | some ⟨_, _, .dict es _, _⟩ => es.toList
  | _ => []
def keyN (e : DictEntry) : Option Str := match e.key with
  | .str x _ => some x
  | _ => none
abbrev Fv : Type := Option (Str × Str × Arguments × FuncBody × Scope × Addr × List (Str × Addr) × Value × Addr × Value)
def fnOf? (o : Option Obj) : Fv := match o with
  | some ⟨_, _, .func fd, _⟩ => some (fd.name, fd.qualname, fd.params, fd.body, fd.scope, fd.globals, fd.closure, fd.defaults, fd.builtins, fd.code)
  | _ => none
def Dd.val (d : Dd) : Fv := some (d.name, d.qual, defArgs d.st, .stmts (defBody d.st), defScope d.st, mainGlobals, [], .none, builtinsNs, .ref (d.at_ - 1))
def codeNm (o : Option Obj) (q : Str) : Bool := match o with
  | some ⟨_, _, .fields us, _⟩ => (match us.toList with
    | _ :: .str n _ :: _ => n == q
    | _ => false)
  | _ => false
def tupIs (o : Option Obj) (vs : List V) : Bool := match o with
  | some ⟨.type c, _, .seq its _, _⟩ => decide (c = "tuple") && (decide (its.size ≤ sizeLine) && decide (its.toList.map absV = vs.map some))
  | _ => false
def Kg (g : Gt) : PySem.W.Frag := AL.filterMap fun a => (g a).map fun o => (a, o)
def findB (K : PySem.W.Frag) (f : Str) (v : Option Value) : Bool := decide (PySem.W.findIn K (.ref 311) f = some v)
def clsB (K : PySem.W.Frag) : Bool :=
  (PySem.W.plainGet K 311 Str.empty && (PySem.W.hasDictIn K 311 && (PySem.W.plainOver K 311 && (PySem.W.makesIn K 311 && PySem.W.keepIn K (.ref 311))))) &&
  ((findB K "__setattr__" (some (.builtin "object.__setattr__")) && (findB K "asked" none && (findB K "free" none && findB K "left" none))) &&
   (findB K "__init__" (some (.ref 282)) && (findB K "slack" (some (.ref 289)) && (findB K "most_on" (some (.ref 296)) && (findB K "take" (some (.ref 301)) && findB K "sent" (some (.ref 308)))))))
def fnB (g : Gt) : Bool := [282, 289, 296, 301, 308].all fun a => match g a with
  | some o => decide (o.cls = .type "function")
  | none => false
abbrev Al : Type := (List (Option Str) × List (Option V)) × (List Fv × Bool)
def obsN (g : Gt) : Al := (((ents g).map keyN, ((ents g).drop 9).map fun e => absV e.val),
  (ds.map fun d => fnOf? (g d.at_), (ds.all fun d => codeNm (g (d.at_ - 1)) d.qual) && ((tupIs (g 80) [.int 0, .int 1] && (tupIs (g 263) [.int 2, .int 1] && tupIs (g 366) [.str "on", .str "back"])) && (clsB (Kg g) && fnB g))))
def valN : Al := ((ks.map some, vs.map some), (ds.map Dd.val, true))
abbrev R : PySem.W.OpenRow := PySem.W.OpenLaw.row PySem.Challenge.rw_ringloads_k39_near_whole_told
def SaysN (h : Heap) : Prop := ∃ g : Gt, (∀ a o, g a = some o → h.get? a = some o) ∧ obsN g = valN
def hk : PySem.W.Hook where
  α := Al
  obs := fun s => obsN s.heap.get?
  val := fun _ => valN
  says := fun _ h => SaysN h
  of := fun _ _ e => ⟨_, fun _ _ z => z, e⟩
  keeps := fun _ _ _ ⟨g, hg, c⟩ k => ⟨g, fun a o z => k a o (hg a o z), c⟩
def ob (s : PySem.W.SharedT) : Al := obsN (HandSHeadRun.getT s)
theorem ob_eq (s : PySem.W.SharedT) : ob s = hk.obs s.abs := by
  have e : HandSHeadRun.getT s = s.abs.heap.get? := funext fun a => HandSHeadRun.getT_eq s a
  show obsN (HandSHeadRun.getT s) = obsN s.abs.heap.get?
  rw [e]
def nm0 : List Str := ["LoadError", "NoNumber", "NoSlide", "is_whole", "common", "is_ratio", "NOUGHT", "lowered", "plus", "minus", "times", "over", "under", "greater", "lesser", "sum_of", "do_cross", "is_parted", "parted_in", "all_cross", "is_cut", "is_within", "is_apart", "across", "rooms_of", "shown_by", "all_cuts", "greatest_cut", "ON", "BACK"]
def nm1 : List Str := ["other_way", "ties_of", "is_over", "loads_of", "strains_of", "top_of", "table_of", "TWO", "cut_above", "Filling", "fitting", "first_broken", "are_ways", "sent_by", "least_top", "is_sending", "lets_least", "is_number", "BOTH", "gone_by", "are_apart", "is_way", "is_slide", "moved", "slid", "slid_by", "ways_apart", "next_slide", "slides_for", "rising_way"]
def nm2 : List Str := ["gain_by", "in_order", "half_of_greatest", "goes_whole", "are_rounded", "behind_or_none", "lets_rounding", "whole_ways", "rounding_of", "near_whole", "_law_begun", "_law_take", "_law_low", "_law_amount", "_law_names", "_law_rooms", "_law_ends", "_law_ring", "_law_plus", "_law_minus", "_law_under", "_law_ties", "_law_loads", "_law_parted", "_law_greatest", "_law_right"]
def names : List Str := nm0 ++ nm1 ++ nm2
end NwT
end NwText_
section NwHead_
set_option Elab.async false
set_option linter.all false
set_option maxRecDepth 100000
set_option maxHeartbeats 0
namespace NwT
open PySem PySem.Spec PyProof.Rows L2
theorem run (w : World) : HandSHeadRun.RunEq R (PySem.W.view R.prog [101]) hk ob 20000 names w := by
  intro os
  kernel_rfl
end NwT
end NwHead_
section NwBase_
set_option Elab.async false
set_option linter.all false
set_option maxRecDepth 100000
set_option maxHeartbeats 4000000
namespace NwB
open PySem PySem.Spec PyProof.Rows L2
open Evl (Ex)

/-! ### heaps with some addresses hidden -/
def hide (H : Hp) (O : List Addr) : Hp := fun a => if a ∈ O then none else H a
theorem hide_out {H : Hp} {O : List Addr} {a : Addr} (h : a ∉ O) : hide H O a = H a := if_neg h
theorem hide_in {H : Hp} {O : List Addr} {a : Addr} (h : a ∈ O) : hide H O a = none := if_pos h
theorem hide_some {H : Hp} {O : List Addr} {a : Addr} {o : HO} (h : hide H O a = some o) : a ∉ O ∧ H a = some o := by
  by_cases e : a ∈ O
  · rw [hide_in e] at h
    cases h
  · exact ⟨e, (hide_out (H := H) e).symm.trans h⟩
theorem hide_ex {H H' : Hp} {O : List Addr} (e : Ex H H') : Ex (hide H O) (hide H' O) := fun a o h => by
  obtain ⟨h1, h2⟩ := hide_some h
  rw [hide_out h1]
  exact e a o h2
theorem hide_le {H : Hp} {O : List Addr} : Ex (hide H O) H := fun a o h => (hide_some h).2
theorem hide_sub {H : Hp} {O O' : List Addr} (s : ∀ a ∈ O', a ∈ O) : Ex (hide H O) (hide H O') := fun a o h => by
  obtain ⟨h1, h2⟩ := hide_some h
  rw [hide_out fun z => h1 (s a z)]
  exact h2
theorem hide_upd {H : Hp} {O : List Addr} {p : Addr} {o : HO} (h : p ∈ O) : hide (upd H p o) O = hide H O := by
  funext a
  by_cases e : a ∈ O
  · rw [hide_in e, hide_in e]
  · rw [hide_out e, hide_out e, upd_ne fun z => e (by rw [z]; exact h)]
theorem hide_new {H : Hp} {O : List Addr} {p : Addr} (h : H p = none) : hide H (p :: O) = hide H O := by
  funext a
  by_cases e : a ∈ O
  · rw [hide_in e, hide_in (List.mem_cons_of_mem _ e)]
  · by_cases e2 : a = p
    · subst e2
      rw [hide_in (List.mem_cons_self ..), hide_out e, h]
    · rw [hide_out e, hide_out fun z => (List.mem_cons.mp z).elim e2 e]
theorem hide_cong {H : Hp} {O O' : List Addr} (s : ∀ a, a ∈ O ↔ a ∈ O') : hide H O = hide H O' := by
  funext a
  by_cases e : a ∈ O
  · rw [hide_in e, hide_in ((s a).mp e)]
  · rw [hide_out e, hide_out fun z => e ((s a).mpr z)]
end NwB
namespace L2
open PySem PySem.Spec PyProof.Rows
open Evl (Ex)
mutual
theorem dp_ex {K : PySem.W.Frag} {H H' : Hp} (e : Ex H H') : ∀ (d : PyData) {v : V}, Dp K H v d → Dp K H' v d
  | .none, _, h => by cases h; exact .non
  | .bool b, _, h => by cases h; exact .bl b
  | .int i, _, h => by cases h; exact .int i
  | .str x, _, h => by cases h; exact .str x
  | .list ds, _, h => by
    cases h with
    | lst h1 h2 => exact .lst (Evl.ex_l e h1) (dpall_ex e ds h2)
  | .tuple ds, _, h => by
    cases h with
    | tup h1 h2 => exact .tup (Evl.ex_t e h1) (dpall_ex e ds h2)
  | .dict _, _, h => by cases h
theorem dpall_ex {K : PySem.W.Frag} {H H' : Hp} (e : Ex H H') : ∀ (ds : List PyData) {vs : List V}, DpAll K H vs ds → DpAll K H' vs ds
  | [], _, h => by cases h; exact .nil
  | d :: ds, _, h => by
    cases h with
    | cons h1 h2 => exact .cons (dp_ex e d h1) (dpall_ex e ds h2)
end
theorem Dp.ex {K : PySem.W.Frag} {H H' : Hp} {v : V} {d : PyData} (h : Dp K H v d) (e : Ex H H') : Dp K H' v d := dp_ex e d h
theorem DpAll.ex {K : PySem.W.Frag} {H H' : Hp} {vs : List V} {ds : List PyData} (h : DpAll K H vs ds) (e : Ex H H') : DpAll K H' vs ds := dpall_ex e ds h
theorem DpAll.len {K : PySem.W.Frag} {H : Hp} : ∀ {vs : List V} {ds : List PyData}, DpAll K H vs ds → vs.length = ds.length
  | _, _, .nil => rfl
  | _, _, .cons _ t => congrArg (· + 1) (DpAll.len t)
theorem DpAll.get {K : PySem.W.Frag} {H : Hp} : ∀ {vs : List V} {ds : List PyData} {i : Nat} {d : PyData}, DpAll K H vs ds → ds[i]? = some d → ∃ v, vs[i]? = some v ∧ Dp K H v d
  | _, _, _, _, .nil, h => by simp at h
  | _, _, 0, _, .cons h _, e => by
    cases (show some _ = some _ from e)
    exact ⟨_, rfl, h⟩
  | _, _, i + 1, _, .cons _ t, e => L2.DpAll.get (i := i) t e
theorem DpAll.get' {K : PySem.W.Frag} {H : Hp} : ∀ {vs : List V} {ds : List PyData} {i : Nat} {v : V}, DpAll K H vs ds → vs[i]? = some v → ∃ d, ds[i]? = some d ∧ Dp K H v d
  | _, _, _, _, .nil, h => by simp at h
  | _, _, 0, _, .cons h _, e => by
    cases (show some _ = some _ from e)
    exact ⟨_, rfl, h⟩
  | _, _, i + 1, _, .cons _ t, e => DpAll.get' (i := i) t e
theorem DpAll.append {K : PySem.W.Frag} {H : Hp} : ∀ {vs ws : List V} {ds es : List PyData}, DpAll K H vs ds → DpAll K H ws es → DpAll K H (vs ++ ws) (ds ++ es)
  | _, _, _, _, .nil, h => h
  | _, _, _, _, .cons a t, h => .cons a (DpAll.append t h)
theorem DpAll.set {K : PySem.W.Frag} {H : Hp} {x : V} {d : PyData} (hx : Dp K H x d) : ∀ {vs : List V} {ds : List PyData} (i : Nat), DpAll K H vs ds → DpAll K H (vs.set i x) (ds.set i d)
  | _, _, _, .nil => .nil
  | _, _, 0, .cons _ t => .cons hx t
  | _, _, i + 1, .cons a t => .cons a (DpAll.set hx i t)
theorem DpAll.drop {K : PySem.W.Frag} {H : Hp} : ∀ {vs : List V} {ds : List PyData} (n : Nat), DpAll K H vs ds → DpAll K H (vs.drop n) (ds.drop n)
  | _, _, 0, h => h
  | _, _, _ + 1, .nil => .nil
  | _, _, n + 1, .cons _ t => DpAll.drop n t
theorem DpAll.take {K : PySem.W.Frag} {H : Hp} : ∀ {vs : List V} {ds : List PyData} (n : Nat), DpAll K H vs ds → DpAll K H (vs.take n) (ds.take n)
  | _, _, 0, _ => .nil
  | _, _, _ + 1, .nil => .nil
  | _, _, n + 1, .cons a t => .cons a (DpAll.take n t)
theorem DpAll.replicate {K : PySem.W.Frag} {H : Hp} {x : V} {d : PyData} (h : Dp K H x d) : ∀ n : Nat, DpAll K H (List.replicate n x) (List.replicate n d)
  | 0 => .nil
  | n + 1 => .cons h (DpAll.replicate h n)
end L2
namespace NwB
open PySem PySem.Spec PyProof.Rows L2
open Evl (Ex)
theorem dp_int {K : PySem.W.Frag} {H : Hp} {v : V} {i : Int} (h : Dp K H v (.int i)) : v = .int i := by cases h; rfl
theorem dp_bl {K : PySem.W.Frag} {H : Hp} {v : V} {i : Bool} (h : Dp K H v (.bool i)) : v = .bl i := by cases h; rfl
theorem dp_str {K : PySem.W.Frag} {H : Hp} {v : V} {i : Str} (h : Dp K H v (.str i)) : v = .str i := by cases h; rfl
theorem dp_non {K : PySem.W.Frag} {H : Hp} {v : V} (h : Dp K H v .none) : v = .non := by cases h; rfl
theorem dp_tup {K : PySem.W.Frag} {H : Hp} {v : V} {ds : List PyData} (h : Dp K H v (.tuple ds)) : ∃ a vs, v = .ref a ∧ SqT K H a vs ∧ DpAll K H vs ds := by
  cases h with
  | tup h1 h2 => exact ⟨_, _, rfl, h1, h2⟩
theorem dp_lst {K : PySem.W.Frag} {H : Hp} {v : V} {ds : List PyData} (h : Dp K H v (.list ds)) : ∃ a vs, v = .ref a ∧ SqL K H a vs ∧ DpAll K H vs ds := by
  cases h with
  | lst h1 h2 => exact ⟨_, _, rfl, h1, h2⟩

/-! ### what the slots hold -/
/-- nothing known; a datum; just this; a list of one's own, which no other thing holds (and where it lies, if told) -/
inductive Sl where
  | un
  | dat (d : PyData)
  | is (v : V)
  | ownP (q : Option Addr) (ds : List PyData)
abbrev Sl.own (ds : List PyData) : Sl := .ownP none ds
def ownAt : Option V → Sl → List Addr
  | some (.ref p), .ownP _ _ => [p]
  | _, _ => []
def ows : L2.St → List Sl → List Addr
  | x :: σ, s :: Γ => ownAt x s ++ ows σ Γ
  | _, _ => []
theorem ownAt_un {x : Option V} : ownAt x .un = [] := by
  cases x with
  | none => rfl
  | some v => cases v <;> rfl
theorem ownAt_dat {x : Option V} {d : PyData} : ownAt x (.dat d) = [] := by
  cases x with
  | none => rfl
  | some v => cases v <;> rfl
theorem ownAt_is {x : Option V} {u : V} : ownAt x (.is u) = [] := by
  cases x with
  | none => rfl
  | some v => cases v <;> rfl
inductive EnvL (K : PySem.W.Frag) (H : Hp) (O : List Addr) : L2.St → List Sl → Prop
  | nil : EnvL K H O [] []
  | un {x : Option V} {σ : L2.St} {Γ : List Sl} : EnvL K H O σ Γ → EnvL K H O (x :: σ) (.un :: Γ)
  | dat {v : V} {d : PyData} {σ : L2.St} {Γ : List Sl} : Dp K (hide H O) v d → EnvL K H O σ Γ → EnvL K H O (some v :: σ) (.dat d :: Γ)
  | is {v : V} {σ : L2.St} {Γ : List Sl} : EnvL K H O σ Γ → EnvL K H O (some v :: σ) (.is v :: Γ)
  | own {p : Addr} {q : Option Addr} {vs : List V} {ds : List PyData} {σ : L2.St} {Γ : List Sl} : (∀ a, q = some a → a = p) → H p = some (.lst vs) → DpAll K (hide H O) vs ds → p ∉ ows σ Γ → EnvL K H O σ Γ → EnvL K H O (some (.ref p) :: σ) (.ownP q ds :: Γ)
theorem ows_own {p : Addr} {q : Option Addr} {ds : List PyData} {σ : L2.St} {Γ : List Sl} : ows (some (.ref p) :: σ) (.ownP q ds :: Γ) = p :: ows σ Γ := rfl
theorem ows_is {x : Option V} {u : V} {σ : L2.St} {Γ : List Sl} : ows (x :: σ) (.is u :: Γ) = ows σ Γ := by
  show ownAt x (.is u) ++ ows σ Γ = ows σ Γ
  rw [ownAt_is]
  rfl
theorem ows_un {x : Option V} {σ : L2.St} {Γ : List Sl} : ows (x :: σ) (.un :: Γ) = ows σ Γ := by
  show ownAt x .un ++ ows σ Γ = ows σ Γ
  rw [ownAt_un]
  rfl
theorem ows_dat {x : Option V} {d : PyData} {σ : L2.St} {Γ : List Sl} : ows (x :: σ) (.dat d :: Γ) = ows σ Γ := by
  show ownAt x (.dat d) ++ ows σ Γ = ows σ Γ
  rw [ownAt_dat]
  rfl
/-- what else is known of the heap while a body runs: it leans on some addresses that stay, and on what is not hidden -/
structure Ji where
  foot : List Addr
  val : List Addr → Hp → Prop
  ex : ∀ {W : List Addr} {H H' : Hp}, Ex H H' → val W H → val W H'
  sub : ∀ {W W' : List Addr} {H : Hp}, (∀ a ∈ W', a ∈ W) → (∀ a ∈ foot, a ∈ W') → val W H → val W' H
  new : ∀ {W : List Addr} {H : Hp} {p : Addr}, H p = none → val W H → val (p :: W) H
  chg : ∀ {W : List Addr} {H : Hp} {p : Addr} {ws : List V}, p ∈ W → p ∉ foot → val W H → val W (upd H p (.lst ws))
def J0 : Ji := ⟨[], fun _ _ => True, fun _ _ => trivial, fun _ _ _ => trivial, fun _ _ => trivial, fun _ _ _ => trivial⟩
structure Env (J : Ji) (K : PySem.W.Frag) (O : List Addr) (H : Hp) (σ : L2.St) (Γ : List Sl) : Prop where
  sl : EnvL K H (ows σ Γ ++ O) σ Γ
  dis : ∀ p ∈ ows σ Γ, p ∉ O
  all : ∀ p ∈ O, H p ≠ none
  foot : ∀ a ∈ J.foot, a ∈ O
  inv : J.val (ows σ Γ ++ O) H
section
variable {J : Ji} {K : PySem.W.Frag} {H H' : Hp} {O O' : List Addr} {σ : L2.St} {Γ : List Sl}
theorem EnvL.mono (e : Ex H H') : EnvL K H O σ Γ → EnvL K H' O σ Γ := by
  intro h
  induction h with
  | nil => exact .nil
  | un _ ih => exact .un ih
  | dat h _ ih => exact .dat (Dp.ex h (hide_ex e)) ih
  | is _ ih => exact .is ih
  | own h0 h1 h2 h3 _ ih => exact .own h0 (e _ _ h1) (DpAll.ex h2 (hide_ex e)) h3 ih
theorem EnvL.sub (s : ∀ a ∈ O', a ∈ O) : EnvL K H O σ Γ → EnvL K H O' σ Γ := by
  intro h
  induction h with
  | nil => exact .nil
  | un _ ih => exact .un ih
  | dat h _ ih => exact .dat (Dp.ex h (hide_sub s)) ih
  | is _ ih => exact .is ih
  | own h0 h1 h2 h3 _ ih => exact .own h0 h1 (DpAll.ex h2 (hide_sub s)) h3 ih
theorem EnvL.owned (h : EnvL K H O σ Γ) : ∀ p ∈ ows σ Γ, ∃ vs, H p = some (.lst vs) := by
  induction h with
  | nil => intro p hp; simp [ows] at hp
  | un _ ih => rw [ows_un]; exact ih
  | dat _ _ ih => rw [ows_dat]; exact ih
  | is _ ih => rw [ows_is]; exact ih
  | own _ h1 _ _ _ ih =>
    rw [ows_own]
    intro p hp
    rcases List.mem_cons.mp hp with rfl | hp
    · exact ⟨_, h1⟩
    · exact ih p hp
theorem Env.mono (h : Env J K O H σ Γ) (e : Ex H H') : Env J K O H' σ Γ := ⟨h.sl.mono e, h.dis, fun p hp z => (by
  cases q : H p with
  | none => exact h.all p hp q
  | some o =>
    rw [e p o q] at z
    cases z), h.foot, J.ex e h.inv⟩
theorem Env.there (h : Env J K O H σ Γ) : ∀ p ∈ ows σ Γ ++ O, H p ≠ none := fun p hp => by
  rcases List.mem_append.mp hp with hp | hp
  · obtain ⟨vs, e⟩ := h.sl.owned p hp
    rw [e]
    simp
  · exact h.all p hp
theorem EnvL.get (h : EnvL K H O σ Γ) : ∀ {i : Nat} {d : PyData}, Γ[i]? = some (.dat d) → ∃ v, σ[i]? = some (some v) ∧ Dp K (hide H O) v d := by
  induction h with
  | nil => intro i d e; simp at e
  | un _ ih =>
    intro i d e
    cases i with
    | zero => cases (show some Sl.un = some _ from e)
    | succ i => exact ih (i := i) e
  | dat h _ ih =>
    intro i d e
    cases i with
    | zero =>
      cases (show some (Sl.dat _) = some _ from e)
      exact ⟨_, rfl, h⟩
    | succ i => exact ih (i := i) e
  | is _ ih =>
    intro i d e
    cases i with
    | zero => cases (show some (Sl.is _) = some _ from e)
    | succ i => exact ih (i := i) e
  | own _ _ _ _ _ ih =>
    intro i d e
    cases i with
    | zero => cases (show some (Sl.ownP _ _) = some _ from e)
    | succ i => exact ih (i := i) e
theorem EnvL.getI (h : EnvL K H O σ Γ) : ∀ {i : Nat} {v : V}, Γ[i]? = some (.is v) → σ[i]? = some (some v) := by
  induction h with
  | nil => intro i d e; simp at e
  | un _ ih =>
    intro i d e
    cases i with
    | zero => cases (show some Sl.un = some _ from e)
    | succ i => exact ih (i := i) e
  | dat h _ ih =>
    intro i d e
    cases i with
    | zero => cases (show some (Sl.dat _) = some _ from e)
    | succ i => exact ih (i := i) e
  | is _ ih =>
    intro i d e
    cases i with
    | zero =>
      cases (show some (Sl.is _) = some _ from e)
      rfl
    | succ i => exact ih (i := i) e
  | own _ _ _ _ _ ih =>
    intro i d e
    cases i with
    | zero => cases (show some (Sl.ownP _ _) = some _ from e)
    | succ i => exact ih (i := i) e
theorem EnvL.getO' (h : EnvL K H O σ Γ) : ∀ {i : Nat} {q : Option Addr} {ds : List PyData}, Γ[i]? = some (.ownP q ds) → ∃ p vs, σ[i]? = some (some (.ref p)) ∧ H p = some (.lst vs) ∧ DpAll K (hide H O) vs ds ∧ p ∈ ows σ Γ ∧ ∀ a, q = some a → a = p := by
  induction h with
  | nil => intro i q d e; simp at e
  | un _ ih =>
    intro i q d e
    cases i with
    | zero => cases (show some Sl.un = some _ from e)
    | succ i => rw [ows_un]; exact ih (i := i) e
  | dat h _ ih =>
    intro i q d e
    cases i with
    | zero => cases (show some (Sl.dat _) = some _ from e)
    | succ i => rw [ows_dat]; exact ih (i := i) e
  | is _ ih =>
    intro i q d e
    cases i with
    | zero => cases (show some (Sl.is _) = some _ from e)
    | succ i => rw [ows_is]; exact ih (i := i) e
  | own h0 h1 h2 _ _ ih =>
    intro i q d e
    rw [ows_own]
    cases i with
    | zero =>
      cases (show some (Sl.ownP _ _) = some _ from e)
      exact ⟨_, _, rfl, h1, h2, List.mem_cons_self .., h0⟩
    | succ i =>
      obtain ⟨p, vs, a, b, c, m, n⟩ := ih (i := i) e
      exact ⟨p, vs, a, b, c, List.mem_cons_of_mem _ m, n⟩
theorem EnvL.getO (h : EnvL K H O σ Γ) {i : Nat} {q : Option Addr} {ds : List PyData} (e : Γ[i]? = some (.ownP q ds)) : ∃ p vs, σ[i]? = some (some (.ref p)) ∧ H p = some (.lst vs) ∧ DpAll K (hide H O) vs ds ∧ p ∈ ows σ Γ := by
  obtain ⟨p, vs, a, b, c, m, _⟩ := h.getO' e
  exact ⟨p, vs, a, b, c, m⟩
theorem EnvL.len (h : EnvL K H O σ Γ) : σ.length = Γ.length := by
  induction h with
  | nil => rfl
  | un _ ih => exact congrArg (· + 1) ih
  | dat _ _ ih => exact congrArg (· + 1) ih
  | is _ ih => exact congrArg (· + 1) ih
  | own _ _ _ _ _ ih => exact congrArg (· + 1) ih
/-- a slot gets a datum -/
theorem EnvL.setD {v : V} {d : PyData} (hv : Dp K (hide H O) v d) (h : EnvL K H O σ Γ) : ∀ i : Nat, EnvL K H O (σ.set i (some v)) (Γ.set i (.dat d)) ∧ ∀ p ∈ ows (σ.set i (some v)) (Γ.set i (.dat d)), p ∈ ows σ Γ := by
  induction h with
  | nil => exact fun i => ⟨.nil, fun p hp => hp⟩
  | @un x σ Γ h ih =>
    intro i
    cases i with
    | zero =>
      refine ⟨.dat hv h, fun p hp => ?_⟩
      have hp : p ∈ ows (some v :: σ) (.dat d :: Γ) := hp
      rw [ows_dat] at hp
      rw [ows_un]
      exact hp
    | succ i =>
      obtain ⟨a, b⟩ := ih i
      refine ⟨.un a, fun p hp => ?_⟩
      have hp : p ∈ ows (x :: σ.set i (some v)) (.un :: Γ.set i (.dat d)) := hp
      rw [ows_un] at hp ⊢
      exact b p hp
  | @dat x dx σ Γ hx h ih =>
    intro i
    cases i with
    | zero =>
      refine ⟨.dat hv h, fun p hp => ?_⟩
      have hp : p ∈ ows (some v :: σ) (.dat d :: Γ) := hp
      rw [ows_dat] at hp ⊢
      exact hp
    | succ i =>
      obtain ⟨a, b⟩ := ih i
      refine ⟨.dat hx a, fun p hp => ?_⟩
      have hp : p ∈ ows (some x :: σ.set i (some v)) (.dat dx :: Γ.set i (.dat d)) := hp
      rw [ows_dat] at hp ⊢
      exact b p hp
  | @is x σ Γ h ih =>
    intro i
    cases i with
    | zero =>
      refine ⟨.dat hv h, fun p hp => ?_⟩
      have hp : p ∈ ows (some v :: σ) (.dat d :: Γ) := hp
      rw [ows_dat] at hp
      rw [ows_is]
      exact hp
    | succ i =>
      obtain ⟨a, b⟩ := ih i
      refine ⟨.is a, fun p hp => ?_⟩
      have hp : p ∈ ows (some x :: σ.set i (some v)) (.is x :: Γ.set i (.dat d)) := hp
      rw [ows_is] at hp ⊢
      exact b p hp
  | @own q qq vs ds σ Γ h0 h1 h2 h3 h ih =>
    intro i
    cases i with
    | zero =>
      refine ⟨.dat hv h, fun p hp => ?_⟩
      have hp : p ∈ ows (some v :: σ) (.dat d :: Γ) := hp
      rw [ows_dat] at hp
      rw [ows_own]
      exact List.mem_cons_of_mem _ hp
    | succ i =>
      obtain ⟨a, b⟩ := ih i
      refine ⟨.own h0 h1 h2 (fun z => h3 (b q z)) a, fun p hp => ?_⟩
      have hp : p ∈ ows (some (.ref q) :: σ.set i (some v)) (.ownP qq ds :: Γ.set i (.dat d)) := hp
      rw [ows_own] at hp ⊢
      rcases List.mem_cons.mp hp with rfl | hp
      · exact List.mem_cons_self ..
      · exact List.mem_cons_of_mem _ (b p hp)
/-- a slot gets a new list -/
theorem EnvL.setO {p : Addr} {vs : List V} {ds : List PyData} (hp : H p = some (.lst vs)) (hd : DpAll K (hide H O) vs ds) (h : EnvL K H O σ Γ) : ∀ i : Nat, p ∉ ows σ Γ → EnvL K H O (σ.set i (some (.ref p))) (Γ.set i (.own ds)) ∧ ∀ q ∈ ows (σ.set i (some (.ref p))) (Γ.set i (.own ds)), q = p ∨ q ∈ ows σ Γ := by
  induction h with
  | nil => exact fun i _ => ⟨.nil, fun q hq => .inr hq⟩
  | @un x σ Γ h ih =>
    intro i np
    rw [ows_un] at np ⊢
    cases i with
    | zero =>
      refine ⟨.own (fun _ z => nomatch z) hp hd np h, fun q hq => ?_⟩
      have hq : q ∈ ows (some (.ref p) :: σ) (.own ds :: Γ) := hq
      rw [ows_own] at hq
      exact List.mem_cons.mp hq
    | succ i =>
      obtain ⟨a, b⟩ := ih i np
      refine ⟨.un a, fun q hq => ?_⟩
      have hq : q ∈ ows (x :: σ.set i (some (.ref p))) (.un :: Γ.set i (.own ds)) := hq
      rw [ows_un] at hq
      exact b q hq
  | @dat x dx σ Γ hx h ih =>
    intro i np
    rw [ows_dat] at np ⊢
    cases i with
    | zero =>
      refine ⟨.own (fun _ z => nomatch z) hp hd np h, fun q hq => ?_⟩
      have hq : q ∈ ows (some (.ref p) :: σ) (.own ds :: Γ) := hq
      rw [ows_own] at hq
      exact List.mem_cons.mp hq
    | succ i =>
      obtain ⟨a, b⟩ := ih i np
      refine ⟨.dat hx a, fun q hq => ?_⟩
      have hq : q ∈ ows (some x :: σ.set i (some (.ref p))) (.dat dx :: Γ.set i (.own ds)) := hq
      rw [ows_dat] at hq
      exact b q hq
  | @is x σ Γ h ih =>
    intro i np
    rw [ows_is] at np ⊢
    cases i with
    | zero =>
      refine ⟨.own (fun _ z => nomatch z) hp hd np h, fun q hq => ?_⟩
      have hq : q ∈ ows (some (.ref p) :: σ) (.own ds :: Γ) := hq
      rw [ows_own] at hq
      exact List.mem_cons.mp hq
    | succ i =>
      obtain ⟨a, b⟩ := ih i np
      refine ⟨.is a, fun q hq => ?_⟩
      have hq : q ∈ ows (some x :: σ.set i (some (.ref p))) (.is x :: Γ.set i (.own ds)) := hq
      rw [ows_is] at hq
      exact b q hq
  | @own r rq ws es σ Γ h0 h1 h2 h3 h ih =>
    intro i np
    rw [ows_own] at np ⊢
    have np1 : p ≠ r := fun z => np (by rw [z]; exact List.mem_cons_self ..)
    have np2 : p ∉ ows σ Γ := fun z => np (List.mem_cons_of_mem _ z)
    cases i with
    | zero =>
      refine ⟨.own (fun _ z => nomatch z) hp hd np2 h, fun q hq => ?_⟩
      have hq : q ∈ ows (some (.ref p) :: σ) (.own ds :: Γ) := hq
      rw [ows_own] at hq
      rcases List.mem_cons.mp hq with rfl | hq
      · exact .inl rfl
      · exact .inr (List.mem_cons_of_mem _ hq)
    | succ i =>
      obtain ⟨a, b⟩ := ih i np2
      refine ⟨.own h0 h1 h2 (fun z => (b r z).elim (fun y => np1 y.symm) h3) a, fun q hq => ?_⟩
      have hq : q ∈ ows (some (.ref r) :: σ.set i (some (.ref p))) (.ownP rq es :: Γ.set i (.own ds)) := hq
      rw [ows_own] at hq
      rcases List.mem_cons.mp hq with rfl | hq
      · exact .inr (List.mem_cons_self ..)
      · exact (b q hq).elim .inl fun z => .inr (List.mem_cons_of_mem _ z)
/-- the list in a slot is changed -/
theorem EnvL.chg {p : Addr} {ws : List V} {es : List PyData} (hd : DpAll K (hide H O) ws es) (hO : p ∈ O) (h : EnvL K H O σ Γ) : p ∉ ows σ Γ → EnvL K (upd H p (.lst ws)) O σ Γ := by
  induction h with
  | nil => exact fun _ => .nil
  | un _ ih => rw [ows_un]; exact fun n => .un (ih n)
  | dat h _ ih => rw [ows_dat]; exact fun n => .dat (by rw [hide_upd hO]; exact h) (ih n)
  | is _ ih => rw [ows_is]; exact fun n => .is (ih n)
  | own h0 h1 h2 h3 _ ih =>
    rw [ows_own]
    exact fun n => .own h0 (by rw [upd_ne fun z => n (by rw [← z]; exact List.mem_cons_self ..)]; exact h1) (by rw [hide_upd hO]; exact h2) h3 (ih fun z => n (List.mem_cons_of_mem _ z))
theorem EnvL.put {ws : List V} {es : List PyData} (hd : DpAll K (hide H O) ws es) (h : EnvL K H O σ Γ) : ∀ {i : Nat} {p : Addr} {q : Option Addr} {ds : List PyData}, p ∈ O → Γ[i]? = some (.ownP q ds) → σ[i]? = some (some (.ref p)) → EnvL K (upd H p (.lst ws)) O σ (Γ.set i (.ownP q es)) ∧ ows σ (Γ.set i (.ownP q es)) = ows σ Γ := by
  induction h with
  | nil => intro i p q ds _ e; simp at e
  | @un x σ Γ h ih =>
    intro i p q ds hO e1 e2
    cases i with
    | zero => cases (show some Sl.un = some _ from e1)
    | succ i =>
      obtain ⟨a, b⟩ := ih (i := i) hO e1 e2
      exact ⟨.un a, by show ows (x :: σ) (.un :: Γ.set i (.ownP q es)) = _; rw [ows_un, ows_un, b]⟩
  | @is x σ Γ h ih =>
    intro i p q ds hO e1 e2
    cases i with
    | zero => cases (show some (Sl.is _) = some _ from e1)
    | succ i =>
      obtain ⟨a, b⟩ := ih (i := i) hO e1 e2
      exact ⟨.is a, by show ows (some x :: σ) (.is x :: Γ.set i (.ownP q es)) = _; rw [ows_is, ows_is, b]⟩
  | @dat x dx σ Γ hx h ih =>
    intro i p q ds hO e1 e2
    cases i with
    | zero => cases (show some (Sl.dat _) = some _ from e1)
    | succ i =>
      obtain ⟨a, b⟩ := ih (i := i) hO e1 e2
      exact ⟨.dat (by rw [hide_upd hO]; exact hx) a, by show ows (some x :: σ) (.dat dx :: Γ.set i (.ownP q es)) = _; rw [ows_dat, ows_dat, b]⟩
  | @own r rq vs ds' σ Γ h0 h1 h2 h3 h ih =>
    intro i p q ds hO e1 e2
    cases i with
    | zero =>
      cases (show some (some (V.ref r)) = some _ from e2)
      cases (show some (Sl.ownP rq ds') = some _ from e1)
      exact ⟨.own h0 upd_same (by rw [hide_upd hO]; exact hd) h3 (h.chg hd hO h3), rfl⟩
    | succ i =>
      obtain ⟨a, b⟩ := ih (i := i) hO e1 e2
      have hne : r ≠ p := fun z => by
        obtain ⟨p', _, e3, _, _, m⟩ := h.getO (i := i) e1
        rw [show σ[i]? = some (some (V.ref p)) from e2] at e3
        cases e3
        exact h3 (by rw [z]; exact m)
      refine ⟨.own h0 (by rw [upd_ne hne]; exact h1) (by rw [hide_upd hO]; exact h2) (by rw [b]; exact h3) a, ?_⟩
      show ows (some (.ref r) :: σ) (.ownP rq ds' :: Γ.set i (.ownP q es)) = _
      rw [ows_own, ows_own, b]
/-- less is known -/
inductive Le : List Sl → List Sl → Prop
  | nil : Le [] []
  | same {s : Sl} {Γ Γ' : List Sl} : Le Γ Γ' → Le (s :: Γ) (s :: Γ')
  | un {s : Sl} {Γ Γ' : List Sl} : Le Γ Γ' → Le (s :: Γ) (.un :: Γ')
theorem Le.refl : ∀ Γ : List Sl, Le Γ Γ
  | [] => .nil
  | _ :: Γ => .same (Le.refl Γ)
theorem EnvL.le {Γ' : List Sl} (l : Le Γ Γ') : ∀ {σ : L2.St}, EnvL K H O σ Γ → EnvL K H O σ Γ' ∧ ∀ p ∈ ows σ Γ', p ∈ ows σ Γ := by
  induction l with
  | nil => exact fun h => ⟨h, fun _ z => z⟩
  | same _ ih =>
    intro σ h
    cases h with
    | un h =>
      obtain ⟨a, b⟩ := ih h
      exact ⟨.un a, by rw [ows_un, ows_un]; exact b⟩
    | dat hx h =>
      obtain ⟨a, b⟩ := ih h
      exact ⟨.dat hx a, by rw [ows_dat, ows_dat]; exact b⟩
    | is h =>
      obtain ⟨a, b⟩ := ih h
      exact ⟨.is a, by rw [ows_is, ows_is]; exact b⟩
    | own h0 h1 h2 h3 h =>
      obtain ⟨a, b⟩ := ih h
      exact ⟨.own h0 h1 h2 (fun z => h3 (b _ z)) a, fun p hp => (List.mem_cons.mp hp).elim (fun z => by rw [z]; exact List.mem_cons_self ..) fun z => List.mem_cons_of_mem _ (b p z)⟩
  | un _ ih =>
    intro σ h
    cases h with
    | un h =>
      obtain ⟨a, b⟩ := ih h
      exact ⟨.un a, by rw [ows_un, ows_un]; exact b⟩
    | dat hx h =>
      obtain ⟨a, b⟩ := ih h
      exact ⟨.un a, by rw [ows_un, ows_dat]; exact b⟩
    | is h =>
      obtain ⟨a, b⟩ := ih h
      exact ⟨.un a, by rw [ows_un, ows_is]; exact b⟩
    | own h0 h1 h2 h3 h =>
      obtain ⟨a, b⟩ := ih h
      exact ⟨.un a, by rw [ows_un, ows_own]; exact fun p hp => List.mem_cons_of_mem _ (b p hp)⟩
theorem mem_app {A B : List Addr} (h : ∀ p ∈ A, p ∈ B) : ∀ p ∈ A ++ O, p ∈ B ++ O := fun p hp => (List.mem_append.mp hp).elim (fun z => List.mem_append_left _ (h p z)) fun z => List.mem_append_right _ z
theorem Env.le {Γ' : List Sl} (h : Env J K O H σ Γ) (l : Le Γ Γ') : Env J K O H σ Γ' ∧ ∀ p ∈ ows σ Γ', p ∈ ows σ Γ := by
  obtain ⟨a, b⟩ := EnvL.le l h.sl
  exact ⟨⟨a.sub (mem_app b), fun p hp => h.dis p (b p hp), h.all, h.foot, J.sub (mem_app b) (fun a ha => List.mem_append_right _ (h.foot a ha)) h.inv⟩, b⟩
theorem Env.setD {v : V} {d : PyData} (h : Env J K O H σ Γ) (hv : Dp K (hide H (ows σ Γ ++ O)) v d) (i : Nat) : Env J K O H (σ.set i (some v)) (Γ.set i (.dat d)) ∧ ∀ p ∈ ows (σ.set i (some v)) (Γ.set i (.dat d)), p ∈ ows σ Γ := by
  obtain ⟨a, b⟩ := h.sl.setD hv i
  exact ⟨⟨a.sub (mem_app b), fun p hp => h.dis p (b p hp), h.all, h.foot, J.sub (mem_app b) (fun a ha => List.mem_append_right _ (h.foot a ha)) h.inv⟩, b⟩
theorem EnvL.hidden {p : Addr} (hp : H p = none) (h : EnvL K H O σ Γ) : EnvL K H (p :: O) σ Γ := by
  induction h with
  | nil => exact .nil
  | un _ ih => exact .un ih
  | dat hx _ ih => exact .dat (by rw [hide_new hp]; exact hx) ih
  | is _ ih => exact .is ih
  | own z a b c _ ih => exact .own z a (by rw [hide_new hp]; exact b) c ih
theorem Env.setO {p : Addr} {vs : List V} {ds : List PyData} (h : Env J K O H σ Γ) (e : Ex H H') (hp : H p = none) (h2 : H' p = some (.lst vs)) (hd : DpAll K (hide H' (p :: (ows σ Γ ++ O))) vs ds) (i : Nat) :
    Env J K O H' (σ.set i (some (.ref p))) (Γ.set i (.own ds)) ∧ ∀ q ∈ ows (σ.set i (some (.ref p))) (Γ.set i (.own ds)), q = p ∨ q ∈ ows σ Γ := by
  have np : p ∉ ows σ Γ ++ O := fun z => h.there p z hp
  have h1 : EnvL K H' (p :: (ows σ Γ ++ O)) σ Γ := (h.sl.hidden hp).mono e
  obtain ⟨a, b⟩ := h1.setO h2 hd i fun z => np (List.mem_append_left _ z)
  have key : ∀ q ∈ ows (σ.set i (some (.ref p))) (Γ.set i (.own ds)) ++ O, q ∈ p :: (ows σ Γ ++ O) := fun q hq => by
    rcases List.mem_append.mp hq with hq | hq
    · rcases b q hq with rfl | hq
      · exact List.mem_cons_self ..
      · exact List.mem_cons_of_mem _ (List.mem_append_left _ hq)
    · exact List.mem_cons_of_mem _ (List.mem_append_right _ hq)
  refine ⟨⟨a.sub key, fun q hq => ?_, (h.mono e).all, h.foot, J.sub key (fun a ha => List.mem_append_right _ (h.foot a ha)) (J.ex e (J.new hp h.inv))⟩, b⟩
  · rcases b q hq with rfl | hq
    · exact fun z => np (List.mem_append_right _ z)
    · exact h.dis q hq
theorem Env.put {ws : List V} {q : Option Addr} {ds es : List PyData} {i : Nat} {p : Addr} (h : Env J K O H σ Γ) (hd : DpAll K (hide H (ows σ Γ ++ O)) ws es) (e1 : Γ[i]? = some (.ownP q ds)) (e2 : σ[i]? = some (some (.ref p))) :
    Env J K O (upd H p (.lst ws)) σ (Γ.set i (.ownP q es)) ∧ ows σ (Γ.set i (.ownP q es)) = ows σ Γ := by
  obtain ⟨p', vs, e3, _, _, m⟩ := h.sl.getO e1
  rw [e2] at e3
  cases e3
  obtain ⟨a, b⟩ := h.sl.put hd (i := i) (p := p) (ds := ds) (List.mem_append_left _ m) e1 e2
  refine ⟨⟨by rw [b]; exact a, by rw [b]; exact h.dis, fun q hq => ?_, h.foot, by rw [b]; exact J.chg (List.mem_append_left _ m) (fun z => h.dis p m (h.foot p z)) h.inv⟩, b⟩
  by_cases z : q = p
  · rw [z, upd_same]
    simp
  · rw [upd_ne z]
    exact h.all q hq
end
end NwB
end NwBase_
section NwEv_
set_option Elab.async false
set_option linter.all false
set_option maxRecDepth 100000
set_option maxHeartbeats 4000000
namespace NwB
open PySem PySem.Spec PyProof.Rows L2
open Evl (Ex)

/-! ### what an expression comes to -/
/-- a datum; a new list -/
structure Post where
  val : Hp → Hp → List Addr → V → Prop
  back : ∀ {H H1 H2 : Hp} {O : List Addr} {v : V}, Ex H H1 → val H1 H2 O v → val H H2 O v
  sub : ∀ {H H2 : Hp} {O O' : List Addr} {v : V}, (∀ a ∈ O', a ∈ O) → val H H2 O v → val H H2 O' v
inductive Rs where
  | dat (d : PyData)
  | own (ds : List PyData)
  | raw (p : Post)
def RD (K : PySem.W.Frag) (H H2 : Hp) (O : List Addr) (v : V) : Rs → Prop
  | .raw p => p.val H H2 O v
  | .dat d => Dp K (hide H2 O) v d
  | .own ds => ∃ p vs, v = .ref p ∧ H p = none ∧ H2 p = some (.lst vs) ∧ DpAll K (hide H2 (p :: O)) vs ds
/-- from slots that are known as Γ says the reading te comes to r -/
def EG (J : Ji) (K : PySem.W.Frag) (Γ : List Sl) (te : TE) (r : Rs) : Prop := ∀ (O : List Addr) (σ : L2.St) (H : Hp), Env J K O H σ Γ → ∀ Q : VK, (∀ v H2, Ex H H2 → RD K H H2 (ows σ Γ ++ O) v r → Q v H2) → te σ H Q
def EB (J : Ji) (K : PySem.W.Frag) (Γ : List Sl) (tt : TT) (b : Bool) : Prop := ∀ (O : List Addr) (σ : L2.St) (H : Hp), Env J K O H σ Γ → ∀ Q : Bool → Hp → Prop, (∀ H2, Ex H H2 → Q b H2) → tt σ H Q
def EA (J : Ji) (K : PySem.W.Frag) (Γ : List Sl) (ta : TA) (ds : List PyData) : Prop := ∀ (O : List Addr) (σ : L2.St) (H : Hp), Env J K O H σ Γ → ∀ Q : List V → Hp → Prop, (∀ vs H2, Ex H H2 → DpAll K (hide H2 (ows σ Γ ++ O)) vs ds → Q vs H2) → ta σ H Q
/-- a list that is read: a datum, or one of a slot's own -/
def EL (J : Ji) (K : PySem.W.Frag) (Γ : List Sl) (te : TE) (ds : List PyData) : Prop := ∀ (O : List Addr) (σ : L2.St) (H : Hp), Env J K O H σ Γ → ∀ Q : VK, (∀ p vs H2, Ex H H2 → SqL K H2 p vs → DpAll K (hide H2 (ows σ Γ ++ O)) vs ds → Q (.ref p) H2) → te σ H Q
abbrev ED (J : Ji) (K : PySem.W.Frag) (Γ : List Sl) (te : TE) (d : PyData) : Prop := EG J K Γ te (.dat d)
section
variable {J : Ji} {K : PySem.W.Frag} {Γ : List Sl} {te ta tb tc : TE} {tA : TA}
theorem ed_of_own {ds : List PyData} (h : EG J K Γ te (.own ds)) : ED J K Γ te (.list ds) := fun O σ H e Q q => h O σ H e Q fun v H2 x r => by
  obtain ⟨p, vs, rfl, h1, h2, h3⟩ := r
  refine q _ H2 x ?_
  have np : p ∉ ows σ Γ ++ O := fun z => e.there p z h1
  refine Dp.lst (SqL.of (by rw [hide_out np]; exact h2)) (DpAll.ex h3 (hide_sub fun a ha => List.mem_cons_of_mem _ ha))
theorem el_dat {ds : List PyData} (h : ED J K Γ te (.list ds)) : EL J K Γ te ds := fun O σ H e Q q => h O σ H e Q fun v H2 x r => by
  obtain ⟨a, vs, rfl, h1, h2⟩ := dp_lst r
  exact q a vs H2 x (Evl.ex_l hide_le h1) h2
theorem el_own {i : Nat} {w : Option Addr} {ds : List PyData} (h : Γ[i]? = some (.ownP w ds)) : EL J K Γ (tVar i) ds := fun O σ H e Q q => by
  obtain ⟨p, vs, e1, e2, e3, _⟩ := e.sl.getO h
  exact ⟨_, e1, q p vs H (Evl.Ex.refl H) (SqL.of e2) e3⟩
theorem ed_var {i : Nat} {d : PyData} (h : Γ[i]? = some (.dat d)) : ED J K Γ (tVar i) d := fun O σ H e Q q => by
  obtain ⟨v, e1, e2⟩ := e.sl.get h
  exact ⟨v, e1, q v H (Evl.Ex.refl H) e2⟩
theorem ed_const {v : V} {d : PyData} (h : ∀ H, Dp K H v d) : ED J K Γ (tC v) d := fun O σ H e Q q => q v H (Evl.Ex.refl H) (h _)
theorem ed_int {i : Int} : ED J K Γ (tC (.int i)) (.int i) := ed_const fun _ => .int i
theorem ed_str {i : Str} : ED J K Γ (tC (.str i)) (.str i) := ed_const fun _ => .str i
theorem ed_bl {i : Bool} : ED J K Γ (tC (.bl i)) (.bool i) := ed_const fun _ => .bl i
theorem ed_non : ED J K Γ (tC .non) .none := ed_const fun _ => .non
theorem ed_is {d d' : PyData} (h : ED J K Γ te d) (e : d = d') : ED J K Γ te d' := e ▸ h
theorem own_is {d d' : List PyData} (h : EG J K Γ te (.own d)) (e : d = d') : EG J K Γ te (.own d') := e ▸ h
theorem eb_is {tt : TT} {b b' : Bool} (h : EB J K Γ tt b) (e : b = b') : EB J K Γ tt b' := e ▸ h
/-- two operands, one behind the other -/
theorem two_op {r : R2} {x y z : PyData} (ha : ED J K Γ ta x) (hb : ED J K Γ tb y) (h : ∀ (O : List Addr) (H : Hp) (v u : V) (Q : VK), Dp K (hide H O) v x → Dp K (hide H O) u y → (∀ w, (∀ H, Dp K H w z) → Q w H) → r v u H Q) : ED J K Γ (tOp r ta tb) z := fun O σ H e Q q =>
  ha O σ H e _ fun v H1 x1 r1 => hb O σ H1 (e.mono x1) _ fun u H2 x2 r2 => h (ows σ Γ ++ O) H2 v u Q (Dp.ex r1 (hide_ex x2)) r2 fun w hw => q w H2 (x1.trans x2) (hw _)
theorem ed_opI {g : Int → Int → Int} {i j : Int} (ha : ED J K Γ ta (.int i)) (hb : ED J K Γ tb (.int j)) : ED J K Γ (tOp (rI0 fun i j => .int (g i j)) ta tb) (.int (g i j)) :=
  two_op ha hb fun O H v u Q h1 h2 q => by rw [dp_int h1, dp_int h2]; exact ⟨i, j, rfl, rfl, q _ fun _ => .int _⟩
theorem ed_opB {g : Int → Int → Bool} {i j : Int} (ha : ED J K Γ ta (.int i)) (hb : ED J K Γ tb (.int j)) : ED J K Γ (tOp (rI0 fun i j => .bl (g i j)) ta tb) (.bool (g i j)) :=
  two_op ha hb fun O H v u Q h1 h2 q => by rw [dp_int h1, dp_int h2]; exact ⟨i, j, rfl, rfl, q _ fun _ => .bl _⟩
theorem ed_opC {C : Int → Int → Prop} {g : Int → Int → Int} {i j : Int} (ha : ED J K Γ ta (.int i)) (hb : ED J K Γ tb (.int j)) (hc : C i j) : ED J K Γ (tOp (rI C fun i j => .int (g i j)) ta tb) (.int (g i j)) :=
  two_op ha hb fun O H v u Q h1 h2 q => by rw [dp_int h1, dp_int h2]; exact ⟨i, j, rfl, rfl, hc, q _ fun _ => .int _⟩
/-- == and != : of flat things, else of data -/
def rEqA (K : PySem.W.Frag) : R2 := fun x y H Q => rEq x y H Q ∨ rEqD K x y H Q
def rNeA (K : PySem.W.Frag) : R2 := fun x y H Q => rNe x y H Q ∨ rNeD K x y H Q
theorem ed_eqI {i j : Int} (ha : ED J K Γ ta (.int i)) (hb : ED J K Γ tb (.int j)) : ED J K Γ (tOp (rEqA K) ta tb) (.bool (decide (i = j))) :=
  two_op ha hb fun O H v u Q h1 h2 q => by
    rw [dp_int h1, dp_int h2]
    refine .inl ⟨rfl, ?_⟩
    have e : decide (V.int i = V.int j) = decide (i = j) := by simp
    rw [e]
    exact q _ fun _ => .bl _
theorem ed_neI {i j : Int} (ha : ED J K Γ ta (.int i)) (hb : ED J K Γ tb (.int j)) : ED J K Γ (tOp (rNeA K) ta tb) (.bool (!decide (i = j))) :=
  two_op ha hb fun O H v u Q h1 h2 q => by
    rw [dp_int h1, dp_int h2]
    refine .inl ⟨rfl, ?_⟩
    have e : decide (V.int i = V.int j) = decide (i = j) := by simp
    rw [e]
    exact q _ fun _ => .bl _
theorem ed_eqS {i j : Str} (ha : ED J K Γ ta (.str i)) (hb : ED J K Γ tb (.str j)) : ED J K Γ (tOp (rEqA K) ta tb) (.bool (decide (i = j))) :=
  two_op ha hb fun O H v u Q h1 h2 q => by
    rw [dp_str h1, dp_str h2]
    refine .inl ⟨rfl, ?_⟩
    have e : decide (V.str i = V.str j) = decide (i = j) := by simp
    rw [e]
    exact q _ fun _ => .bl _
theorem ed_eqB {i j : Bool} (ha : ED J K Γ ta (.bool i)) (hb : ED J K Γ tb (.bool j)) : ED J K Γ (tOp (rEqA K) ta tb) (.bool (i == j)) :=
  two_op ha hb fun O H v u Q h1 h2 q => by
    rw [dp_bl h1, dp_bl h2]
    refine .inl ⟨rfl, ?_⟩
    have e : decide (V.bl i = V.bl j) = (i == j) := by cases i <;> cases j <;> rfl
    rw [e]
    exact q _ fun _ => .bl _
theorem ed_neB {i j : Bool} (ha : ED J K Γ ta (.bool i)) (hb : ED J K Γ tb (.bool j)) : ED J K Γ (tOp (rNeA K) ta tb) (.bool (i != j)) :=
  two_op ha hb fun O H v u Q h1 h2 q => by
    rw [dp_bl h1, dp_bl h2]
    refine .inl ⟨rfl, ?_⟩
    have e : (!decide (V.bl i = V.bl j)) = (i != j) := by cases i <;> cases j <;> rfl
    rw [e]
    exact q _ fun _ => .bl _
theorem ed_eqD {x y : PyData} (ha : ED J K Γ ta x) (hb : ED J K Γ tb y) (s1 : SeqAt.shaped x = true) (s2 : SeqAt.shaped y = true) : ED J K Γ (tOp (rEqA K) ta tb) (.bool (PyData.eqv x y)) :=
  two_op ha hb fun O H v u Q h1 h2 q => .inr ⟨x, y, Dp.ex h1 hide_le, Dp.ex h2 hide_le, s1, s2, q _ fun _ => .bl _⟩
theorem ed_neD {x y : PyData} (ha : ED J K Γ ta x) (hb : ED J K Γ tb y) (s1 : SeqAt.shaped x = true) (s2 : SeqAt.shaped y = true) : ED J K Γ (tOp (rNeA K) ta tb) (.bool (!PyData.eqv x y)) :=
  two_op ha hb fun O H v u Q h1 h2 q => .inr ⟨x, y, Dp.ex h1 hide_le, Dp.ex h2 hide_le, s1, s2, q _ fun _ => .bl _⟩
def isN : PyData → Bool
  | .none => true
  | _ => false
theorem dec_non {v : V} {d : PyData} {H : Hp} (h : Dp K H v d) : decide (v = V.non) = isN d := by
  cases h <;> rfl
theorem ed_isN {x : PyData} (ha : ED J K Γ ta x) : ED J K Γ (tIsN ta) (.bool (isN x)) := fun O σ H e Q q => ha O σ H e _ fun v H1 x1 r1 => by
  rw [dec_non r1]
  exact q _ H1 x1 (.bl _)
theorem ed_notN {x : PyData} (ha : ED J K Γ ta x) : ED J K Γ (tNotN ta) (.bool (!isN x)) := fun O σ H e Q q => ha O σ H e _ fun v H1 x1 r1 => by
  rw [dec_non r1]
  exact q _ H1 x1 (.bl _)
/-! ### items -/
theorem ed_ixT {ds : List PyData} {i : Int} {d : PyData} (ha : ED J K Γ ta (.tuple ds)) (hb : ED J K Γ tb (.int i)) (h : atI ds i = some d) : ED J K Γ (tOp (rIx K) ta tb) d := fun O σ H e Q q =>
  ha O σ H e _ fun v H1 x1 r1 => hb O σ H1 (e.mono x1) _ fun u H2 x2 r2 => by
    obtain ⟨a, vs, rfl, h1, h2⟩ := dp_tup r1
    rw [dp_int r2]
    obtain ⟨w, hw, dw⟩ : ∃ w, atI vs i = some w ∧ Dp K (hide H1 (ows σ Γ ++ O)) w d := by
      unfold atI at h ⊢
      rw [h2.len]
      cases z : ixN ds.length i with
      | none => rw [z] at h; cases h
      | some j => rw [z] at h; exact h2.get h
    exact .inr (.inl ⟨a, vs, i, w, rfl, rfl, Evl.ex_t x2 (Evl.ex_t hide_le h1), hw, q w H2 (x1.trans x2) (Dp.ex dw (hide_ex x2))⟩)
theorem ed_ixL {ds : List PyData} {i : Int} {d : PyData} (ha : EL J K Γ ta ds) (hb : ED J K Γ tb (.int i)) (h : atI ds i = some d) : ED J K Γ (tOp (rIx K) ta tb) d := fun O σ H e Q q =>
  ha O σ H e _ fun a vs H1 x1 h1 h2 => hb O σ H1 (e.mono x1) _ fun u H2 x2 r2 => by
    rw [dp_int r2]
    obtain ⟨w, hw, dw⟩ : ∃ w, atI vs i = some w ∧ Dp K (hide H1 (ows σ Γ ++ O)) w d := by
      unfold atI at h ⊢
      rw [h2.len]
      cases z : ixN ds.length i with
      | none => rw [z] at h; cases h
      | some j => rw [z] at h; exact h2.get h
    exact .inl ⟨a, vs, i, w, rfl, rfl, Evl.ex_l x2 h1, hw, q w H2 (x1.trans x2) (Dp.ex dw (hide_ex x2))⟩
theorem atI_at {α : Type} {xs : List α} {j : Nat} {v : α} (h : xs[j]? = some v) : atI xs (j : Int) = some v := by
  have hl := (List.getElem?_eq_some_iff.mp h).1
  unfold atI
  rw [Evl.ixN_nat hl]
  exact h
/-! ### arguments, displays -/
theorem ea_nil : EA J K Γ tNil [] := fun O σ H e Q q => q [] H (Evl.Ex.refl H) .nil
theorem ea_cons {d : PyData} {ds : List PyData} (h : ED J K Γ te d) (hr : EA J K Γ tA ds) : EA J K Γ (tCons te tA) (d :: ds) := fun O σ H e Q q =>
  h O σ H e _ fun v H1 x1 r1 => hr O σ H1 (e.mono x1) _ fun vs H2 x2 r2 => q _ H2 (x1.trans x2) (.cons (Dp.ex r1 (hide_ex x2)) r2)
theorem own_lst {ds : List PyData} (h : EA J K Γ tA ds) (hl : ds.length ≤ 100000 := by first | exact Nat.le_of_ble_eq_true rfl | omega) : EG J K Γ (tLst tA) (.own ds) := fun O σ H e Q q =>
  h O σ H e _ fun vs H1 x1 r1 => ⟨by rw [r1.len]; exact Evl.sz_of hl, fun p hp => by
    have x2 : Ex H1 (upd H1 p (.lst vs)) := Evl.Ex.new hp
    refine q _ _ (x1.trans x2) ⟨p, vs, rfl, Evl.fresh_back x1 hp, upd_same, ?_⟩
    rw [hide_upd (List.mem_cons_self ..), hide_new hp]
    exact r1⟩
theorem ed_tup {ds : List PyData} (h : EA J K Γ tA ds) (hl : ds.length ≤ 100000 := by first | exact Nat.le_of_ble_eq_true rfl | omega) : ED J K Γ (tTup tA) (.tuple ds) := fun O σ H e Q q =>
  h O σ H e _ fun vs H1 x1 r1 => ⟨by rw [r1.len]; exact Evl.sz_of hl, fun p hp => by
    have x2 : Ex H1 (upd H1 p (.tup vs)) := Evl.Ex.new hp
    have np : p ∉ ows σ Γ ++ O := fun z => (e.mono x1).there p z hp
    refine q _ _ (x1.trans x2) (.tup (SqT.of ?_) (DpAll.ex r1 (hide_ex x2)))
    rw [hide_out np]
    exact upd_same⟩
/-! ### tests -/
theorem eb_test {b : Bool} (h : ED J K Γ te (.bool b)) : EB J K Γ (tTest te) b := fun O σ H e Q q => h O σ H e _ fun v H1 x1 r1 => ⟨b, dp_bl r1, q H1 x1⟩
theorem eb_B {b : Bool} (h : ED J K Γ te (.bool b)) : EB J K Γ (tB te) b := fun O σ H e Q q => h O σ H e _ fun v H1 x1 r1 => ⟨b, dp_bl r1, q H1 x1⟩
theorem eb_not {t : TT} {b : Bool} (h : EB J K Γ t b) : EB J K Γ (tNot t) (!b) := fun O σ H e Q q => h O σ H e _ fun H1 x1 => q H1 x1
theorem eb_and {t u : TT} {a b : Bool} (h1 : EB J K Γ t a) (h2 : a = true → EB J K Γ u b) : EB J K Γ (tAnd t u) (a && b) := fun O σ H e Q q => h1 O σ H e _ fun H1 x1 => by
  cases a with
  | true => exact h2 rfl O σ H1 (e.mono x1) _ fun H2 x2 => q H2 (x1.trans x2)
  | false => exact q H1 x1
theorem eb_or {t u : TT} {a b : Bool} (h1 : EB J K Γ t a) (h2 : a = false → EB J K Γ u b) : EB J K Γ (tOr t u) (a || b) := fun O σ H e Q q => h1 O σ H e _ fun H1 x1 => by
  cases a with
  | true => exact q H1 x1
  | false => exact h2 rfl O σ H1 (e.mono x1) _ fun H2 x2 => q H2 (x1.trans x2)
theorem ed_andV {a b : Bool} (h1 : ED J K Γ ta (.bool a)) (h2 : a = true → ED J K Γ tb (.bool b)) : ED J K Γ (tAndV ta tb) (.bool (a && b)) := fun O σ H e Q q => h1 O σ H e _ fun v H1 x1 r1 => ⟨a, dp_bl r1, by
  cases a with
  | true => exact h2 rfl O σ H1 (e.mono x1) _ fun u H2 x2 r2 => q u H2 (x1.trans x2) r2
  | false => exact q _ H1 x1 (.bl false)⟩
theorem ed_orV {a b : Bool} (h1 : ED J K Γ ta (.bool a)) (h2 : a = false → ED J K Γ tb (.bool b)) : ED J K Γ (tOrV ta tb) (.bool (a || b)) := fun O σ H e Q q => h1 O σ H e _ fun v H1 x1 r1 => ⟨a, dp_bl r1, by
  cases a with
  | true => exact q _ H1 x1 (.bl true)
  | false => exact h2 rfl O σ H1 (e.mono x1) _ fun u H2 x2 r2 => q u H2 (x1.trans x2) r2⟩
theorem ed_notV {a : Bool} (h1 : ED J K Γ ta (.bool a)) : ED J K Γ (tNotV ta) (.bool (!a)) := fun O σ H e Q q => h1 O σ H e _ fun v H1 x1 r1 => ⟨a, dp_bl r1, q _ H1 x1 (.bl _)⟩
theorem ed_if {t : TT} {b : Bool} {d : PyData} (h : EB J K Γ t b) (h1 : b = true → ED J K Γ ta d) (h2 : b = false → ED J K Γ tb d) : ED J K Γ (tIf t ta tb) d := fun O σ H e Q q => h O σ H e _ fun H1 x1 => by
  cases b with
  | true => exact h1 rfl O σ H1 (e.mono x1) _ fun u H2 x2 r2 => q u H2 (x1.trans x2) r2
  | false => exact h2 rfl O σ H1 (e.mono x1) _ fun u H2 x2 r2 => q u H2 (x1.trans x2) r2
theorem ed_chain {g g' : Int → Int → Bool} {i j k : Int} (ha : ED J K Γ ta (.int i)) (hb : ED J K Γ tb (.int j)) (hc : g i j = true → ED J K Γ tc (.int k)) : ED J K Γ (tChain (rI0 fun i j => .bl (g i j)) (rI0 fun i j => .bl (g' i j)) ta tb tc) (.bool (g i j && g' j k)) := fun O σ H e Q q =>
  ha O σ H e _ fun v H1 x1 r1 => hb O σ H1 (e.mono x1) _ fun u H2 x2 r2 => by
    rw [dp_int r1, dp_int r2]
    refine ⟨i, j, rfl, rfl, g i j, rfl, ?_⟩
    cases z : g i j with
    | true =>
      refine hc z O σ H2 ((e.mono x1).mono x2) _ fun w H3 x3 r3 => ?_
      rw [dp_int r3]
      rw [z] at q
      exact ⟨j, k, rfl, rfl, q _ H3 ((x1.trans x2).trans x3) (.bl _)⟩
    | false =>
      rw [z] at q
      exact q _ H2 (x1.trans x2) (.bl false)
/-! ### built-in functions -/
theorem ed_cb {r : List V → Hp → VK → Prop} {ds : List PyData} {d : PyData} (ha : EA J K Γ tA ds) (h : ∀ (O : List Addr) (H : Hp) (vs : List V) (Q : VK), DpAll K (hide H O) vs ds → (∀ w, (∀ H, Dp K H w d) → Q w H) → r vs H Q) : ED J K Γ (tCB r tA) d := fun O σ H e Q q =>
  ha O σ H e _ fun vs H1 x1 r1 => h (ows σ Γ ++ O) H1 vs Q r1 fun w hw => q w H1 x1 (hw _)
abbrev rLen (K : PySem.W.Frag) : List V → Hp → VK → Prop := fun xs H Q => ∃ p ys, xs = [.ref p] ∧ (SqL K H p ys ∨ SqT K H p ys) ∧ Q (.int ys.length) H
theorem ed_lenL {ds : List PyData} (ha : EL J K Γ ta ds) : ED J K Γ (tCB (rLen K) (tCons ta tNil)) (.int (ds.length : Nat)) := fun O σ H e Q q =>
  ha O σ H e _ fun p vs H1 x1 h1 h2 => ⟨p, vs, rfl, .inl h1, by
    rw [h2.len]
    exact q _ H1 x1 (.int _)⟩
theorem ed_lenT {ds : List PyData} (ha : ED J K Γ ta (.tuple ds)) : ED J K Γ (tCB (rLen K) (tCons ta tNil)) (.int (ds.length : Nat)) := fun O σ H e Q q =>
  ha O σ H e _ fun v H1 x1 r1 => by
    obtain ⟨a, vs, rfl, h1, h2⟩ := dp_tup r1
    refine ⟨a, vs, rfl, .inr (Evl.ex_t hide_le h1), ?_⟩
    rw [h2.len]
    exact q _ H1 x1 (.int _)
theorem dpall1 {H : Hp} {vs : List V} {d : PyData} (h : DpAll K H vs [d]) : ∃ v, vs = [v] ∧ Dp K H v d := by
  cases h with
  | cons h1 h2 =>
    cases h2
    exact ⟨_, rfl, h1⟩
theorem dpall2 {H : Hp} {vs : List V} {d e : PyData} (h : DpAll K H vs [d, e]) : ∃ v u, vs = [v, u] ∧ Dp K H v d ∧ Dp K H u e := by
  cases h with
  | cons h1 h2 =>
    obtain ⟨u, rfl, h3⟩ := dpall1 h2
    exact ⟨_, u, rfl, h1, h3⟩
abbrev rAbs : List V → Hp → VK → Prop := fun xs H Q => ∃ i, xs = [.int i] ∧ Q (.int (if i < 0 then -i else i)) H
abbrev rMin2 : List V → Hp → VK → Prop := fun xs H Q => ∃ i j, xs = [.int i, .int j] ∧ Q (.int (if j < i then j else i)) H
abbrev rMax2 : List V → Hp → VK → Prop := fun xs H Q => ∃ i j, xs = [.int i, .int j] ∧ Q (.int (if j > i then j else i)) H
abbrev rInt1 : List V → Hp → VK → Prop := fun xs H Q => (∃ i, xs = [.int i] ∧ Q (.int i) H) ∨ ∃ k, xs = [.bl k] ∧ Q (.int (if k then 1 else 0)) H
theorem ed_abs {i : Int} (ha : ED J K Γ ta (.int i)) : ED J K Γ (tCB rAbs (tCons ta tNil)) (.int (i.natAbs : Nat)) := ed_cb (ea_cons ha ea_nil) fun O H vs Q h q => by
  obtain ⟨v, rfl, h1⟩ := dpall1 h
  rw [dp_int h1]
  refine ⟨i, rfl, ?_⟩
  have e : (if i < 0 then -i else i) = ((i.natAbs : Nat) : Int) := by omega
  rw [e]
  exact q _ fun _ => .int _
theorem ed_min2 {i j : Int} (ha : ED J K Γ ta (.int i)) (hb : ED J K Γ tb (.int j)) : ED J K Γ (tCB rMin2 (tCons ta (tCons tb tNil))) (.int (min i j)) := ed_cb (ea_cons ha (ea_cons hb ea_nil)) fun O H vs Q h q => by
  obtain ⟨v, u, rfl, h1, h2⟩ := dpall2 h
  rw [dp_int h1, dp_int h2]
  refine ⟨i, j, rfl, ?_⟩
  have e : (if j < i then j else i) = min i j := by omega
  rw [e]
  exact q _ fun _ => .int _
theorem ed_max2 {i j : Int} (ha : ED J K Γ ta (.int i)) (hb : ED J K Γ tb (.int j)) : ED J K Γ (tCB rMax2 (tCons ta (tCons tb tNil))) (.int (max i j)) := ed_cb (ea_cons ha (ea_cons hb ea_nil)) fun O H vs Q h q => by
  obtain ⟨v, u, rfl, h1, h2⟩ := dpall2 h
  rw [dp_int h1, dp_int h2]
  refine ⟨i, j, rfl, ?_⟩
  have e : (if j > i then j else i) = max i j := by omega
  rw [e]
  exact q _ fun _ => .int _
theorem ed_intB {b : Bool} (ha : ED J K Γ ta (.bool b)) : ED J K Γ (tCB rInt1 (tCons ta tNil)) (.int (if b then 1 else 0)) := ed_cb (ea_cons ha ea_nil) fun O H vs Q h q => by
  obtain ⟨v, rfl, h1⟩ := dpall1 h
  rw [dp_bl h1]
  exact .inr ⟨b, rfl, q _ fun _ => .int _⟩
theorem dpall_bools {H : Hp} : ∀ {bs : List Bool} {vs : List V}, DpAll K H vs (bs.map .bool) → vs = bs.map V.bl
  | [], _, h => by cases h; rfl
  | b :: bs, _, h => by
    cases h with
    | cons h1 h2 =>
      rw [dp_bl h1, dpall_bools h2]
      rfl
theorem dpall_ints {H : Hp} : ∀ {ns : List Int} {vs : List V}, DpAll K H vs (ns.map .int) → vs = ns.map V.int
  | [], _, h => by cases h; rfl
  | b :: bs, _, h => by
    cases h with
    | cons h1 h2 =>
      rw [dp_int h1, dpall_ints h2]
      rfl
theorem dpall_strs {H : Hp} : ∀ {ns : List Str} {vs : List V}, DpAll K H vs (ns.map .str) → vs = ns.map V.str
  | [], _, h => by cases h; rfl
  | b :: bs, _, h => by
    cases h with
    | cons h1 h2 =>
      rw [dp_str h1, dpall_strs h2]
      rfl
theorem ed_all {bs : List Bool} (ha : EL J K Γ ta (bs.map .bool)) : ED J K Γ (tCB (rAll K) (tCons ta tNil)) (.bool (bs.all id)) := fun O σ H e Q q =>
  ha O σ H e _ fun p vs H1 x1 h1 h2 => ⟨p, bs, rfl, by rw [← dpall_bools h2]; exact h1, q _ H1 x1 (.bl _)⟩
/-- an int in a list of ints -/
theorem inV_ints {i : Int} : ∀ ns : List Int, inV (.int i) (ns.map V.int) = decide (i ∈ ns)
  | [] => by simp [inV]
  | n :: ns => by
    have ih := inV_ints (i := i) ns
    unfold inV at ih ⊢
    rw [List.map_cons, List.any_cons, ih]
    have e : eqV (V.int n) (V.int i) = decide (i = n) := by
      show (n == i) = decide (i = n)
      rw [Bool.eq_iff_iff, beq_iff_eq, decide_eq_true_iff]
      exact eq_comm
    rw [e, Bool.eq_iff_iff, Bool.or_eq_true, decide_eq_true_iff, decide_eq_true_iff, decide_eq_true_iff, List.mem_cons]
theorem flat_ints (ns : List Int) : (ns.map V.int).all flatV = true := by
  induction ns with
  | nil => rfl
  | cons _ _ ih => exact ih
theorem inV_strs {i : Str} : ∀ ns : List Str, inV (.str i) (ns.map V.str) = decide (i ∈ ns)
  | [] => by simp [inV]
  | n :: ns => by
    have ih := inV_strs (i := i) ns
    unfold inV at ih ⊢
    rw [List.map_cons, List.any_cons, ih]
    have e : eqV (V.str n) (V.str i) = decide (i = n) := by
      show (n == i) = decide (i = n)
      rw [Bool.eq_iff_iff, beq_iff_eq, decide_eq_true_iff]
      exact eq_comm
    rw [e, Bool.eq_iff_iff, Bool.or_eq_true, decide_eq_true_iff, decide_eq_true_iff, decide_eq_true_iff, List.mem_cons]
theorem flat_strs (ns : List Str) : (ns.map V.str).all flatV = true := by
  induction ns with
  | nil => rfl
  | cons _ _ ih => exact ih
theorem ed_inL {i : Int} {ns : List Int} (ha : ED J K Γ ta (.int i)) (hb : EL J K Γ tb (ns.map .int)) : ED J K Γ (tOp (rIn K false) ta tb) (.bool (decide (i ∈ ns))) := fun O σ H e Q q =>
  ha O σ H e _ fun v H1 x1 r1 => hb O σ H1 (e.mono x1) _ fun p vs H2 x2 h1 h2 => by
    rw [dp_int r1]
    refine ⟨p, vs, rfl, .inl h1, rfl, by rw [dpall_ints h2]; exact flat_ints ns, ?_⟩
    rw [dpall_ints h2, inV_ints]
    exact q _ H2 (x1.trans x2) (.bl _)
theorem ed_ninL {i : Int} {ns : List Int} (ha : ED J K Γ ta (.int i)) (hb : EL J K Γ tb (ns.map .int)) : ED J K Γ (tOp (rIn K true) ta tb) (.bool (!decide (i ∈ ns))) := fun O σ H e Q q =>
  ha O σ H e _ fun v H1 x1 r1 => hb O σ H1 (e.mono x1) _ fun p vs H2 x2 h1 h2 => by
    rw [dp_int r1]
    refine ⟨p, vs, rfl, .inl h1, rfl, by rw [dpall_ints h2]; exact flat_ints ns, ?_⟩
    rw [dpall_ints h2, inV_ints]
    exact q _ H2 (x1.trans x2) (.bl _)
theorem ed_inT {i : Int} {ns : List Int} (ha : ED J K Γ ta (.int i)) (hb : ED J K Γ tb (.tuple (ns.map .int))) : ED J K Γ (tOp (rIn K false) ta tb) (.bool (decide (i ∈ ns))) := fun O σ H e Q q =>
  ha O σ H e _ fun v H1 x1 r1 => hb O σ H1 (e.mono x1) _ fun u H2 x2 r2 => by
    obtain ⟨p, vs, rfl, h1, h2⟩ := dp_tup r2
    rw [dp_int r1]
    refine ⟨p, vs, rfl, .inr (Evl.ex_t hide_le h1), rfl, by rw [dpall_ints h2]; exact flat_ints ns, ?_⟩
    rw [dpall_ints h2, inV_ints]
    exact q _ H2 (x1.trans x2) (.bl _)
theorem ed_inTS {i : Str} {ns : List Str} (ha : ED J K Γ ta (.str i)) (hb : ED J K Γ tb (.tuple (ns.map .str))) : ED J K Γ (tOp (rIn K false) ta tb) (.bool (decide (i ∈ ns))) := fun O σ H e Q q =>
  ha O σ H e _ fun v H1 x1 r1 => hb O σ H1 (e.mono x1) _ fun u H2 x2 r2 => by
    obtain ⟨p, vs, rfl, h1, h2⟩ := dp_tup r2
    rw [dp_str r1]
    refine ⟨p, vs, rfl, .inr (Evl.ex_t hide_le h1), rfl, by rw [dpall_strs h2]; exact flat_strs ns, ?_⟩
    rw [dpall_strs h2, inV_strs]
    exact q _ H2 (x1.trans x2) (.bl _)
/-! ### isinstance -/
def tyN : PyData → String
  | .none => "NoneType"
  | .bool _ => "bool"
  | .int _ => "int"
  | .str _ => "str"
  | .list _ => "list"
  | .tuple _ => "tuple"
  | .dict _ => "dict"
theorem ty_dp {H : Hp} {v : V} {d : PyData} (h : Dp K H v d) : TyX K H v (.type (tyN d)) := by
  cases h with
  | non => exact .base (.non)
  | bl b => exact .base (.bl b)
  | int i => exact .base (.int i)
  | str x => exact .base (.str x)
  | lst h1 _ =>
    rcases h1 with (h1 | ⟨o, h1⟩) | ⟨o, its, n, e, c, _⟩
    · exact .base (.lst h1)
    · exact .base (.frz h1)
    · exact .kList e c
  | tup h1 _ =>
    rcases h1 with (h1 | ⟨o, h1⟩) | ⟨o, its, n, e, c, _⟩
    · exact .base (.tup h1)
    · exact .fTuple h1
    · exact .kTuple e c
theorem ed_isi {d : PyData} {T : String} {b : Bool} (ha : ED J K Γ ta d) (h : kitB (tyN d) T = some b) : ED J K Γ (tCB (rIsi K) (tCons ta (tCons (tC (.ty T)) tNil))) (.bool b) := fun O σ H e Q q =>
  ha O σ H e _ fun v H1 x1 r1 => ⟨v, .ty T, _, _, b, rfl, .ty T, ty_dp (Dp.ex r1 hide_le), kit_ty h, q _ H1 x1 (.bl _)⟩
/-! ### new lists -/
abbrev rListOf (K : PySem.W.Frag) : List V → Hp → VK → Prop := fun xs H Q => ∃ p ys, xs = [.ref p] ∧ (SqL K H p ys ∨ SqT K H p ys) ∧ ∀ l, H l = none → Q (.ref l) (upd H l (.lst ys))
theorem own_mk {σ : L2.St} {H H1 : Hp} {O : List Addr} {p : Addr} {vs : List V} {ds : List PyData} (x1 : Ex H H1) (hp : H1 p = none) (r1 : DpAll K (hide H1 (ows σ Γ ++ O)) vs ds) : Ex H (upd H1 p (.lst vs)) ∧ RD K H (upd H1 p (.lst vs)) (ows σ Γ ++ O) (.ref p) (.own ds) := by
  refine ⟨x1.trans (Evl.Ex.new hp), p, vs, rfl, Evl.fresh_back x1 hp, upd_same, ?_⟩
  rw [hide_upd (List.mem_cons_self ..), hide_new hp]
  exact r1
theorem own_listOf {ds : List PyData} (ha : EL J K Γ ta ds) : EG J K Γ (tCB (rListOf K) (tCons ta tNil)) (.own ds) := fun O σ H e Q q =>
  ha O σ H e _ fun p vs H1 x1 h1 h2 => ⟨p, vs, rfl, .inl h1, fun l hl => by
    obtain ⟨a, b⟩ := own_mk x1 hl h2
    exact q _ _ a b⟩
theorem own_rep {d : PyData} {n : Nat} (ha : EG J K Γ ta (.own [d])) (hb : ED J K Γ tb (.int (n : Int))) (hn : n ≤ 100000) : EG J K Γ (tOp rRep ta tb) (.own (List.replicate n d)) := fun O σ H e Q q =>
  ha O σ H e _ fun v H1 x1 r1 => by
    obtain ⟨p, vs, rfl, h1, h2, h3⟩ := r1
    obtain ⟨x, rfl, hx⟩ := dpall1 h3
    refine hb O σ H1 (e.mono x1) _ fun u H2 x2 r2 => ?_
    rw [dp_int r2]
    refine ⟨p, n, [x], rfl, rfl, x2 _ _ h2, by omega, by omega, by show 1 * _ ≤ _; rw [Nat.one_mul]; exact Evl.sz_of (by omega), fun l hl => ?_⟩
    have r : DpAll K (hide H2 (ows σ Γ ++ O)) (List.replicate (n : Int).toNat [x]).flatten (List.replicate n d) := by
      have ee : (List.replicate (n : Int).toNat [x]).flatten = List.replicate n x := by
        rw [Int.toNat_natCast]
        induction n with
        | zero => rfl
        | succ m ih => simp [List.replicate_succ]
      rw [ee]
      exact DpAll.replicate (Dp.ex hx ((hide_sub fun a ha => List.mem_cons_of_mem _ ha).trans (hide_ex x2))) n
    obtain ⟨a, b⟩ := own_mk (x1.trans x2) hl r
    exact q _ _ a b
theorem own_cat {i : Nat} {w : Option Addr} {ds es : List PyData} (ha : Γ[i]? = some (.ownP w ds)) (hb : EG J K Γ tb (.own es)) (hl : ds.length + es.length ≤ 100000) : EG J K Γ (tOp rCat (tVar i) tb) (.own (ds ++ es)) := fun O σ H e Q q => by
  obtain ⟨p, vs, e1, e2, e3, _⟩ := e.sl.getO ha
  refine ⟨_, e1, hb O σ H e _ fun u H1 x1 r1 => ?_⟩
  obtain ⟨p2, ws, rfl, h1, h2, h3⟩ := r1
  have h4 : DpAll K (hide H1 (ows σ Γ ++ O)) ws es := DpAll.ex h3 (hide_sub fun a ha => List.mem_cons_of_mem _ ha)
  have h5 : DpAll K (hide H1 (ows σ Γ ++ O)) vs ds := DpAll.ex e3 (hide_ex x1)
  refine ⟨p, p2, vs, ws, rfl, rfl, x1 _ _ e2, h2, by rw [h5.len, h4.len]; exact Evl.sz_of hl, fun l hl => ?_⟩
  obtain ⟨a, b⟩ := own_mk x1 hl (h5.append h4)
  exact q _ _ a b
/-! ### slices -/
def cutD (ds : List PyData) (lo hi : Option Int) : List PyData := (ds.drop (HT.sIx ds.length 0 lo)).take (HT.sIx ds.length ds.length hi - HT.sIx ds.length 0 lo)
def EO (J : Ji) (K : PySem.W.Frag) (Γ : List Sl) (to : TO) (o : Option Int) : Prop := ∀ (O : List Addr) (σ : L2.St) (H : Hp), Env J K O H σ Γ → ∀ Q : Option Int → Hp → Prop, (∀ H2, Ex H H2 → Q o H2) → to σ H Q
theorem eo_none : EO J K Γ tNoPart none := fun O σ H e Q q => q H (Evl.Ex.refl H)
theorem eo_some {i : Int} (h : ED J K Γ te (.int i)) : EO J K Γ (tPart te) (some i) := fun O σ H e Q q => h O σ H e _ fun v H1 x1 r1 => ⟨i, dp_int r1, q H1 x1⟩
theorem own_sliceL {tl th : TO} {ds : List PyData} {lo hi : Option Int} (ha : EL J K Γ ta ds) (h1 : EO J K Γ tl lo) (h2 : EO J K Γ th hi) : EG J K Γ (tSl (rSlL K) ta tl th) (.own (cutD ds lo hi)) := fun O σ H e Q q =>
  ha O σ H e _ fun p vs H1 x1 a1 a2 => h1 O σ H1 (e.mono x1) _ fun H2 x2 => h2 O σ H2 ((e.mono x1).mono x2) _ fun H3 x3 => ⟨p, vs, rfl, Evl.ex_l (x2.trans x3) a1, fun l hl => by
    have r : DpAll K (hide H3 (ows σ Γ ++ O)) (cutV vs lo hi) (cutD ds lo hi) := by
      unfold cutV cutD
      rw [a2.len]
      exact DpAll.take _ (DpAll.drop _ (DpAll.ex a2 (hide_ex (x2.trans x3))))
    obtain ⟨a, b⟩ := own_mk ((x1.trans x2).trans x3) hl r
    exact q _ _ a b⟩
theorem ed_sliceT {tl th : TO} {ds : List PyData} {lo hi : Option Int} (ha : ED J K Γ ta (.tuple ds)) (h1 : EO J K Γ tl lo) (h2 : EO J K Γ th hi) (hw : ¬ (HT.sIx ds.length 0 lo = 0 ∧ HT.sIx ds.length ds.length hi = ds.length)) : ED J K Γ (tSl (rSlT K) ta tl th) (.tuple (cutD ds lo hi)) := fun O σ H e Q q =>
  ha O σ H e _ fun v H1 x1 r1 => by
    obtain ⟨p, vs, rfl, a1, a2⟩ := dp_tup r1
    refine h1 O σ H1 (e.mono x1) _ fun H2 x2 => h2 O σ H2 ((e.mono x1).mono x2) _ fun H3 x3 => ⟨p, vs, rfl, Evl.ex_t ((hide_le.trans x2).trans x3) a1, by rw [a2.len]; exact hw, fun l hl => ?_⟩
    have r : DpAll K (hide H3 (ows σ Γ ++ O)) (cutV vs lo hi) (cutD ds lo hi) := by
      unfold cutV cutD
      rw [a2.len]
      exact DpAll.take _ (DpAll.drop _ (DpAll.ex a2 (hide_ex (x2.trans x3))))
    have np : l ∉ ows σ Γ ++ O := fun z => (((e.mono x1).mono x2).mono x3).there l z hl
    refine q _ _ (((x1.trans x2).trans x3).trans (Evl.Ex.new hl)) (.tup (SqT.of ?_) (DpAll.ex r (hide_ex (Evl.Ex.new hl))))
    rw [hide_out np]
    exact upd_same
/-! ### a def's promise and its call -/
/-- called with data ds it gives r, wherever P ds r -/
def spF (K : PySem.W.Frag) (P : List PyData → Rs → Prop) : Sp := fun vs H Q _ => ∃ O ds r, P ds r ∧ DpAll K (hide H O) vs ds ∧ (∀ p ∈ O, H p ≠ none) ∧ ∀ v H2, Ex H H2 → RD K H H2 O v r → Q v H2
theorem rd_back {H H1 H2 : Hp} {O : List Addr} {v : V} {r : Rs} (e : Ex H H1) (h : RD K H1 H2 O v r) : RD K H H2 O v r := by
  cases r with
  | raw p => exact p.back e h
  | dat d => exact h
  | own ds =>
    obtain ⟨p, vs, a, b, c, d⟩ := h
    exact ⟨p, vs, a, Evl.fresh_back e b, c, d⟩
theorem eg_call {P : List PyData → Rs → Prop} {E : XK} {ds : List PyData} {r : Rs} (ha : EA J K Γ tA ds) (hp : P ds r) : EG J K Γ (tCall (spF K P) [] E tA) r := fun O σ H e Q q =>
  ha O σ H e _ fun vs H1 x1 r1 => by
    rw [List.append_nil]
    exact ⟨ows σ Γ ++ O, ds, r, hp, r1, (e.mono x1).there, fun v H2 x2 r2 => q v H2 (x1.trans x2) (rd_back x1 r2)⟩
end
end NwB
end NwEv_
section NwSt_
set_option Elab.async false
set_option linter.all false
set_option maxRecDepth 100000
set_option maxHeartbeats 4000000
namespace NwB
open PySem PySem.Spec PyProof.Rows L2
open Evl (Ex)

/-! ### what a block comes to -/
/-- within a body: B the heap at its entry -/
structure Sb (J : Ji) (K : PySem.W.Frag) (B : Hp) (O : List Addr) (H : Hp) (σ : L2.St) (Γ : List Sl) : Prop where
  env : Env J K O H σ Γ
  ex : Ex B H
  new : ∀ p ∈ ows σ Γ, B p = none
/-- from slots known as Γ: what follows is met with slots of which N speaks; what is handed back is one of R -/
def SG (J : Ji) (K : PySem.W.Frag) (Γ : List Sl) (t : TS) (N : List Sl → Prop) (R : List Sl → Rs → Prop) : Prop := ∀ (B : Hp) (O : List Addr) (σ : L2.St) (H : Hp) (D : Ends), Sb J K B O H σ Γ →
  (∀ Γ' σ' H', N Γ' → Sb J K B O H' σ' Γ' → D.nx σ' H') → (∀ v H' σ' Γ' r, R Γ' r → Sb J K B O H' σ' Γ' → RD K B H' (ows σ' Γ' ++ O) v r → D.rt v H') → t D σ H
/-- N of less that is known -/
def Lq (N : List Sl → Prop) (Γ : List Sl) : Prop := ∃ Γ', Le Γ Γ' ∧ N Γ'
section
variable {J : Ji} {K : PySem.W.Frag} {B B' H H' : Hp} {O : List Addr} {σ : L2.St} {Γ Γ' : List Sl} {te ta tb tl : TE} {tA : TA} {t u : TS} {N N' : List Sl → Prop} {R : List Sl → Rs → Prop}
theorem Sb.le (s : Sb J K B O H σ Γ) (l : Le Γ Γ') : Sb J K B O H σ Γ' := by
  obtain ⟨a, b⟩ := s.env.le l
  exact ⟨a, s.ex, fun p hp => s.new p (b p hp)⟩
theorem Sb.mono (s : Sb J K B O H σ Γ) (e : Ex H H') : Sb J K B O H' σ Γ := ⟨s.env.mono e, s.ex.trans e, s.new⟩
theorem Sb.base (s : Sb J K B' O H σ Γ) (e : Ex B B') : Sb J K B O H σ Γ := ⟨s.env, e.trans s.ex, fun p hp => Evl.fresh_back e (s.new p hp)⟩
theorem Sb.setD (s : Sb J K B O H σ Γ) {v : V} {d : PyData} (h : Dp K (hide H (ows σ Γ ++ O)) v d) (i : Nat) : Sb J K B O H (σ.set i (some v)) (Γ.set i (.dat d)) := by
  obtain ⟨a, b⟩ := s.env.setD h i
  exact ⟨a, s.ex, fun p hp => s.new p (b p hp)⟩
/-- a base in which the lists that are data stand too -/
def lift (H : Hp) (σ : L2.St) (Γ : List Sl) : Hp := hide H (ows σ Γ)
theorem Sb.lifted (s : Sb J K B O H σ Γ) : Ex B (lift H σ Γ) := fun a o h => by
  have na : a ∉ ows σ Γ := fun z => by
    rw [s.new a z] at h
    cases h
  unfold lift
  rw [hide_out na]
  exact s.ex a o h
theorem Sb.up (s : Sb J K B O H σ Γ) : Sb J K (lift H σ Γ) O H σ Γ := ⟨s.env, hide_le, fun p hp => hide_in hp⟩
theorem hide_hide {H : Hp} {A C : List Addr} : hide (hide H A) C = hide H (A ++ C) := by
  funext a
  by_cases h1 : a ∈ C
  · rw [hide_in h1, hide_in (List.mem_append_right _ h1)]
  · rw [hide_out h1]
    by_cases h2 : a ∈ A
    · rw [hide_in h2, hide_in (List.mem_append_left _ h2)]
    · rw [hide_out h2, hide_out fun z => (List.mem_append.mp z).elim h2 h1]
/-- what stood as a datum then stands so still -/
theorem Sb.keep {σ' : L2.St} {H1 : Hp} (s : Sb J K (lift H σ Γ) O H1 σ' Γ') : Ex (hide H (ows σ Γ ++ O)) (hide H1 (ows σ' Γ' ++ O)) := fun a o h => by
  have h' : hide (lift H σ Γ) O a = some o := by
    unfold lift
    rw [hide_hide]
    exact h
  obtain ⟨h1, h2⟩ := hide_some h'
  have na : a ∉ ows σ' Γ' := fun z => by
    rw [s.new a z] at h2
    cases h2
  rw [hide_out fun z => (List.mem_append.mp z).elim na h1]
  exact s.ex a o h2
theorem lq_refl (h : N Γ) : Lq N Γ := ⟨Γ, Le.refl Γ, h⟩
theorem sg_imp (h : SG J K Γ t N R) (hn : ∀ Γ', N Γ' → Lq N' Γ') : SG J K Γ t N' R := fun B O σ H D s n r => h B O σ H D s (fun Γ' σ' H' a b => by
  obtain ⟨Γ2, l, c⟩ := hn Γ' a
  exact n Γ2 σ' H' c (b.le l)) r
theorem sg_le (l : Le Γ Γ') (h : SG J K Γ' t N R) : SG J K Γ t N R := fun B O σ H D s n r => h B O σ H D (s.le l) n r
theorem sg_seq (h : SG J K Γ t N' R) (k : ∀ Γ', N' Γ' → SG J K Γ' u N R) : SG J K Γ (tSeq t u) N R := fun B O σ H D s n r =>
  h B O σ H { D with nx := u D } s (fun Γ' σ' H' a b => k Γ' a B O σ' H' D b n r) r
theorem sg_next (h : Lq N Γ) : SG J K Γ tNext N R := fun B O σ H D s n r => by
  obtain ⟨Γ2, l, c⟩ := h
  exact n Γ2 σ H c (s.le l)
/-! ### stores -/
theorem sg_asg {i : Nat} {d : PyData} (h : ED J K Γ te d) (k : Lq N (Γ.set i (.dat d))) : SG J K Γ (tAsg te (gName i)) N R := fun B O σ H D s n r =>
  h O σ H s.env _ fun v H1 x1 r1 => by
    obtain ⟨Γ2, l, c⟩ := k
    exact n Γ2 _ H1 c (((s.mono x1).setD r1 i).le l)
theorem sg_asgO {i : Nat} {ds : List PyData} (h : EG J K Γ te (.own ds)) (k : Lq N (Γ.set i (.own ds))) : SG J K Γ (tAsg te (gName i)) N R := fun B O σ H D s n r =>
  h O σ H s.env _ fun v H1 x1 r1 => by
    obtain ⟨Γ2, l, c⟩ := k
    obtain ⟨p, vs, rfl, a1, a2, a3⟩ := r1
    obtain ⟨b1, b2⟩ := s.env.setO x1 a1 a2 a3 i
    have s2 : Sb J K B O H1 (σ.set i (some (.ref p))) (Γ.set i (.own ds)) := ⟨b1, s.ex.trans x1, fun q hq => (b2 q hq).elim (fun z => by rw [z]; exact Evl.fresh_back s.ex a1) (s.new q)⟩
    exact n Γ2 _ H1 c (s2.le l)
theorem qd {i : Nat} {d : PyData} (h : ED J K Γ te d) (k : SG J K (Γ.set i (.dat d)) u N R) : SG J K Γ (tSeq (tAsg te (gName i)) u) N R := sg_seq (N' := fun Γ' => Γ' = Γ.set i (.dat d)) (sg_asg h (lq_refl rfl)) fun _ e => e ▸ k
theorem qo {i : Nat} {ds : List PyData} (h : EG J K Γ te (.own ds)) (k : SG J K (Γ.set i (.own ds)) u N R) : SG J K Γ (tSeq (tAsg te (gName i)) u) N R := sg_seq (N' := fun Γ' => Γ' = Γ.set i (.own ds)) (sg_asgO h (lq_refl rfl)) fun _ e => e ▸ k
theorem sg_par {i j : Nat} {d e : PyData} (h : EA J K Γ tA [d, e]) (k : Lq N ((Γ.set i (.dat d)).set j (.dat e))) : SG J K Γ (tPar i j tA) N R := fun B O σ H D s n r =>
  h O σ H s.env _ fun vs H1 x1 r1 => by
    obtain ⟨Γ2, l, c⟩ := k
    obtain ⟨v, w, rfl, h1, h2⟩ := dpall2 r1
    have s1 := (s.mono x1).setD h1 i
    have e2 : Dp K (hide H1 (ows (σ.set i (some v)) (Γ.set i (.dat d)) ++ O)) w e := Dp.ex h2 (hide_sub (mem_app ((s.mono x1).env.setD h1 i).2))
    exact ⟨v, w, rfl, n Γ2 _ H1 c ((s1.setD e2 j).le l)⟩
/-- names as targets -/
inductive GN : TGs → List Nat → Prop
  | nil : GN gNil []
  | cons {i : Nat} {g : TGs} {is : List Nat} : GN g is → GN (gCons (gName i) g) (i :: is)
def setAll (Γ : List Sl) : List Nat → List PyData → List Sl
  | i :: is, d :: ds => setAll (Γ.set i (.dat d)) is ds
  | _, _ => Γ
theorem gn_run {B : Hp} {Q : L2.St → Hp → Prop} {g : TGs} {is : List Nat} (hg : GN g is) : ∀ {σ : L2.St} {Γ : List Sl} {vs : List V} {ds : List PyData}, Sb J K B O H σ Γ → DpAll K (hide H (ows σ Γ ++ O)) vs ds → ds.length = is.length → (∀ σ', Sb J K B O H σ' (setAll Γ is ds) → Q σ' H) → g vs σ H Q := by
  induction hg with
  | nil =>
    intro σ Γ vs ds s h e k
    cases h with
    | nil => exact ⟨rfl, k σ s⟩
    | cons _ _ => cases e
  | @cons i g is hg ih =>
    intro σ Γ vs ds s h e k
    cases h with
    | nil => cases e
    | @cons v vs d ds h1 h2 =>
      exact ⟨v, vs, rfl, ih (s.setD h1 i) (DpAll.ex h2 (hide_sub (mem_app (s.env.setD h1 i).2))) (by simpa using e) k⟩
theorem sg_unp {n : Nat} {g : TGs} {is : List Nat} {ds : List PyData} (hg : GN g is) (h : ED J K Γ te (.tuple ds)) (hn : ds.length = n) (hl : ds.length = is.length) (k : Lq N (setAll Γ is ds)) : SG J K Γ (tAsg te (gTup K n g)) N R := fun B O σ H D s nx r =>
  h O σ H s.env _ fun v H1 x1 r1 => by
    obtain ⟨Γ2, l, c⟩ := k
    obtain ⟨a, vs, rfl, h1, h2⟩ := dp_tup r1
    exact ⟨a, vs, rfl, Evl.ex_t hide_le h1, by rw [h2.len]; exact hn, gn_run hg (s.mono x1) h2 hl fun σ' s' => nx Γ2 σ' H1 c (s'.le l)⟩
theorem qu {n : Nat} {g : TGs} {is : List Nat} {ds : List PyData} (hg : GN g is) (h : ED J K Γ te (.tuple ds)) (k : SG J K (setAll Γ is ds) u N R) (hn : ds.length = n := by rfl) (hl : ds.length = is.length := by rfl) : SG J K Γ (tSeq (tAsg te (gTup K n g)) u) N R :=
  sg_seq (N' := fun Γ' => Γ' = setAll Γ is ds) (sg_unp hg h hn hl (lq_refl rfl)) fun _ e => e ▸ k
/-- xs[i] = e, xs a list of one's own -/
theorem sg_put {i : Nat} {w : Option Addr} {ds : List PyData} {j : Nat} {d : PyData} (h : ED J K Γ te d) (ho : Γ[i]? = some (.ownP w ds)) (hi : ED J K Γ ta (.int (j : Int))) (hj : j < ds.length) (k : Lq N (Γ.set i (.ownP w (ds.set j d)))) : SG J K Γ (tAsg te (gSub (tVar i) ta rSetL)) N R := fun B O σ H D s n r =>
  h O σ H s.env _ fun v H1 x1 r1 => by
    obtain ⟨p, vs, e1, e2, e3, m⟩ := (s.mono x1).env.sl.getO ho
    refine ⟨_, e1, hi O σ H1 (s.mono x1).env _ fun w H2 x2 r2 => ?_⟩
    rw [dp_int r2]
    obtain ⟨Γ2, l, c⟩ := k
    have e4 := DpAll.ex e3 (hide_ex (O := ows σ Γ ++ O) x2)
    obtain ⟨b1, b2⟩ := ((s.mono x1).mono x2).env.put (DpAll.set (Dp.ex r1 (hide_ex x2)) j e4) ho e1
    refine ⟨p, vs, j, j, rfl, rfl, x2 _ _ e2, Evl.ixN_nat (by rw [e3.len]; exact hj), ?_⟩
    refine n Γ2 _ _ c (Sb.le ⟨b1, fun a o z => ?_, by rw [b2]; exact s.new⟩ l)
    rw [upd_ne fun y => by rw [y, s.new p m] at z; cases z]
    exact x2 _ _ (x1 _ _ (s.ex a o z))
/-- xs.append(e) -/
theorem sg_app {i : Nat} {w : Option Addr} {ds : List PyData} {d : PyData} (ho : Γ[i]? = some (.ownP w ds)) (h : ED J K Γ te d) (hl : ds.length < 100000) (k : Lq N (Γ.set i (.ownP w (ds ++ [d])))) : SG J K Γ (tDrop (tBM K "list" rAppend (tVar i) (tCons te tNil))) N R := fun B O σ H D s n r => by
  obtain ⟨p, vs, e1, e2, e3, m⟩ := s.env.sl.getO ho
  refine ⟨_, e1, .inl ⟨rfl, vs, SqL.of e2⟩, h O σ H s.env _ fun v H1 x1 r1 => ?_⟩
  obtain ⟨Γ2, l, c⟩ := k
  have e4 := DpAll.ex e3 (hide_ex (O := ows σ Γ ++ O) x1)
  obtain ⟨b1, b2⟩ := (s.mono x1).env.put (DpAll.append e4 (.cons r1 .nil)) ho e1
  refine ⟨p, vs, v, rfl, rfl, x1 _ _ e2, by rw [e3.len]; exact Evl.sz_lt hl, ?_⟩
  refine n Γ2 _ _ c (Sb.le ⟨b1, fun a o z => ?_, by rw [b2]; exact s.new⟩ l)
  rw [upd_ne fun y => by rw [y, s.new p m] at z; cases z]
  exact x1 _ _ (s.ex a o z)
theorem sg_drop {r : Rs} (h : EG J K Γ te r) (k : Lq N Γ) : SG J K Γ (tDrop te) N R := fun B O σ H D s n rr => h O σ H s.env _ fun v H1 x1 r1 => by
  obtain ⟨Γ2, l, c⟩ := k
  exact n Γ2 σ H1 c ((s.mono x1).le l)
/-! ### ends, ways -/
theorem rd_out {r : Rs} {v : V} (h : RD K B H' (ows σ Γ ++ O) v r) : RD K B H' O v r := by
  cases r with
  | raw p => exact p.sub (fun a ha => List.mem_append_right _ ha) h
  | dat d => exact Dp.ex h (hide_sub fun a ha => List.mem_append_right _ ha)
  | own ds =>
    obtain ⟨p, vs, a, b, c, d⟩ := h
    exact ⟨p, vs, a, b, c, DpAll.ex d (hide_sub fun a ha => (List.mem_cons.mp ha).elim (fun z => by rw [z]; exact List.mem_cons_self ..) fun z => List.mem_cons_of_mem _ (List.mem_append_right _ z))⟩
theorem sg_ret {r : Rs} (h : EG J K Γ te r) (k : R Γ r) : SG J K Γ (tRet te) N R := fun B O σ H D s n rr => h O σ H s.env _ fun v H1 x1 r1 => rr v H1 σ Γ r k (s.mono x1) (rd_back s.ex r1)
/-- a list of one's own is handed back -/
theorem sg_retO {i : Nat} {w : Option Addr} {ds : List PyData} (h : Γ[i]? = some (.ownP w ds)) (k : R Γ (.own ds)) : SG J K Γ (tRet (tVar i)) N R := fun B O σ H D s n rr => by
  obtain ⟨p, vs, e1, e2, e3, m⟩ := s.env.sl.getO h
  refine ⟨_, e1, rr _ H σ Γ _ k s ⟨p, vs, rfl, s.new p m, e2, DpAll.ex e3 (hide_sub fun a ha => ?_)⟩⟩
  rcases List.mem_cons.mp ha with rfl | ha
  · exact List.mem_append_left _ m
  · exact ha
theorem sg_if {tt : TT} {b : Bool} (h : EB J K Γ tt b) (h1 : b = true → SG J K Γ t N R) (h2 : b = false → SG J K Γ u N R) : SG J K Γ (tIfS tt t u) N R := fun B O σ H D s n r => h O σ H s.env _ fun H1 x1 => by
  cases b with
  | true => exact h1 rfl B O σ H1 D (s.mono x1) n r
  | false => exact h2 rfl B O σ H1 D (s.mono x1) n r
/-- an if that is not taken -/
theorem q0 {tt : TT} {w : TS} (h : EB J K Γ tt false) (k : SG J K Γ u N R) : SG J K Γ (tSeq (tIfS tt w tNext) u) N R := sg_seq (N' := fun Γ' => Γ' = Γ) (sg_if h (fun z => by cases z) fun _ => sg_next (lq_refl rfl)) fun _ e => e ▸ k
/-- one that is taken, and leaves -/
theorem q1 {tt : TT} {w z : TS} (h : EB J K Γ tt true) (k : SG J K Γ w (fun _ => False) R) : SG J K Γ (tSeq (tIfS tt w z) u) N R := sg_seq (N' := fun _ => False) (sg_if h (fun _ => k) fun z => by cases z) fun _ e => e.elim
/-- one that may be taken, and then leaves -/
theorem q2 {tt : TT} {w : TS} {b : Bool} (h : EB J K Γ tt b) (k1 : b = true → SG J K Γ w (fun _ => False) R) (k2 : b = false → SG J K Γ u N R) : SG J K Γ (tSeq (tIfS tt w tNext) u) N R := by
  cases b with
  | true => exact q1 h (k1 rfl)
  | false => exact q0 h (k2 rfl)
/-! ### loops -/
/-- over a list that is a datum -/
theorem sg_forL {j : Nat} {ds : List PyData} (I : Nat → List Sl → Prop) (h : ED J K Γ tl (.list ds)) (h0 : Lq (I 0) Γ) (hs : ∀ i d Γ', ds[i]? = some d → I i Γ' → SG J K (Γ'.set j (.dat d)) t (Lq (I (i + 1))) R) (hd : ∀ Γ', I ds.length Γ' → Lq N Γ') : SG J K Γ (tFor (iList K tl) (gName j) t) N R := fun B O σ H D s n r =>
  h O σ H s.env _ fun v H1 x1 r1 => by
    obtain ⟨p, vs, rfl, a1, a2⟩ := dp_lst r1
    have s1 := s.mono x1
    have hp : SqL K (lift H1 σ Γ) p vs := Evl.ex_l (by unfold lift; exact hide_sub fun a ha => List.mem_append_left _ ha) a1
    refine ⟨p, rfl, ⟨vs, Evl.ex_l hide_le a1⟩, for_list (xs := vs) (fun i σ' H' => ∃ Γ', I i Γ' ∧ Sb J K (lift H1 σ Γ) O H' σ' Γ') ?_ (fun i σ' H' _ q => ?_) (fun i x σ' H' hx q => ?_) (fun σ' H' q => ?_)⟩
    · obtain ⟨Γ0, l, c⟩ := h0
      exact ⟨Γ0, c, s1.up.le l⟩
    · obtain ⟨Γ', _, s'⟩ := q
      exact Evl.ex_l s'.ex hp
    · obtain ⟨Γ', c, s'⟩ := q
      obtain ⟨d, e1, e2⟩ := a2.get' hx
      refine hs i d Γ' e1 c (lift H1 σ Γ) O _ H' _ (s'.setD (Dp.ex e2 s'.keep) j) (fun Γ2 σ2 H2 ⟨Γ3, l, c2⟩ s2 => ⟨Γ3, c2, s2.le l⟩) fun v H2 σ2 Γ2 r2 hr s2 rd => ?_
      exact r v H2 σ2 Γ2 r2 hr (s2.base s1.lifted) (rd_back s1.lifted rd)
    · obtain ⟨Γ', c, s'⟩ := q
      rw [a2.len] at c
      obtain ⟨Γ2, l, c2⟩ := hd Γ' c
      exact n Γ2 σ' H' c2 ((s'.base s1.lifted).le l)
/-- over a tuple -/
theorem sg_forT {j : Nat} {ds : List PyData} (I : Nat → List Sl → Prop) (h : ED J K Γ tl (.tuple ds)) (h0 : Lq (I 0) Γ) (hs : ∀ i d Γ', ds[i]? = some d → I i Γ' → SG J K (Γ'.set j (.dat d)) t (Lq (I (i + 1))) R) (hd : ∀ Γ', I ds.length Γ' → Lq N Γ') : SG J K Γ (tFor (iTup K tl) (gName j) t) N R := fun B O σ H D s n r =>
  h O σ H s.env _ fun v H1 x1 r1 => by
    obtain ⟨p, vs, rfl, a1, a2⟩ := dp_tup r1
    have s1 := s.mono x1
    have hp : SqT K (lift H1 σ Γ) p vs := Evl.ex_t (by unfold lift; exact hide_sub fun a ha => List.mem_append_left _ ha) a1
    refine ⟨p, rfl, ⟨vs, Evl.ex_t hide_le a1⟩, for_tup (xs := vs) (fun i σ' H' => ∃ Γ', I i Γ' ∧ Sb J K (lift H1 σ Γ) O H' σ' Γ') ?_ (fun i σ' H' _ q => ?_) (fun i x σ' H' hx q => ?_) (fun σ' H' q => ?_)⟩
    · obtain ⟨Γ0, l, c⟩ := h0
      exact ⟨Γ0, c, s1.up.le l⟩
    · obtain ⟨Γ', _, s'⟩ := q
      exact Evl.ex_t s'.ex hp
    · obtain ⟨Γ', c, s'⟩ := q
      obtain ⟨d, e1, e2⟩ := a2.get' hx
      refine hs i d Γ' e1 c (lift H1 σ Γ) O _ H' _ (s'.setD (Dp.ex e2 s'.keep) j) (fun Γ2 σ2 H2 ⟨Γ3, l, c2⟩ s2 => ⟨Γ3, c2, s2.le l⟩) fun v H2 σ2 Γ2 r2 hr s2 rd => ?_
      exact r v H2 σ2 Γ2 r2 hr (s2.base s1.lifted) (rd_back s1.lifted rd)
    · obtain ⟨Γ', c, s'⟩ := q
      rw [a2.len] at c
      obtain ⟨Γ2, l, c2⟩ := hd Γ' c
      exact n Γ2 σ' H' c2 ((s'.base s1.lifted).le l)
/-- over range(n) -/
theorem sg_forR {j : Nat} {n : Nat} (I : Nat → List Sl → Prop) (h : EA J K Γ tA [.int (n : Int)]) (hn : n ≤ 100000) (h0 : Lq (I 0) Γ) (hs : ∀ i Γ', i < n → I i Γ' → SG J K (Γ'.set j (.dat (.int (i : Int)))) t (Lq (I (i + 1))) R) (hd : ∀ Γ', I n Γ' → Lq N Γ') : SG J K Γ (tFor (iRng1 tA) (gName j) t) N R := fun B O σ H D s nx r =>
  h O σ H s.env _ fun us H1 x1 r1 => by
    obtain ⟨v, rfl, h1⟩ := dpall1 r1
    rw [dp_int h1]
    refine ⟨n, rfl, by omega, by omega, ?_⟩
    rw [Int.toNat_natCast]
    refine for_range (lo := 0) (n := n) (fun i σ' H' => ∃ Γ', I i Γ' ∧ Sb J K B O H' σ' Γ') ?_ (fun i σ' H' hi q => ?_) (fun σ' H' q => ?_)
    · obtain ⟨Γ0, l, c⟩ := h0
      exact ⟨Γ0, c, (s.mono x1).le l⟩
    · obtain ⟨Γ', c, s'⟩ := q
      have e0 : (0 : Int) + (i : Int) = (i : Int) := Int.zero_add _
      rw [e0]
      exact hs i Γ' hi c B O _ H' _ (s'.setD (.int _) j) (fun Γ2 σ2 H2 ⟨Γ3, l, c2⟩ s2 => ⟨Γ3, c2, s2.le l⟩) r
    · obtain ⟨Γ', c, s'⟩ := q
      obtain ⟨Γ2, l, c2⟩ := hd Γ' c
      exact nx Γ2 σ' H' c2 (s'.le l)
/-- over range(lo, lo + n) -/
theorem sg_forR2 {j : Nat} {lo hi n : Nat} (I : Nat → List Sl → Prop) (h : EA J K Γ tA [.int (lo : Int), .int (hi : Int)]) (hn : n = hi - lo) (hb : lo ≤ 100000 ∧ hi ≤ 100000) (h0 : Lq (I 0) Γ) (hs : ∀ i Γ', i < n → I i Γ' → SG J K (Γ'.set j (.dat (.int ((lo + i : Nat) : Int)))) t (Lq (I (i + 1))) R) (hd : ∀ Γ', I n Γ' → Lq N Γ') :
    SG J K Γ (tFor (iRng2 tA) (gName j) t) N R := fun B O σ H D s nx r =>
  h O σ H s.env _ fun us H1 x1 r1 => by
    obtain ⟨v, w, rfl, h1, h2⟩ := dpall2 r1
    rw [dp_int h1, dp_int h2]
    refine ⟨lo, hi, rfl, ⟨by omega, by omega, by omega, by omega⟩, ?_⟩
    have e : ((hi : Int) - (lo : Int)).toNat = n := by omega
    rw [e]
    refine for_range (lo := lo) (n := n) (fun i σ' H' => ∃ Γ', I i Γ' ∧ Sb J K B O H' σ' Γ') ?_ (fun i σ' H' hi q => ?_) (fun σ' H' q => ?_)
    · obtain ⟨Γ0, l, c⟩ := h0
      exact ⟨Γ0, c, (s.mono x1).le l⟩
    · obtain ⟨Γ', c, s'⟩ := q
      have e0 : (lo : Int) + (i : Int) = ((lo + i : Nat) : Int) := by omega
      rw [e0]
      exact hs i Γ' hi c B O _ H' _ (s'.setD (.int _) j) (fun Γ2 σ2 H2 ⟨Γ3, l, c2⟩ s2 => ⟨Γ3, c2, s2.le l⟩) r
    · obtain ⟨Γ', c, s'⟩ := q
      obtain ⟨Γ2, l, c2⟩ := hd Γ' c
      exact nx Γ2 σ' H' c2 (s'.le l)
/-- while -/
theorem sg_while {tt : TT} (I : Nat → List Sl → Prop) (m0 : Nat) (h0 : Lq (I m0) Γ) (hs : ∀ m Γ', I m Γ' → ∃ b, EB J K Γ' tt b ∧ (b = true → SG J K Γ' t (Lq fun Γ2 => ∃ m', m' < m ∧ I m' Γ2) R) ∧ (b = false → Lq N Γ')) : SG J K Γ (tWhile tt t) N R := fun B O σ H D s n r => by
  refine ⟨fun m σ' H' => ∃ Γ', I m Γ' ∧ Sb J K B O H' σ' Γ', ⟨m0, ?_⟩, fun m σ' H' q => ?_⟩
  · obtain ⟨Γ0, l, c⟩ := h0
    exact ⟨Γ0, c, s.le l⟩
  · obtain ⟨Γ', c, s'⟩ := q
    obtain ⟨b, hb, h1, h2⟩ := hs m Γ' c
    refine hb O σ' H' s'.env _ fun H2 x2 => ?_
    cases b with
    | true =>
      refine ⟨fun σ2 H2 => ∃ m', m' < m ∧ ∃ Γ', I m' Γ' ∧ Sb J K B O H2 σ2 Γ', fun σ2 H2 ⟨m', lt, z⟩ => ⟨m', lt, z⟩, ?_⟩
      exact h1 rfl B O σ' H2 _ (s'.mono x2) (fun Γ2 σ2 H3 ⟨Γ3, l, m', lt, c2⟩ s2 => ⟨m', lt, Γ3, c2, s2.le l⟩) r
    | false =>
      obtain ⟨Γ2, l, c2⟩ := h2 rfl
      exact n Γ2 σ' H2 c2 ((s'.mono x2).le l)
/-- a new pair, unpacked -/
theorem pair_run {B : Hp} {Q : L2.St → Hp → Prop} {a b : Nat} {T : Addr} {x y : V} {d e : PyData} (s : Sb J K B O H σ Γ) (hT : H T = none) (hx : Dp K (hide H (ows σ Γ ++ O)) x d) (hy : Dp K (hide H (ows σ Γ ++ O)) y e)
    (k : ∀ σ', Sb J K B O (upd H T (.tup [x, y])) σ' ((Γ.set a (.dat d)).set b (.dat e)) → Q σ' (upd H T (.tup [x, y]))) : gTup K 2 (gCons (gName a) (gCons (gName b) gNil)) (.ref T) σ (upd H T (.tup [x, y])) Q := by
  have x1 : Ex H (upd H T (.tup [x, y])) := Evl.Ex.new hT
  refine ⟨T, [x, y], rfl, SqT.of upd_same, rfl, ?_⟩
  exact gn_run (.cons (.cons .nil)) (s.mono x1) (.cons (Dp.ex hx (hide_ex x1)) (.cons (Dp.ex hy (hide_ex x1)) .nil)) rfl k
/-- for i, x in enumerate(list) -/
theorem sg_forE {a b : Nat} {ds : List PyData} (I : Nat → List Sl → Prop) (h : ED J K Γ tl (.list ds)) (h0 : Lq (I 0) Γ) (hs : ∀ i d Γ', ds[i]? = some d → I i Γ' → SG J K ((Γ'.set a (.dat (.int (i : Int)))).set b (.dat d)) t (Lq (I (i + 1))) R) (hd : ∀ Γ', I ds.length Γ' → Lq N Γ') :
    SG J K Γ (tFor (iEnum K (tCons tl tNil)) (gTup K 2 (gCons (gName a) (gCons (gName b) gNil))) t) N R := fun B O σ H D s n r =>
  h O σ H s.env _ fun v H1 x1 r1 => by
    obtain ⟨p, vs, rfl, a1, a2⟩ := dp_lst r1
    have s1 := s.mono x1
    have hp : SqL K (lift H1 σ Γ) p vs := Evl.ex_l (by unfold lift; exact hide_sub fun a ha => List.mem_append_left _ ha) a1
    refine ⟨p, vs, rfl, Evl.ex_l hide_le a1, fun i m σ' H' => m = vs.length - i ∧ i ≤ vs.length ∧ ∃ Γ', I i Γ' ∧ Sb J K (lift H1 σ Γ) O H' σ' Γ', ⟨vs.length, by simp, Nat.zero_le _, ?_⟩, fun i m σ' H' q => ?_⟩
    · obtain ⟨Γ0, l, c⟩ := h0
      exact ⟨Γ0, c, s1.up.le l⟩
    · obtain ⟨rfl, hi, Γ', c, s'⟩ := q
      have hpl := Evl.ex_l s'.ex hp
      by_cases hlt : i < vs.length
      · refine .inr ⟨⟨vs, _, hpl, List.getElem?_eq_getElem hlt⟩, fun σ2 H2 => ∃ Γ', I (i + 1) Γ' ∧ Sb J K (lift H1 σ Γ) O H2 σ2 Γ', fun σ2 H2 z => ⟨vs.length - (i + 1), by omega, rfl, hlt, z⟩, fun x H2 y => ?_⟩
        obtain ⟨T, x, rfl, hT, rfl, f⟩ := y
        obtain ⟨d, e1, e2⟩ := a2.get' (f vs hpl)
        refine pair_run s' hT (.int _) (Dp.ex e2 s'.keep) fun σ3 s3 => ?_
        refine hs i d Γ' e1 c (lift H1 σ Γ) O _ _ _ s3 (fun Γ2 σ2 H2 ⟨Γ3, l, c2⟩ s2 => ⟨Γ3, c2, s2.le l⟩) fun v H2 σ2 Γ2 r2 hr s2 rd => ?_
        exact r v H2 σ2 Γ2 r2 hr (s2.base s1.lifted) (rd_back s1.lifted rd)
      · have e : i = vs.length := by omega
        refine .inl ⟨⟨vs, hpl, by omega⟩, ?_⟩
        rw [e, a2.len] at c
        obtain ⟨Γ2, l, c2⟩ := hd Γ' c
        exact n Γ2 σ' H' c2 ((s'.base s1.lifted).le l)
end
end NwB
end NwSt_
section NwCo_
set_option Elab.async false
set_option linter.all false
set_option maxRecDepth 100000
set_option maxHeartbeats 4000000
namespace NwB
open PySem PySem.Spec PyProof.Rows L2
open Evl (Ex)

/-! ### comprehensions -/
section
variable {J : Ji} {K : PySem.W.Frag} {H H1 H' : Hp} {O : List Addr} {σ : L2.St} {Γ : List Sl}
theorem ows_set_un {v : Option V} {d : PyData} : ∀ {σ : L2.St} {Γ : List Sl} {j : Nat}, Γ[j]? = some .un → ows (σ.set j v) (Γ.set j (.dat d)) = ows σ Γ
  | [], [], j, h => by simp at h
  | [], s :: Γ, j, h => by cases j <;> rfl
  | x :: σ, [], j, h => by simp at h
  | x :: σ, s :: Γ, 0, h => by
    cases (show some s = some Sl.un from h)
    show ows (v :: σ) (.dat d :: Γ) = ows (x :: σ) (.un :: Γ)
    rw [ows_dat, ows_un]
  | x :: σ, s :: Γ, j + 1, h => by
    show ownAt x s ++ ows (σ.set j v) (Γ.set j (.dat d)) = ownAt x s ++ ows σ Γ
    rw [ows_set_un (j := j) h]
theorem ows_set_none : ∀ {σ : L2.St} {Γ : List Sl} {j : Nat}, Γ[j]? = some .un → ows (σ.set j none) Γ = ows σ Γ
  | [], [], j, h => by simp at h
  | [], s :: Γ, j, h => by cases j <;> rfl
  | x :: σ, [], j, h => by simp at h
  | x :: σ, s :: Γ, 0, h => by
    cases (show some s = some Sl.un from h)
    show ows (none :: σ) (.un :: Γ) = ows (x :: σ) (.un :: Γ)
    rw [ows_un, ows_un]
  | x :: σ, s :: Γ, j + 1, h => by
    show ownAt x s ++ ows (σ.set j none) Γ = ownAt x s ++ ows σ Γ
    rw [ows_set_none (j := j) h]
theorem EnvL.set_none (h : EnvL K H O σ Γ) : ∀ {j : Nat}, Γ[j]? = some .un → EnvL K H O (σ.set j none) Γ := by
  induction h with
  | nil => intro j e; simp at e
  | un h ih =>
    intro j e
    cases j with
    | zero => exact .un h
    | succ j => exact .un (ih (j := j) e)
  | dat hx h ih =>
    intro j e
    cases j with
    | zero => cases (show some (Sl.dat _) = some _ from e)
    | succ j => exact .dat hx (ih (j := j) e)
  | is h ih =>
    intro j e
    cases j with
    | zero => cases (show some (Sl.is _) = some _ from e)
    | succ j => exact .is (ih (j := j) e)
  | own h0 h1 h2 h3 h ih =>
    intro j e
    cases j with
    | zero => cases (show some (Sl.ownP _ _) = some _ from e)
    | succ j => exact .own h0 h1 h2 (by rw [ows_set_none (j := j) e]; exact h3) (ih (j := j) e)
theorem env_wipe {vs : List Nat} (hv : ∀ j ∈ vs, Γ[j]? = some .un) (h : Env J K O H σ Γ) : Env J K O H (wipe σ vs) Γ ∧ ows (wipe σ vs) Γ = ows σ Γ := by
  induction vs with
  | nil => exact ⟨h, rfl⟩
  | cons j vs ih =>
    obtain ⟨a, b⟩ := ih fun i hi => hv i (List.mem_cons_of_mem _ hi)
    have hj := hv j (List.mem_cons_self ..)
    have e : ows ((wipe σ vs).set j none) Γ = ows σ Γ := (ows_set_none hj).trans b
    refine ⟨⟨?_, ?_, a.all, a.foot, by show J.val (ows ((wipe σ vs).set j none) Γ ++ O) H; rw [e, ← b]; exact a.inv⟩, e⟩
    · show EnvL K H (ows ((wipe σ vs).set j none) Γ ++ O) ((wipe σ vs).set j none) Γ
      rw [e, ← b]
      exact a.sl.set_none hj
    · show ∀ p ∈ ows ((wipe σ vs).set j none) Γ, p ∉ O
      rw [e, ← b]
      exact a.dis
theorem wipe_get {vs : List Nat} {i : Nat} (hi : i < σ.length) : (wipe σ vs)[i]? = if i ∈ vs then some none else σ[i]? := by
  induction vs with
  | nil => simp [wipe]
  | cons j vs ih =>
    show ((wipe σ vs).set j none)[i]? = _
    rw [List.getElem?_set]
    by_cases e : j = i
    · subst e
      rw [if_pos rfl, if_pos (by rw [wipe_length]; exact hi), if_pos (List.mem_cons_self ..)]
    · rw [if_neg e, ih]
      by_cases m : i ∈ vs
      · rw [if_pos m, if_pos (List.mem_cons_of_mem _ m)]
      · rw [if_neg m, if_neg fun z => (List.mem_cons.mp z).elim (fun y => e y.symm) m]
theorem wipe_set {vs : List Nat} {j : Nat} {x : Option V} (hj : j ∈ vs) (τ : L2.St) (hτ : τ.length = σ.length) (h : ∀ i, i < σ.length → i ∉ vs → τ[i]? = σ[i]?) : wipe (τ.set j x) vs = wipe σ vs := by
  refine List.ext_getElem? fun i => ?_
  by_cases hi : i < σ.length
  · rw [wipe_get (by rw [List.length_set, hτ]; exact hi), wipe_get hi]
    by_cases m : i ∈ vs
    · rw [if_pos m, if_pos m]
    · rw [if_neg m, if_neg m, List.getElem?_set, if_neg fun z => m (by rw [← z]; exact hj), h i hi m]
  · rw [List.getElem?_eq_none (by rw [wipe_length, List.length_set, hτ]; omega), List.getElem?_eq_none (by rw [wipe_length]; omega)]
theorem wipe_off {vs : List Nat} {i : Nat} (hi : i < σ.length) (h : i ∉ vs) : (wipe σ vs)[i]? = σ[i]? := by rw [wipe_get hi, if_neg h]
/-- the new list at D holds what is told so far -/
def Cv (K : PySem.W.Frag) (H1 : Hp) (W : List Addr) (D : Addr) (res : List PyData) (H' : Hp) : Prop := ∃ acc, H' D = some (.lst acc) ∧ DpAll K (hide H' (D :: W)) acc res ∧ Ex H1 H'
theorem cv_env {D : Addr} {res : List PyData} {W : List Addr} (h : Env J K O H1 σ Γ) (hD : H1 D = none) (c : Cv K H1 W D res H') : Env J K (D :: O) H' σ Γ := by
  obtain ⟨acc, c1, c2, c3⟩ := c
  have nD : ∀ p ∈ ows σ Γ, p ≠ D := fun p hp z => h.there p (List.mem_append_left _ hp) (by rw [z]; exact hD)
  have key : ∀ a ∈ ows σ Γ ++ D :: O, a ∈ D :: (ows σ Γ ++ O) := fun a ha => by
    rcases List.mem_append.mp ha with ha | ha
    · exact List.mem_cons_of_mem _ (List.mem_append_left _ ha)
    · rcases List.mem_cons.mp ha with rfl | ha
      · exact List.mem_cons_self ..
      · exact List.mem_cons_of_mem _ (List.mem_append_right _ ha)
  refine ⟨((h.sl.hidden hD).mono c3).sub key, fun p hp z => ?_, fun p hp => ?_, fun a ha => List.mem_cons_of_mem _ (h.foot a ha), J.sub key (fun a ha => List.mem_append_right _ (List.mem_cons_of_mem _ (h.foot a ha))) (J.ex c3 (J.new hD h.inv))⟩
  · rcases List.mem_cons.mp z with z | z
    · exact nD p hp z
    · exact h.dis p hp z
  · rcases List.mem_cons.mp hp with rfl | hp
    · rw [c1]
      simp
    · exact (h.mono c3).all p hp
theorem cv_turn {D : Addr} {res : List PyData} {σ2 : L2.St} {Γ2 : List Sl} {tt : TT} {te : TE} {b : Bool} {d : PyData} {W : List Addr} (eW : ∀ a, a ∈ D :: W ↔ a ∈ ows σ2 Γ2 ++ D :: O) (s : Env J K (D :: O) H' σ2 Γ2) (hD : H1 D = none) (c : Cv K H1 W D res H') (hl : res.length < 50000)
    (hb : EB J K Γ2 tt b) (he : b = true → ED J K Γ2 te d) :
    tt σ2 H' fun b' H3 => if b' = true then te σ2 H3 fun y H4 => ∃ acc, H4 D = some (.lst acc) ∧ acc.length < sizeLine ∧ Cv K H1 W D (res ++ (if b then [d] else [])) (upd H4 D (.lst (acc ++ [y]))) else Cv K H1 W D (res ++ (if b then [d] else [])) H3 := by
  obtain ⟨acc, c1, c2, c3⟩ := c
  refine hb (D :: O) σ2 H' s _ fun H3 x3 => ?_
  cases b with
  | true =>
    show te σ2 H3 _
    refine he rfl (D :: O) σ2 H3 (s.mono x3) _ fun y H4 x4 r4 => ⟨acc, x4 _ _ (x3 _ _ c1), by rw [c2.len]; exact Evl.sz_lt (by omega), acc ++ [y], upd_same, ?_, ?_⟩
    · rw [hide_upd (List.mem_cons_self ..)]
      refine DpAll.append (DpAll.ex c2 (hide_ex (x3.trans x4))) (.cons ?_ .nil)
      rw [hide_cong eW]
      exact r4
    · exact Evl.Ex.mut ((c3.trans x3).trans x4) hD
  | false =>
    show Cv K H1 W D (res ++ []) H3
    rw [List.append_nil]
    exact ⟨acc, x3 _ _ c1, DpAll.ex c2 (hide_ex x3), c3.trans x3⟩
theorem eW_of {D : Addr} {A W' : List Addr} (e : W' = A) : ∀ a, a ∈ D :: (A ++ O) ↔ a ∈ W' ++ D :: O := fun a => by
  rw [e]
  simp only [List.mem_cons, List.mem_append]
  constructor
  · rintro (h | h | h)
    · exact .inr (.inl h)
    · exact .inl h
    · exact .inr (.inr h)
  · rintro (h | h | h)
    · exact .inr (.inl h)
    · exact .inl h
    · exact .inr (.inr h)
/-- what is told: which turns, and what -/
def told (n : Nat) (b : Nat → Bool) (f : Nat → PyData) : List PyData := ((List.range n).filter b).map f
theorem told_succ {n : Nat} {b : Nat → Bool} {f : Nat → PyData} : told (n + 1) b f = told n b f ++ (if b n then [f n] else []) := by
  unfold told
  rw [List.range_succ, List.filter_append, List.map_append, List.filter_cons]
  cases b n <;> rfl
theorem told_len {n : Nat} {b : Nat → Bool} {f : Nat → PyData} : (told n b f).length ≤ n := by
  unfold told
  rw [List.length_map]
  have h := List.length_filter_le b (List.range n)
  rw [List.length_range] at h
  exact h
theorem told_all {n : Nat} {f : Nat → PyData} : told n (fun _ => true) f = (List.range n).map f := by
  unfold told
  rw [List.filter_eq_self.mpr fun _ _ => rfl]
theorem cv_done {D : Addr} {res : List PyData} {Q : VK} (hD : H1 D = none) (hx : Ex H H1) (c : Cv K H1 (ows σ Γ ++ O) D res H') (q : ∀ v H2, Ex H H2 → RD K H H2 (ows σ Γ ++ O) v (.own res) → Q v H2) : Q (.ref D) H' := by
  obtain ⟨acc, c1, c2, c3⟩ := c
  exact q _ H' (hx.trans c3) ⟨D, acc, rfl, Evl.fresh_back hx hD, c1, c2⟩
theorem cv_start {D : Addr} {W : List Addr} (hD : H1 D = none) : Cv K H1 W D [] (upd H1 D (.lst [])) := ⟨[], upd_same, .nil, Evl.Ex.new hD⟩
variable {tl te : TE} {tt : TT} {tA : TA}
/-- over a list that is a datum -/
theorem lc_L {j : Nat} {vs : List Nat} {ds : List PyData} (b : Nat → Bool) (f : Nat → PyData) (hv : ∀ i ∈ vs, Γ[i]? = some .un) (hj : j ∈ vs) (hl : ED J K Γ tl (.list ds)) (hz : ds.length ≤ 40000)
    (ht : ∀ i d, ds[i]? = some d → EB J K (Γ.set j (.dat d)) tt (b i)) (he : ∀ i d, ds[i]? = some d → b i = true → ED J K (Γ.set j (.dat d)) te (f i)) : EG J K Γ (tLc (iList K tl) (gName j) tt te vs) (.own (told ds.length b f)) := fun O σ H e Q q =>
  hl O σ H e _ fun v H1 x1 r1 => by
    obtain ⟨p, ws, rfl, a1, a2⟩ := dp_lst r1
    refine ⟨p, rfl, ⟨ws, Evl.ex_l hide_le a1⟩, fun D hD => ?_⟩
    have e1 := e.mono x1
    obtain ⟨w1, w2⟩ := env_wipe hv e1
    refine lc_list (xs := ws) (fun i H' => Cv K H1 (ows σ Γ ++ O) D (told i b f) H') (cv_start hD) (fun i H' _ c => Evl.ex_l c.choose_spec.2.2 (Evl.ex_l hide_le a1)) (fun i x H' hx c => ?_) (fun H' c => ?_)
    · obtain ⟨d, d1, d2⟩ := a2.get' hx
      have c3 := c.choose_spec.2.2
      have s := cv_env w1 hD c
      have hdx : Dp K (hide H' (ows (wipe σ vs) Γ ++ D :: O)) x d := by
        have h1 : Dp K (hide H1 (D :: (ows σ Γ ++ O))) x d := by rw [hide_new hD]; exact d2
        rw [hide_cong (fun a => (eW_of w2 a).symm)]
        exact Dp.ex h1 (hide_ex c3)
      obtain ⟨s2, _⟩ := s.setD hdx j
      have hu := ows_set_un (σ := wipe σ vs) (v := some x) (d := d) (hv j hj)
      refine ⟨wipe_set hj _ (wipe_length σ vs) fun i hi hn => wipe_off hi hn, ?_⟩
      rw [told_succ]
      exact cv_turn (eW_of (hu.trans w2)) s2 hD c (by have := told_len (n := i) (b := b) (f := f); have := (List.getElem?_eq_some_iff.mp hx).1; rw [a2.len] at this; omega) (ht i d d1) (he i d d1)
    · rw [a2.len] at c
      exact cv_done hD x1 c q
/-- over a tuple -/
theorem lc_T {j : Nat} {vs : List Nat} {ds : List PyData} (b : Nat → Bool) (f : Nat → PyData) (hv : ∀ i ∈ vs, Γ[i]? = some .un) (hj : j ∈ vs) (hl : ED J K Γ tl (.tuple ds)) (hz : ds.length ≤ 40000)
    (ht : ∀ i d, ds[i]? = some d → EB J K (Γ.set j (.dat d)) tt (b i)) (he : ∀ i d, ds[i]? = some d → b i = true → ED J K (Γ.set j (.dat d)) te (f i)) : EG J K Γ (tLc (iTup K tl) (gName j) tt te vs) (.own (told ds.length b f)) := fun O σ H e Q q =>
  hl O σ H e _ fun v H1 x1 r1 => by
    obtain ⟨p, ws, rfl, a1, a2⟩ := dp_tup r1
    refine ⟨p, rfl, ⟨ws, Evl.ex_t hide_le a1⟩, fun D hD => ?_⟩
    have e1 := e.mono x1
    obtain ⟨w1, w2⟩ := env_wipe hv e1
    refine lc_tup (xs := ws) (fun i H' => Cv K H1 (ows σ Γ ++ O) D (told i b f) H') (cv_start hD) (fun i H' _ c => Evl.ex_t c.choose_spec.2.2 (Evl.ex_t hide_le a1)) (fun i x H' hx c => ?_) (fun H' c => ?_)
    · obtain ⟨d, d1, d2⟩ := a2.get' hx
      have c3 := c.choose_spec.2.2
      have s := cv_env w1 hD c
      have hdx : Dp K (hide H' (ows (wipe σ vs) Γ ++ D :: O)) x d := by
        have h1 : Dp K (hide H1 (D :: (ows σ Γ ++ O))) x d := by rw [hide_new hD]; exact d2
        rw [hide_cong (fun a => (eW_of w2 a).symm)]
        exact Dp.ex h1 (hide_ex c3)
      obtain ⟨s2, _⟩ := s.setD hdx j
      have hu := ows_set_un (σ := wipe σ vs) (v := some x) (d := d) (hv j hj)
      refine ⟨wipe_set hj _ (wipe_length σ vs) fun i hi hn => wipe_off hi hn, ?_⟩
      rw [told_succ]
      exact cv_turn (eW_of (hu.trans w2)) s2 hD c (by have := told_len (n := i) (b := b) (f := f); have := (List.getElem?_eq_some_iff.mp hx).1; rw [a2.len] at this; omega) (ht i d d1) (he i d d1)
    · rw [a2.len] at c
      exact cv_done hD x1 c q
/-- over range(n) -/
theorem lc_R {j : Nat} {vs : List Nat} {n : Nat} (b : Nat → Bool) (f : Nat → PyData) (hv : ∀ i ∈ vs, Γ[i]? = some .un) (hj : j ∈ vs) (hl : EA J K Γ tA [.int (n : Int)]) (hz : n ≤ 40000)
    (ht : ∀ i : Nat, i < n → EB J K (Γ.set j (.dat (.int (i : Int)))) tt (b i)) (he : ∀ i : Nat, i < n → b i = true → ED J K (Γ.set j (.dat (.int (i : Int)))) te (f i)) : EG J K Γ (tLc (iRng1 tA) (gName j) tt te vs) (.own (told n b f)) := fun O σ H e Q q =>
  hl O σ H e _ fun us H1 x1 r1 => by
    obtain ⟨u, rfl, r2⟩ := dpall1 r1
    rw [dp_int r2]
    refine ⟨n, rfl, by omega, by omega, fun D hD => ?_⟩
    rw [Int.toNat_natCast]
    have e1 := e.mono x1
    obtain ⟨w1, w2⟩ := env_wipe hv e1
    refine lc_range (lo := 0) (n := n) (fun i H' => Cv K H1 (ows σ Γ ++ O) D (told i b f) H') (cv_start hD) (fun i H' hi c => ?_) (fun H' c => cv_done hD x1 c q)
    have e0 : (0 : Int) + (i : Int) = (i : Int) := Int.zero_add _
    rw [e0]
    have s := cv_env w1 hD c
    obtain ⟨s2, _⟩ := s.setD (.int (i : Int)) j
    have hu := ows_set_un (σ := wipe σ vs) (v := some (.int (i : Int))) (d := .int (i : Int)) (hv j hj)
    refine ⟨wipe_set hj _ (wipe_length σ vs) fun i hi hn => wipe_off hi hn, ?_⟩
    rw [told_succ]
    exact cv_turn (eW_of (hu.trans w2)) s2 hD c (by have := told_len (n := i) (b := b) (f := f); omega) (ht i hi) (he i hi)
/-- over range(lo, hi) -/
theorem lc_R2 {j : Nat} {vs : List Nat} {lo hi n : Nat} (b : Nat → Bool) (f : Nat → PyData) (hv : ∀ i ∈ vs, Γ[i]? = some .un) (hj : j ∈ vs) (hl : EA J K Γ tA [.int (lo : Int), .int (hi : Int)]) (hn : n = hi - lo) (hz : lo ≤ 40000 ∧ hi ≤ 40000)
    (ht : ∀ i : Nat, i < n → EB J K (Γ.set j (.dat (.int ((lo + i : Nat) : Int)))) tt (b i)) (he : ∀ i : Nat, i < n → b i = true → ED J K (Γ.set j (.dat (.int ((lo + i : Nat) : Int)))) te (f i)) : EG J K Γ (tLc (iRng2 tA) (gName j) tt te vs) (.own (told n b f)) := fun O σ H e Q q =>
  hl O σ H e _ fun us H1 x1 r1 => by
    obtain ⟨u, u2, rfl, r2, r3⟩ := dpall2 r1
    rw [dp_int r2, dp_int r3]
    refine ⟨lo, hi, rfl, ⟨by omega, by omega, by omega, by omega⟩, fun D hD => ?_⟩
    have ee : ((hi : Int) - (lo : Int)).toNat = n := by omega
    rw [ee]
    have e1 := e.mono x1
    obtain ⟨w1, w2⟩ := env_wipe hv e1
    refine lc_range (lo := lo) (n := n) (fun i H' => Cv K H1 (ows σ Γ ++ O) D (told i b f) H') (cv_start hD) (fun i H' hi c => ?_) (fun H' c => cv_done hD x1 c q)
    have e0 : (lo : Int) + (i : Int) = ((lo + i : Nat) : Int) := by omega
    rw [e0]
    have s := cv_env w1 hD c
    obtain ⟨s2, _⟩ := s.setD (.int ((lo + i : Nat) : Int)) j
    have hu := ows_set_un (σ := wipe σ vs) (v := some (.int ((lo + i : Nat) : Int))) (d := .int ((lo + i : Nat) : Int)) (hv j hj)
    refine ⟨wipe_set hj _ (wipe_length σ vs) fun i hi hn => wipe_off hi hn, ?_⟩
    rw [told_succ]
    exact cv_turn (eW_of (hu.trans w2)) s2 hD c (by have := told_len (n := i) (b := b) (f := f); omega) (ht i hi) (he i hi)
/-- two names for a new pair, within a block -/
theorem pair_blk {vs : List Nat} {a c : Nat} {D T : Addr} {x y : V} {d e' : PyData} {res : List PyData} {b : Bool} {g : PyData} (hv : ∀ i ∈ vs, Γ[i]? = some .un) (ha : a ∈ vs) (hc : c ∈ vs) (hac : a ≠ c) (w1 : Env J K O H1 (wipe σ vs) Γ) (w2 : ows (wipe σ vs) Γ = ows σ Γ) (hD : H1 D = none) (cv : Cv K H1 (ows σ Γ ++ O) D res H') (hT : H' T = none)
    (hx : Dp K (hide H' (ows (wipe σ vs) Γ ++ D :: O)) x d) (hy : Dp K (hide H' (ows (wipe σ vs) Γ ++ D :: O)) y e') (hl : res.length < 50000) (hb : EB J K ((Γ.set a (.dat d)).set c (.dat e')) tt b) (he : b = true → ED J K ((Γ.set a (.dat d)).set c (.dat e')) te g) :
    gTup K 2 (gCons (gName a) (gCons (gName c) gNil)) (.ref T) (wipe σ vs) (upd H' T (.tup [x, y])) fun σ2 H2 => wipe σ2 vs = wipe σ vs ∧ tt σ2 H2 fun b' H3 => if b' = true then te σ2 H3 fun y H4 => ∃ acc, H4 D = some (.lst acc) ∧ acc.length < sizeLine ∧ Cv K H1 (ows σ Γ ++ O) D (res ++ (if b then [g] else [])) (upd H4 D (.lst (acc ++ [y]))) else Cv K H1 (ows σ Γ ++ O) D (res ++ (if b then [g] else [])) H3 := by
  have x1 : Ex H' (upd H' T (.tup [x, y])) := Evl.Ex.new hT
  have cv2 : Cv K H1 (ows σ Γ ++ O) D res (upd H' T (.tup [x, y])) := by
    obtain ⟨acc, c1, c2, c3⟩ := cv
    exact ⟨acc, x1 _ _ c1, DpAll.ex c2 (hide_ex x1), c3.trans x1⟩
  have s := cv_env w1 hD cv2
  refine ⟨T, [x, y], rfl, SqT.of upd_same, rfl, x, [y], rfl, y, [], rfl, rfl, ?_⟩
  obtain ⟨s1, m1⟩ := s.setD (Dp.ex hx (hide_ex x1)) a
  have hu1 := ows_set_un (σ := wipe σ vs) (v := some x) (d := d) (hv a ha)
  obtain ⟨s2, _⟩ := s1.setD (v := y) (d := e') (by rw [hu1]; exact Dp.ex hy (hide_ex x1)) c
  have hu2 := ows_set_un (σ := (wipe σ vs).set a (some x)) (Γ := Γ.set a (.dat d)) (v := some y) (d := e') (j := c) (by rw [List.getElem?_set_ne hac]; exact hv c hc)
  refine ⟨?_, cv_turn (eW_of ((hu2.trans hu1).trans w2)) s2 hD cv2 hl hb he⟩
  refine wipe_set hc _ (by rw [List.length_set, wipe_length]) fun i hi hn => ?_
  rw [List.getElem?_set_ne fun z => hn (by rw [← z]; exact ha)]
  exact wipe_off hi hn
/-- for i, x in enumerate(list) -/
theorem lc_E {a c : Nat} {vs : List Nat} {ds : List PyData} (b : Nat → Bool) (f : Nat → PyData) (hv : ∀ i ∈ vs, Γ[i]? = some .un) (ha : a ∈ vs) (hc : c ∈ vs) (hac : a ≠ c) (hl : ED J K Γ tl (.list ds)) (hz : ds.length ≤ 40000)
    (ht : ∀ (i : Nat) d, ds[i]? = some d → EB J K ((Γ.set a (.dat (.int (i : Int)))).set c (.dat d)) tt (b i)) (he : ∀ (i : Nat) d, ds[i]? = some d → b i = true → ED J K ((Γ.set a (.dat (.int (i : Int)))).set c (.dat d)) te (f i)) :
    EG J K Γ (tLc (iEnum K (tCons tl tNil)) (gTup K 2 (gCons (gName a) (gCons (gName c) gNil))) tt te vs) (.own (told ds.length b f)) := fun O σ H e Q q =>
  hl O σ H e _ fun v H1 x1 r1 => by
    obtain ⟨p, ws, rfl, a1, a2⟩ := dp_lst r1
    refine ⟨p, ws, rfl, Evl.ex_l hide_le a1, fun D hD => ?_⟩
    have e1 := e.mono x1
    obtain ⟨w1, w2⟩ := env_wipe hv e1
    refine ⟨fun i m H' => m = ws.length - i ∧ i ≤ ws.length ∧ Cv K H1 (ows σ Γ ++ O) D (told i b f) H', ⟨ws.length, by simp, Nat.zero_le _, cv_start hD⟩, fun i m H' z => ?_⟩
    obtain ⟨rfl, hi, cv⟩ := z
    have c3 := cv.choose_spec.2.2
    have hpl : SqL K H' p ws := Evl.ex_l c3 (Evl.ex_l hide_le a1)
    by_cases hlt : i < ws.length
    · refine .inr ⟨⟨ws, _, hpl, List.getElem?_eq_getElem hlt⟩, fun H2 => Cv K H1 (ows σ Γ ++ O) D (told (i + 1) b f) H2, fun H2 z => ⟨ws.length - (i + 1), by omega, rfl, hlt, z⟩, fun x H2 y => ?_⟩
      obtain ⟨T, x, rfl, hT, rfl, fx⟩ := y
      obtain ⟨d, d1, d2⟩ := a2.get' (fx ws hpl)
      rw [told_succ]
      refine pair_blk hv ha hc hac w1 w2 hD cv hT (.int _) ?_ (by have := told_len (n := i) (b := b) (f := f); rw [a2.len] at hlt; omega) (ht i d d1) (he i d d1)
      have h1 : Dp K (hide H1 (D :: (ows σ Γ ++ O))) x d := by rw [hide_new hD]; exact d2
      rw [hide_cong (fun a => (eW_of w2 a).symm)]
      exact Dp.ex h1 (hide_ex c3)
    · have e : i = ws.length := by omega
      refine .inl ⟨⟨ws, hpl, by omega⟩, ?_⟩
      rw [e, a2.len] at cv
      exact cv_done hD x1 cv q
/-- for x, y in zip(list, list), of one length -/
theorem lc_Z {a c : Nat} {vs : List Nat} {ds es : List PyData} {tl2 : TE} (b : Nat → Bool) (f : Nat → PyData) (hv : ∀ i ∈ vs, Γ[i]? = some .un) (ha : a ∈ vs) (hc : c ∈ vs) (hac : a ≠ c) (hl : ED J K Γ tl (.list ds)) (hl2 : ED J K Γ tl2 (.list es)) (hde : ds.length = es.length) (hz : ds.length ≤ 40000)
    (ht : ∀ i d e, ds[i]? = some d → es[i]? = some e → EB J K ((Γ.set a (.dat d)).set c (.dat e)) tt (b i)) (he : ∀ i d e, ds[i]? = some d → es[i]? = some e → b i = true → ED J K ((Γ.set a (.dat d)).set c (.dat e)) te (f i)) :
    EG J K Γ (tLc (iZip K (tCons tl (tCons tl2 tNil))) (gTup K 2 (gCons (gName a) (gCons (gName c) gNil))) tt te vs) (.own (told ds.length b f)) := fun O σ H e Q q =>
  hl O σ H e _ fun v H0 x0 r0 => hl2 O σ H0 (e.mono x0) _ fun v2 H1 x01 r1 => by
    obtain ⟨p, ws, rfl, a0, a2⟩ := dp_lst r0
    obtain ⟨p2, us, rfl, b1, b2⟩ := dp_lst r1
    have x1 : Ex H H1 := x0.trans x01
    have a1 := Evl.ex_l (hide_ex (O := ows σ Γ ++ O) x01) a0
    have a2 := DpAll.ex a2 (hide_ex (O := ows σ Γ ++ O) x01)
    refine ⟨p, p2, ws, us, rfl, Evl.ex_l hide_le a1, Evl.ex_l hide_le b1, fun D hD => ?_⟩
    have e1 := e.mono x1
    obtain ⟨w1, w2⟩ := env_wipe hv e1
    have hlen : ws.length = us.length := by rw [a2.len, b2.len]; exact hde
    refine ⟨fun i m H' => m = ws.length - i ∧ i ≤ ws.length ∧ Cv K H1 (ows σ Γ ++ O) D (told i b f) H', ⟨ws.length, by simp, Nat.zero_le _, cv_start hD⟩, fun i m H' z => ?_⟩
    obtain ⟨rfl, hi, cv⟩ := z
    have c3 := cv.choose_spec.2.2
    have hpl : SqL K H' p ws := Evl.ex_l c3 (Evl.ex_l hide_le a1)
    have hpl2 : SqL K H' p2 us := Evl.ex_l c3 (Evl.ex_l hide_le b1)
    by_cases hlt : i < ws.length
    · refine .inr ⟨⟨ws, us, _, _, hpl, hpl2, List.getElem?_eq_getElem hlt, List.getElem?_eq_getElem (by omega)⟩, fun H2 => Cv K H1 (ows σ Γ ++ O) D (told (i + 1) b f) H2, fun H2 z => ⟨ws.length - (i + 1), by omega, rfl, hlt, z⟩, fun x H2 y => ?_⟩
      obtain ⟨T, x, y, rfl, hT, rfl, fx, fy⟩ := y
      obtain ⟨d, d1, d2⟩ := a2.get' (fx ws hpl)
      obtain ⟨e', g1, g2⟩ := b2.get' (fy us hpl2)
      rw [told_succ]
      have mk : ∀ {x : V} {d : PyData}, Dp K (hide H1 (ows σ Γ ++ O)) x d → Dp K (hide H' (ows (wipe σ vs) Γ ++ D :: O)) x d := fun {x d} h => by
        have h1 : Dp K (hide H1 (D :: (ows σ Γ ++ O))) x d := by rw [hide_new hD]; exact h
        rw [hide_cong (fun a => (eW_of w2 a).symm)]
        exact Dp.ex h1 (hide_ex c3)
      exact pair_blk hv ha hc hac w1 w2 hD cv hT (mk d2) (mk g2) (by have := told_len (n := i) (b := b) (f := f); rw [a2.len] at hlt; omega) (ht i d e' d1 g1) (he i d e' d1 g1)
    · have e : i = ws.length := by omega
      refine .inl ⟨⟨ws, us, hpl, hpl2, .inl (by omega)⟩, ?_⟩
      rw [e, a2.len] at cv
      exact cv_done hD x1 cv q
theorem eb_yes : EB J K Γ tYes true := fun O σ H e Q q => q H (Evl.Ex.refl H)
end

/-! ### a def keeps its promise -/
/-- a def of the text by its module's name -/
structure Dfn (K : PySem.W.Frag) (mg : Str → Option Value) (x : Str) (st : Stmt) : Prop where
  ex : ∃ f fd, Fun K x x st f fd ∧ mg x = some (.ref f)
structure Has (P : Program) (w : World) (K : PySem.W.Frag) (mg : Str → Option Value) (base : Heap) (k : Nat) (x : Str) (n : Nat) (Pr : List PyData → Rs → Prop) : Prop where
  ex : ∃ f fd ps, ps.length = n ∧ FnOk P w K mg base CX0 k f fd ps (spF K Pr) ∧ mg x = some (.ref f) ∧ PySem.W.keepIn K (.ref f) = true ∧ Binds K fd ps []
section
variable {P : Program} {w : World} {K : PySem.W.Frag} {mg : Str → Option Value} {base : Heap} {Pr Pr' : List PyData → Rs → Prop}
theorem Has.mono {j k n : Nat} {x : Str} (h : Has P w K mg base j x n Pr) (l : j ≤ k) : Has P w K mg base k x n Pr := by
  obtain ⟨f, fd, ps, a, b, c⟩ := h.ex
  exact ⟨f, fd, ps, a, b.mono l, c⟩
theorem Has.imp {k n : Nat} {x : Str} (h : Has P w K mg base k x n Pr) (l : ∀ ds r, Pr' ds r → Pr ds r) : Has P w K mg base k x n Pr' := by
  obtain ⟨f, fd, ps, a, b, c⟩ := h.ex
  exact ⟨f, fd, ps, a, b.imp fun vs H Q E q => by
    obtain ⟨O, ds, r, hp, q⟩ := q
    exact ⟨O, ds, r, l _ _ hp, q⟩, c⟩
/-- the slots at a def's entry -/
def entry (N : List Str) (ds : List PyData) : List Sl := ds.map .dat ++ List.replicate (N.length - ds.length) .un
theorem env_un {H : Hp} {O : List Addr} : ∀ n : Nat, EnvL K H O (List.replicate n none) (List.replicate n .un)
  | 0 => .nil
  | n + 1 => .un (env_un n)
theorem ows_uns : ∀ n : Nat, ows (List.replicate n none) (List.replicate n .un) = []
  | 0 => rfl
  | n + 1 => by
    show ows (none :: List.replicate n none) (.un :: List.replicate n .un) = []
    rw [ows_un]
    exact ows_uns n
theorem entry_ok {N : List Str} {H : Hp} {O : List Addr} {vs : List V} {ds : List PyData} (h : DpAll K (hide H O) vs ds) (ho : ∀ p ∈ O, H p ≠ none) : Sb J0 K H O H (L2.start N vs) (entry N ds) := by
  have key : ∀ {vs : List V} {ds : List PyData} (n : Nat), DpAll K (hide H O) vs ds → EnvL K H O (vs.map some ++ List.replicate n none) (ds.map .dat ++ List.replicate n .un) ∧ ows (vs.map some ++ List.replicate n none) (ds.map .dat ++ List.replicate n .un) = [] := by
    intro vs ds n h
    induction ds generalizing vs with
    | nil =>
      cases h
      exact ⟨env_un n, ows_uns n⟩
    | cons d ds ih =>
      cases h with
      | cons h1 h2 =>
        obtain ⟨a, b⟩ := ih h2
        refine ⟨.dat h1 a, ?_⟩
        show ows (some _ :: (_ ++ List.replicate n none)) (.dat d :: (ds.map .dat ++ List.replicate n .un)) = []
        rw [ows_dat]
        exact b
  obtain ⟨a, b⟩ := key (N.length - ds.length) h
  unfold L2.start entry
  rw [h.len]
  exact ⟨⟨by rw [b]; exact a, by rw [b]; simp, ho, (fun x z => absurd z (by show ¬ x ∈ ([] : List Addr); simp)), trivial⟩, Evl.Ex.refl H, by rw [b]; simp⟩
/-- THE RULE for a def that changes nothing but its own -/
theorem has_mk {x : Str} {st : Stmt} {N ps : List Str} {k : Nat} (D : Dfn K mg x st) (S : FnScope N ps (defScope st)) (hb : ∀ (kV doc pm : Value) (an : Option Addr) (cdv ct : Value) (us : List Value), us.length = ps.length → bindArgs (PySem.W.fnOf x x (defArgs st) (defBody st) (defScope st) .none kV doc pm an cdv ct) ⟨us, []⟩ = pure (ps.zip us))
    (hn : ∀ ds r, Pr ds r → ds.length = ps.length)
    (body : ∀ (f : Addr) (cdv : Value) (A : Around) (outer : List PySem.Env) (s : Shared) (H : Hp) (E : XK), Room k (A.deeper (envOfC x (defScope st) s.heap.objs.size f cdv)) →
      ∃ t, PSs (cxOf CX0 P w K mg base N x (defScope st) f cdv A outer s H E).nox (defBody st) t ∧ ∀ ds r, Pr ds r → SG J0 K (entry N ds) t (fun _ => False) (fun _ r' => r' = r)) : Has P w K mg base (k + 1) x ps.length Pr := by
  obtain ⟨f, fd, F, hm⟩ := D.ex
  refine ⟨f, fd, ps, rfl, F.ok S (fun vs H Q E h => ?_) (fun cdv A outer s H vs Q E hr h => ?_), hm, F.kp, F.binds hb⟩
  · obtain ⟨O, ds, r, hp, h1, _⟩ := h
    rw [h1.len]
    exact hn ds r hp
  · obtain ⟨O, ds, r, hp, h1, ho, q⟩ := h
    obtain ⟨t, ht, hs⟩ := body f cdv A outer s H E hr
    refine ⟨t, ht, hs ds r hp H O (L2.start N vs) H _ (entry_ok h1 ho) (fun _ _ _ z => z.elim) fun v H' σ' Γ' r' e x rd => ?_⟩
    subst e
    exact q v H' x.ex (rd_out rd)
/-- a call of such a def -/
theorem pe_has {X : Cx} {k n : Nat} {x : Str} {p pos : Pos} {e : Expr} {es : List Expr} {t : TA} (h : Has X.prog X.w X.K X.mg X.base k x n Pr) (hr : Room k X.A) (hg : Gl X x) (ha : PA X (e :: es) t) (hdb : (x == ("__debug__" : Str)) = false := by decide)
    (he : starEach (e :: es) X.env = (false, eval e X.env) :: starEach es X.env := by rfl) (hpl : (backTo pos (starEach es X.env)).any (·.1) = false := by rfl) : PE X (.Call (.Name x p) (e :: es) [] pos) (tCall (spF X.K Pr) [] E0 t) := by
  obtain ⟨f, fd, ps, _, F, hm, kp, b⟩ := h.ex
  exact pe_call F hr hg hm kp b .nil pass0 ha hdb he hpl
end
end NwB
end NwCo_
section NwTx_
set_option Elab.async false
set_option linter.all false
set_option maxRecDepth 100000
set_option maxHeartbeats 4000000
namespace NwB
open PySem PySem.Spec PyProof.Rows L2 NwT
open Evl (Ex)
/-! ### what the top has left, by names -/
structure Tx (K : PySem.W.Frag) (mg : Str → Option Value) : Prop where
  abs : mg "abs" = none
  all : mg "all" = none
  bool : mg "bool" = none
  enumerate : mg "enumerate" = none
  int : mg "int" = none
  isinstance : mg "isinstance" = none
  len : mg "len" = none
  list : mg "list" = none
  max : mg "max" = none
  min : mg "min" = none
  range : mg "range" = none
  repr : mg "repr" = none
  sorted : mg "sorted" = none
  str : mg "str" = none
  tuple : mg "tuple" = none
  zip : mg "zip" = none
  g_NOUGHT : mg "NOUGHT" = some (.ref 80)
  g_TWO : mg "TWO" = some (.ref 263)
  g_BOTH : mg "BOTH" = some (.ref 366)
  t_NOUGHT : ∀ H, SqT K H 80 [.int 0, .int 1]
  t_TWO : ∀ H, SqT K H 263 [.int 2, .int 1]
  t_BOTH : ∀ H, SqT K H 366 [.str "on", .str "back"]
  g_ON : ∃ t, mg "ON" = some (.str "on" t)
  g_BACK : ∃ t, mg "BACK" = some (.str "back" t)
  d_is_whole : Dfn K mg "is_whole" s_is_whole
  d_common : Dfn K mg "common" s_common
  d_is_ratio : Dfn K mg "is_ratio" s_is_ratio
  d_lowered : Dfn K mg "lowered" s_lowered
  d_plus : Dfn K mg "plus" s_plus
  d_minus : Dfn K mg "minus" s_minus
  d_times : Dfn K mg "times" s_times
  d_over : Dfn K mg "over" s_over
  d_under : Dfn K mg "under" s_under
  d_greater : Dfn K mg "greater" s_greater
  d_lesser : Dfn K mg "lesser" s_lesser
  d_sum_of : Dfn K mg "sum_of" s_sum_of
  d_do_cross : Dfn K mg "do_cross" s_do_cross
  d_is_parted : Dfn K mg "is_parted" s_is_parted
  d_parted_in : Dfn K mg "parted_in" s_parted_in
  d_all_cross : Dfn K mg "all_cross" s_all_cross
  d_is_cut : Dfn K mg "is_cut" s_is_cut
  d_is_within : Dfn K mg "is_within" s_is_within
  d_is_apart : Dfn K mg "is_apart" s_is_apart
  d_across : Dfn K mg "across" s_across
  d_rooms_of : Dfn K mg "rooms_of" s_rooms_of
  d_shown_by : Dfn K mg "shown_by" s_shown_by
  d_all_cuts : Dfn K mg "all_cuts" s_all_cuts
  d_greatest_cut : Dfn K mg "greatest_cut" s_greatest_cut
  d_other_way : Dfn K mg "other_way" s_other_way
  d_ties_of : Dfn K mg "ties_of" s_ties_of
  d_is_over : Dfn K mg "is_over" s_is_over
  d_loads_of : Dfn K mg "loads_of" s_loads_of
  d_strains_of : Dfn K mg "strains_of" s_strains_of
  d_top_of : Dfn K mg "top_of" s_top_of
  d_table_of : Dfn K mg "table_of" s_table_of
  d_cut_above : Dfn K mg "cut_above" s_cut_above
  d_fitting : Dfn K mg "fitting" s_fitting
  d_first_broken : Dfn K mg "first_broken" s_first_broken
  d_are_ways : Dfn K mg "are_ways" s_are_ways
  d_sent_by : Dfn K mg "sent_by" s_sent_by
  d_least_top : Dfn K mg "least_top" s_least_top
  d_is_sending : Dfn K mg "is_sending" s_is_sending
  d_lets_least : Dfn K mg "lets_least" s_lets_least
  d_is_number : Dfn K mg "is_number" s_is_number
  d_gone_by : Dfn K mg "gone_by" s_gone_by
  d_are_apart : Dfn K mg "are_apart" s_are_apart
  d_is_way : Dfn K mg "is_way" s_is_way
  d_is_slide : Dfn K mg "is_slide" s_is_slide
  d_moved : Dfn K mg "moved" s_moved
  d_slid : Dfn K mg "slid" s_slid
  d_slid_by : Dfn K mg "slid_by" s_slid_by
  d_ways_apart : Dfn K mg "ways_apart" s_ways_apart
  d_next_slide : Dfn K mg "next_slide" s_next_slide
  d_slides_for : Dfn K mg "slides_for" s_slides_for
  d_rising_way : Dfn K mg "rising_way" s_rising_way
  d_gain_by : Dfn K mg "gain_by" s_gain_by
  d_in_order : Dfn K mg "in_order" s_in_order
  d_half_of_greatest : Dfn K mg "half_of_greatest" s_half_of_greatest
  d_goes_whole : Dfn K mg "goes_whole" s_goes_whole
  d_are_rounded : Dfn K mg "are_rounded" s_are_rounded
  d_behind_or_none : Dfn K mg "behind_or_none" s_behind_or_none
  d_lets_rounding : Dfn K mg "lets_rounding" s_lets_rounding
  d_whole_ways : Dfn K mg "whole_ways" s_whole_ways
  d_rounding_of : Dfn K mg "rounding_of" s_rounding_of
  d_near_whole : Dfn K mg "near_whole" s_near_whole
  d__law_begun : Dfn K mg "_law_begun" s__law_begun
  d__law_take : Dfn K mg "_law_take" s__law_take
  d__law_low : Dfn K mg "_law_low" s__law_low
  d__law_amount : Dfn K mg "_law_amount" s__law_amount
  d__law_names : Dfn K mg "_law_names" s__law_names
  d__law_rooms : Dfn K mg "_law_rooms" s__law_rooms
  d__law_ends : Dfn K mg "_law_ends" s__law_ends
  d__law_ring : Dfn K mg "_law_ring" s__law_ring
  d__law_plus : Dfn K mg "_law_plus" s__law_plus
  d__law_minus : Dfn K mg "_law_minus" s__law_minus
  d__law_under : Dfn K mg "_law_under" s__law_under
  d__law_ties : Dfn K mg "_law_ties" s__law_ties
  d__law_loads : Dfn K mg "_law_loads" s__law_loads
  d__law_parted : Dfn K mg "_law_parted" s__law_parted
  d__law_greatest : Dfn K mg "_law_greatest" s__law_greatest
  d__law_right : Dfn K mg "_law_right" s__law_right
  d_law : Dfn K mg "law" s_law
  cl : Cls K 311
  mkF : Mk K 311 282
  g_Filling : mg "Filling" = some (.ref 311)
  na_asked : NoAttr K 311 "asked"
  na_free : NoAttr K 311 "free"
  na_left : NoAttr K 311 "left"
  m_slack : Meth K 311 "slack" 289
  m_most_on : Meth K 311 "most_on" 296
  m_take : Meth K 311 "take" 301
  m_sent : Meth K 311 "sent" 308
  f___init__ : ∃ fd, Fun K "__init__" "Filling.__init__" s_Filling___init__ 282 fd
  f_slack : ∃ fd, Fun K "slack" "Filling.slack" s_Filling_slack 289 fd
  f_most_on : ∃ fd, Fun K "most_on" "Filling.most_on" s_Filling_most_on 296 fd
  f_take : ∃ fd, Fun K "take" "Filling.take" s_Filling_take 301 fd
  f_sent : ∃ fd, Fun K "sent" "Filling.sent" s_Filling_sent 308 fd
/-! ### built-in names -/
theorem bb_abs : bootBuiltins "abs" = some (.builtin "abs") := by decide +kernel
theorem bb_all : bootBuiltins "all" = some (.builtin "all") := by decide +kernel
theorem bb_bool : bootBuiltins "bool" = some (.type "bool") := by decide +kernel
theorem bb_enumerate : bootBuiltins "enumerate" = some (.type "enumerate") := by decide +kernel
theorem bb_int : bootBuiltins "int" = some (.type "int") := by decide +kernel
theorem bb_isinstance : bootBuiltins "isinstance" = some (.builtin "isinstance") := by decide +kernel
theorem bb_len : bootBuiltins "len" = some (.builtin "len") := by decide +kernel
theorem bb_list : bootBuiltins "list" = some (.type "list") := by decide +kernel
theorem bb_max : bootBuiltins "max" = some (.builtin "max") := by decide +kernel
theorem bb_min : bootBuiltins "min" = some (.builtin "min") := by decide +kernel
theorem bb_range : bootBuiltins "range" = some (.type "range") := by decide +kernel
theorem bb_repr : bootBuiltins "repr" = some (.builtin "repr") := by decide +kernel
theorem bb_sorted : bootBuiltins "sorted" = some (.builtin "sorted") := by decide +kernel
theorem bb_str : bootBuiltins "str" = some (.type "str") := by decide +kernel
theorem bb_tuple : bootBuiltins "tuple" = some (.type "tuple") := by decide +kernel
theorem bb_zip : bootBuiltins "zip" = some (.type "zip") := by decide +kernel
section
variable {X : Cx}
theorem pe_gstr {x z : Str} {pos : Pos} (hg : Gl X x) (h : ∃ t, X.mg x = some (.str z t)) (hd : (x == ("__debug__" : Str)) = false := by decide) : PE X (.Name x pos) (tC (.str z)) := by
  obtain ⟨t, h⟩ := h
  exact pe_glob hg h ⟨t, rfl⟩ hd
variable (K : PySem.W.Frag)
theorem eqK (hu : X.A.units + 64 < cLine) (e : X.K = K := by rfl) : OpR X (compareOp .Eq) (rEqA K) := by subst e; exact op_eq.or (op_eqD hu)
theorem neK (hu : X.A.units + 64 < cLine) (e : X.K = K := by rfl) : OpR X (compareOp .NotEq) (rNeA K) := by subst e; exact op_ne.or (op_neD hu)
theorem ixK (e : X.K = K := by rfl) : IxR X (rIx K) := by subst e; exact ix_seq
theorem inK (e : X.K = K := by rfl) : OpR X (compareOp .In) (rIn K false) := by subst e; exact op_in_seq
theorem ninK (e : X.K = K := by rfl) : OpR X (compareOp .NotIn) (rIn K true) := by subst e; exact op_notIn_seq
theorem slLK (e : X.K = K := by rfl) : SlR X (rSlL K) := by subst e; exact sl_list
theorem slTK (e : X.K = K := by rfl) : SlR X (rSlT K) := by subst e; exact sl_tup
theorem lenK (e : X.K = K := by rfl) : CallR X (.builtin "len") (rLen K) := by subst e; exact call_len_seq
theorem isiK (e : X.K = K := by rfl) : CallR X (.builtin "isinstance") (rIsi K) := by subst e; exact call_isi
theorem allK (hc : X.calm = true := by rfl) (e : X.K = K := by rfl) : CallR X (.builtin "all") (rAll K) := by subst e; exact cr_all hc
theorem listK (e : X.K = K := by rfl) : CallR X (.type "list") (rListOf K) := by subst e; exact call_list_of
theorem pi_listK {tg l : Expr} {tl : TE} (hl : PE X l tl) (e : X.K = K := by rfl) : PI X tg l (iList K tl) := by subst e; exact pi_list hl
theorem pi_tupK {tg l : Expr} {tl : TE} (hl : PE X l tl) (e : X.K = K := by rfl) : PI X tg l (iTup K tl) := by subst e; exact pi_tup hl
theorem pi_enumK {e : Expr} {ta : TA} {p pos tpos : Pos} {elts : List Expr} {kk : Nat} (hg : Gl X "enumerate") (hm : X.mg "enumerate" = none) (ha : PA X [e] ta) (eK : X.K = K := by rfl) (hs : starEach [e] X.env = [(false, eval e X.env)] := by rfl) :
    PI X (.Tuple elts kk tpos) (.Call (.Name "enumerate" p) [e] [] pos) (iEnum K ta) := by subst eK; exact pi_enum hg hm ha hs
theorem pi_zipK {e e2 : Expr} {ta : TA} {p pos tpos : Pos} {elts : List Expr} {kk : Nat} (hg : Gl X "zip") (hm : X.mg "zip" = none) (ha : PA X [e, e2] ta) (eK : X.K = K := by rfl) (hs : starEach [e, e2] X.env = (false, eval e X.env) :: starEach [e2] X.env := by rfl) (hpl : (backTo pos (starEach [e2] X.env)).any (·.1) = false := by rfl) :
    PI X (.Tuple elts kk tpos) (.Call (.Name "zip" p) [e, e2] [] pos) (iZip K ta) := by subst eK; exact pi_zip hg hm ha hs hpl
theorem pg_tupK {es : List Expr} {k : Nat} {t : TGs} {n : Nat} {pos : Pos} (hc : X.calm = true) (h : PGs X es t) (e : X.K = K := by rfl) (hn : (assignEach es X.env).length = n := by rfl) (hst : (assignEach es X.env).findIdx? (·.1) = none := by rfl) : PG X (.Tuple es k pos) (gTup K n t) := by subst e; exact pg_tup hc h hn hst
end
/-- a call of a def that keeps its promise -/
theorem pe_hasK {P : Program} {w : World} {K : PySem.W.Frag} {mg : Str → Option Value} {base : Heap} {Pr : List PyData → Rs → Prop} {X : Cx} {k n : Nat} {x : Str} {p pos : Pos} {e : Expr} {es : List Expr} {t : TA} (h : Has P w K mg base k x n Pr) (hr : Room k X.A) (hg : Gl X x) (ha : PA X (e :: es) t)
    (e1 : X.prog = P := by rfl) (e2 : X.w = w := by rfl) (e3 : X.K = K := by rfl) (e4 : X.mg = mg := by rfl) (e5 : X.base = base := by rfl) (hdb : (x == ("__debug__" : Str)) = false := by decide)
    (he : starEach (e :: es) X.env = (false, eval e X.env) :: starEach es X.env := by rfl) (hpl : (backTo pos (starEach es X.env)).any (·.1) = false := by rfl) : PE X (.Call (.Name x p) (e :: es) [] pos) (tCall (spF K Pr) [] E0 t) := by
  subst e1 e2 e3 e4 e5
  exact pe_has h hr hg ha hdb he hpl
/-- the scope of a comprehension -/
def lcSc : Expr → Scope
  | .ListComp _ _ sc _ => sc
  | _ => { kind := .function, names := [], isGenerator := false, isCoroutine := false }
end NwB
end NwTx_
section NwMath_
set_option linter.all false
namespace Nw

structure Ask where
  name : Array Nat
  one : Nat
  other : Nat
  size : Rat
structure Ring where
  rooms : List Rat
  asks : List Ask
abbrev Ring.n (R : Ring) : Nat := R.rooms.length
abbrev Ring.m (R : Ring) : Nat := R.asks.length
def Ring.at (R : Ring) (k : Nat) : Ask := R.asks.getD k ⟨#[], 0, 1, 0⟩
def Ring.room (R : Ring) (i : Nat) : Rat := R.rooms.getD i 1
/-- the part of ask k -/
def pt (s : List Rat) (k : Nat) : Rat := s.getD k 0

/-- the sum of the first m -/
def S : Nat → (Nat → Rat) → Rat
  | 0, _ => 0
  | m + 1, f => S m f + f m
theorem S_le {m : Nat} {f g : Nat → Rat} (h : ∀ k, k < m → f k ≤ g k) : S m f ≤ S m g := by
  induction m with
  | zero => exact Rat.le_refl
  | succ m ih =>
    have h1 := ih fun k hk => h k (by omega)
    have h2 := h m (by omega)
    simp only [S]
    grind
theorem S_eq {m : Nat} {f g : Nat → Rat} (h : ∀ k, k < m → f k = g k) : S m f = S m g := by
  induction m with
  | zero => rfl
  | succ m ih =>
    have h1 := ih fun k hk => h k (by omega)
    have h2 := h m (by omega)
    simp only [S]
    grind
theorem S_add {m : Nat} {f g : Nat → Rat} : S m (fun k => f k + g k) = S m f + S m g := by
  induction m with
  | zero => simp only [S]; grind
  | succ m ih => simp only [S]; grind
theorem S_sub {m : Nat} {f g : Nat → Rat} : S m (fun k => f k - g k) = S m f - S m g := by
  induction m with
  | zero => simp only [S]; grind
  | succ m ih => simp only [S]; grind
theorem S_zero {m : Nat} {f : Nat → Rat} (h : ∀ k, k < m → f k = 0) : S m f = 0 := by
  induction m with
  | zero => rfl
  | succ m ih =>
    have h1 := ih fun k hk => h k (by omega)
    have h2 := h m (by omega)
    simp only [S]
    grind
theorem S_nonneg {m : Nat} {f : Nat → Rat} (h : ∀ k, k < m → 0 ≤ f k) : 0 ≤ S m f := by
  have h1 := S_le (m := m) (f := fun _ => 0) (g := f) h
  rw [S_zero (fun _ _ => rfl)] at h1
  exact h1
theorem S_le_S {m m' : Nat} {f : Nat → Rat} (hm : m ≤ m') (h : ∀ k, k < m' → 0 ≤ f k) : S m f ≤ S m' f := by
  induction m' with
  | zero =>
    have e : m = 0 := by omega
    subst e
    exact Rat.le_refl
  | succ m' ih =>
    by_cases e : m = m' + 1
    · subst e
      exact Rat.le_refl
    · have h1 := ih (by omega) fun k hk => h k (by omega)
      have h2 := h m' (by omega)
      simp only [S]
      grind

/-- whether the way on of a goes over tie i -/
def on (n : Nat) (a : Ask) (i : Nat) : Bool := decide ((i + n - a.one) % n < (a.other + n - a.one) % n)
/-- what of an ask of which p goes on goes over tie i -/
def over (n : Nat) (a : Ask) (p : Rat) (i : Nat) : Rat := if on n a i then p else a.size - p
def apart (c : Nat × Nat) (a : Ask) : Bool := (decide (c.1 < a.one) && decide (a.one ≤ c.2)) != (decide (c.1 < a.other) && decide (a.other ≤ c.2))
structure AskOk (n : Nat) (a : Ask) : Prop where
  one : a.one < n
  other : a.other < n
  ne : a.one ≠ a.other
  pos : 0 ≤ a.size
theorem mod_back {n x y : Nat} (hx : x < n) (hy : y < n) : (x + n - y) % n = if y ≤ x then x - y else x + n - y := by
  split
  · rename_i h
    have e : x + n - y = (x - y) + n := by omega
    rw [e, Nat.add_mod_right, Nat.mod_eq_of_lt (by omega)]
  · rename_i h
    rw [Nat.mod_eq_of_lt (by omega)]
theorem on_iff {n i : Nat} {a : Ask} (h : AskOk n a) (hi : i < n) :
    on n a i = true ↔ ((a.one < a.other ∧ a.one ≤ i ∧ i < a.other) ∨ (a.other < a.one ∧ ¬ (a.other ≤ i ∧ i < a.one))) := by
  obtain ⟨h1, h2, h3, _⟩ := h
  unfold on
  rw [mod_back hi h1, mod_back h2 h1, decide_eq_true_iff]
  split <;> split <;> omega
theorem on_false {n i : Nat} {a : Ask} (h : AskOk n a) (hi : i < n) :
    on n a i = false ↔ ¬ ((a.one < a.other ∧ a.one ≤ i ∧ i < a.other) ∨ (a.other < a.one ∧ ¬ (a.other ≤ i ∧ i < a.one))) := by
  rw [← on_iff h hi]
  simp
theorem apart_iff {g h : Nat} {a : Ask} : apart (g, h) a = true ↔ ¬ ((g < a.one ∧ a.one ≤ h) ↔ (g < a.other ∧ a.other ≤ h)) := by
  unfold apart
  by_cases h1 : g < a.one <;> by_cases h2 : a.one ≤ h <;> by_cases h3 : g < a.other <;> by_cases h4 : a.other ≤ h <;> simp [h1, h2, h3, h4]
theorem apart_on {n g h : Nat} {a : Ask} (ok : AskOk n a) (gh : g ≤ h) (hh : h < n) : apart (g, h) a = true ↔ on n a g ≠ on n a h := by
  have h1 := on_iff ok (show g < n by omega)
  have h2 := on_iff ok hh
  obtain ⟨o1, o2, o3, _⟩ := ok
  rw [apart_iff, ne_eq, Bool.eq_iff_iff, h1, h2]
  omega

/-! ### cuts -/
def across (R : Ring) (c : Nat × Nat) : Rat := S R.m fun k => if apart c (R.at k) then (R.at k).size else 0
def shown (R : Ring) (c : Nat × Nat) : Rat := across R c / (R.room c.1 + R.room c.2)
def cutsFrom (n : Nat) (g : Nat) : List (Nat × Nat) := (List.range (n - g)).map fun i => (g, g + i)
def allCuts (n : Nat) : List (Nat × Nat) := (List.range n).flatMap (cutsFrom n)
theorem mem_allCuts {n : Nat} {c : Nat × Nat} : c ∈ allCuts n ↔ c.1 ≤ c.2 ∧ c.2 < n := by
  unfold allCuts cutsFrom
  simp only [List.mem_flatMap, List.mem_range, List.mem_map]
  constructor
  · rintro ⟨g, hg, i, hi, rfl⟩
    exact ⟨by simp, by show g + i < n; omega⟩
  · rintro ⟨h1, h2⟩
    exact ⟨c.1, by omega, c.2 - c.1, by omega, by ext <;> simp <;> omega⟩
def betterCut (R : Ring) (b : Option (Rat × (Nat × Nat))) (c : Nat × Nat) : Option (Rat × (Nat × Nat)) :=
  match b with
  | none => some (shown R c, c)
  | some b => if b.1 < shown R c then some (shown R c, c) else some b
def greatestOf (R : Ring) (l : List (Nat × Nat)) : Option (Rat × (Nat × Nat)) := l.foldl (betterCut R) none
theorem greatest_spec {R : Ring} : ∀ (l : List (Nat × Nat)) (b : Option (Rat × (Nat × Nat))), (∀ x, b = some x → x.1 = shown R x.2) →
    (∀ x, l.foldl (betterCut R) b = some x → x.1 = shown R x.2 ∧ (x.2 ∈ l ∨ b = some x) ∧ (∀ c ∈ l, shown R c ≤ x.1) ∧ ∀ y, b = some y → y.1 ≤ x.1) ∧ (l.foldl (betterCut R) b = none → l = [] ∧ b = none)
  | [], b, hb => ⟨fun x h => ⟨hb x h, .inr h, fun c hc => by simp at hc, fun y hy => by
      rw [List.foldl_nil, hy] at h
      cases h
      exact Rat.le_refl⟩, fun h => ⟨rfl, h⟩⟩
  | c :: l, b, hb => by
    rw [List.foldl_cons]
    have hb' : ∀ x, betterCut R b c = some x → x.1 = shown R x.2 := by
      intro x hx
      unfold betterCut at hx
      cases b with
      | none => cases hx; rfl
      | some y =>
        simp only at hx
        split at hx
        · cases hx; rfl
        · cases hx; exact hb _ rfl
    obtain ⟨i1, i2⟩ := greatest_spec l (betterCut R b c) hb'
    have hs : ∃ z, betterCut R b c = some z ∧ shown R c ≤ z.1 ∧ (z.2 = c ∨ b = some z) ∧ ∀ y, b = some y → y.1 ≤ z.1 := by
      unfold betterCut
      cases b with
      | none => exact ⟨_, rfl, Rat.le_refl, .inl rfl, fun y hy => by cases hy⟩
      | some y =>
        simp only
        split
        · rename_i h
          exact ⟨_, rfl, Rat.le_refl, .inl rfl, fun z hz => by cases hz; exact Rat.le_of_lt h⟩
        · rename_i h
          exact ⟨_, rfl, Rat.not_lt.mp h, .inr rfl, fun z hz => by cases hz; exact Rat.le_refl⟩
    obtain ⟨z, hz, h1, h2, h3⟩ := hs
    refine ⟨fun x hx => ?_, fun hn => ?_⟩
    · obtain ⟨j1, j2, j3, j4⟩ := i1 x hx
      have j5 := j4 z hz
      refine ⟨j1, ?_, ?_, fun y hy => Rat.le_trans (h3 y hy) j5⟩
      · rcases j2 with j2 | j2
        · exact .inl (List.mem_cons_of_mem _ j2)
        · rw [hz] at j2
          cases j2
          rcases h2 with h2 | h2
          · exact .inl (by rw [h2]; exact List.mem_cons_self ..)
          · exact .inr h2
      · intro d hd
        rcases List.mem_cons.mp hd with rfl | hd
        · exact Rat.le_trans h1 j5
        · exact j3 d hd
    · have q := (i2 hn).2
      rw [hz] at q
      cases q
/-- what the greatest cut shows, and this cut -/
def gcut (R : Ring) : Rat × (Nat × Nat) := (greatestOf R (allCuts R.n)).getD (0, (0, 0))
theorem gcut_some {R : Ring} (hn : 0 < R.n) : greatestOf R (allCuts R.n) = some (gcut R) := by
  cases e : greatestOf R (allCuts R.n) with
  | none =>
    have h := ((greatest_spec (allCuts R.n) none (fun _ h => by cases h)).2 e).1
    have h2 : ((0, 0) : Nat × Nat) ∈ allCuts R.n := mem_allCuts.mpr ⟨Nat.le_refl _, hn⟩
    rw [h] at h2
    simp at h2
  | some x =>
    unfold gcut
    rw [e]
    rfl
theorem gcut_spec {R : Ring} (hn : 0 < R.n) : (gcut R).1 = shown R (gcut R).2 ∧ (gcut R).2.1 ≤ (gcut R).2.2 ∧ (gcut R).2.2 < R.n ∧ ∀ c : Nat × Nat, c.1 ≤ c.2 → c.2 < R.n → shown R c ≤ (gcut R).1 := by
  obtain ⟨h1, h2, h3, _⟩ := (greatest_spec (allCuts R.n) none (fun _ h => by cases h)).1 _ (gcut_some hn)
  rcases h2 with h2 | h2
  · obtain ⟨a, b⟩ := mem_allCuts.mp h2
    exact ⟨h1, a, b, fun c hc hc2 => h3 c (mem_allCuts.mpr ⟨hc, hc2⟩)⟩
  · cases h2

/-! ### loads -/
def load (R : Ring) (s : List Rat) (i : Nat) : Rat := S R.m fun k => over R.n (R.at k) (pt s k) i
structure RingOk (R : Ring) : Prop where
  two : 2 ≤ R.n
  room : ∀ i, i < R.n → 0 < R.room i
  ask : ∀ k, k < R.m → AskOk R.n (R.at k)
structure SOk (R : Ring) (s : List Rat) : Prop where
  len : s.length = R.m
  part : ∀ k, k < R.m → 0 ≤ pt s k ∧ pt s k ≤ (R.at k).size
theorem load_nonneg {R : Ring} {s : List Rat} (h : SOk R s) (i : Nat) : 0 ≤ load R s i := S_nonneg fun k hk => by
  obtain ⟨h1, h2⟩ := h.part k hk
  unfold over
  split <;> grind
/-- a cut: the loads of its ties -/
theorem cut_le {R : Ring} {s : List Rat} (ok : RingOk R) (h : SOk R s) {g q : Nat} (gq : g ≤ q) (hq : q < R.n) : across R (g, q) ≤ load R s g + load R s q := by
  unfold across load
  rw [← S_add]
  refine S_le fun k hk => ?_
  obtain ⟨h1, h2⟩ := h.part k hk
  have ha := apart_on (ok.ask k hk) gq hq
  unfold over
  by_cases e : apart (g, q) (R.at k) = true
  · rw [if_pos e]
    have e2 := ha.mp e
    cases e3 : on R.n (R.at k) g <;> cases e4 : on R.n (R.at k) q <;> simp [e3, e4] at e2 ⊢ <;> grind
  · rw [if_neg e]
    cases e3 : on R.n (R.at k) g <;> cases e4 : on R.n (R.at k) q <;> simp <;> grind
theorem across_eq_cut {R : Ring} (ok : RingOk R) {g q : Nat} (gq : g ≤ q) (hq : q < R.n) : across R (g, q) = S R.m fun k => if on R.n (R.at k) g ≠ on R.n (R.at k) q then (R.at k).size else 0 := by
  refine S_eq fun k hk => ?_
  have ha := apart_on (ok.ask k hk) gq hq
  by_cases e : apart (g, q) (R.at k) = true
  · rw [if_pos e, if_pos (ha.mp e)]
  · rw [if_neg e, if_neg fun z => e (ha.mpr z)]

/-! ### ties of ways -/
def tiesOn (n : Nat) (a : Ask) : List Nat := (List.range ((a.other + n - a.one) % n)).map fun s => (a.one + s) % n
def tiesBack (n : Nat) (a : Ask) : List Nat := (List.range ((a.one + n - a.other) % n)).map fun s => (a.one + n - 1 - s) % n
def tiesOf (n : Nat) (a : Ask) (way : Bool) : List Nat := if way then tiesOn n a else tiesBack n a
theorem mod_up {n x : Nat} (h : x < 2 * n) : x % n = if x < n then x else x - n := by
  split
  · exact Nat.mod_eq_of_lt (by omega)
  · have e : x = (x - n) + n := by omega
    rw [e, Nat.add_mod_right, Nat.mod_eq_of_lt (by omega)]
    omega
theorem mem_tiesOn {n i : Nat} {a : Ask} (h : AskOk n a) : i ∈ tiesOn n a ↔ i < n ∧ on n a i = true := by
  obtain ⟨h1, h2, h3, h4⟩ := id h
  unfold tiesOn
  rw [List.mem_map]
  constructor
  · rintro ⟨s, hs, rfl⟩
    rw [List.mem_range, mod_back h2 h1] at hs
    have hl : (a.one + s) % n < n := Nat.mod_lt _ (by omega)
    refine ⟨hl, (on_iff h hl).mpr ?_⟩
    rw [mod_up (by split at hs <;> omega)]
    split at hs <;> split <;> omega
  · rintro ⟨hi, ho⟩
    have ho := (on_iff h hi).mp ho
    refine ⟨(i + n - a.one) % n, ?_, ?_⟩
    · rw [List.mem_range, mod_back h2 h1, mod_back hi h1]
      split <;> split <;> omega
    · rw [mod_back hi h1]
      split
      · rw [Nat.mod_eq_of_lt (by omega)]
        omega
      · have e : a.one + (i + n - a.one) = i + n := by omega
        rw [e, Nat.add_mod_right, Nat.mod_eq_of_lt hi]
theorem mem_tiesBack {n i : Nat} {a : Ask} (h : AskOk n a) : i ∈ tiesBack n a ↔ i < n ∧ on n a i = false := by
  obtain ⟨h1, h2, h3, h4⟩ := id h
  unfold tiesBack
  rw [List.mem_map]
  constructor
  · rintro ⟨s, hs, rfl⟩
    rw [List.mem_range, mod_back h1 h2] at hs
    have hl : (a.one + n - 1 - s) % n < n := Nat.mod_lt _ (by omega)
    refine ⟨hl, (on_false h hl).mpr ?_⟩
    rw [mod_up (by omega)]
    split at hs <;> split <;> omega
  · rintro ⟨hi, ho⟩
    have ho := (on_false h hi).mp ho
    refine ⟨(a.one + n - 1 - i) % n, ?_, ?_⟩
    · rw [List.mem_range, mod_back h1 h2, mod_up (by omega)]
      split <;> split <;> omega
    · rw [mod_up (x := a.one + n - 1 - i) (by omega)]
      split
      · have e : a.one + n - 1 - (a.one + n - 1 - i) = i := by omega
        rw [e, Nat.mod_eq_of_lt hi]
      · have e : a.one + n - 1 - (a.one + n - 1 - i - n) = i + n := by omega
        rw [e, Nat.add_mod_right, Nat.mod_eq_of_lt hi]
theorem mem_tiesOf {n i : Nat} {a : Ask} {way : Bool} (h : AskOk n a) : i ∈ tiesOf n a way ↔ i < n ∧ on n a i = way := by
  cases way with
  | true => exact mem_tiesOn h
  | false => exact mem_tiesBack h
theorem tiesOf_lt {n i : Nat} {a : Ask} {way : Bool} (hn : 0 < n) (h : i ∈ tiesOf n a way) : i < n := by
  cases way with
  | true =>
    obtain ⟨s, _, rfl⟩ := List.mem_map.mp (show i ∈ tiesOn n a from h)
    exact Nat.mod_lt _ hn
  | false =>
    obtain ⟨s, _, rfl⟩ := List.mem_map.mp (show i ∈ tiesBack n a from h)
    exact Nat.mod_lt _ hn

/-! ### filling -/
def lesser (a b : Rat) : Rat := if b < a then b else a
def greater (a b : Rat) : Rat := if a < b then b else a
def free (R : Ring) (top : Rat) (ps : List Rat) (t : Nat) (i : Nat) : Rat := top * R.room i - S t fun k => over R.n (R.at k) (pt ps k) i
def crossed (R : Ring) (i j : Nat) (k : Nat) : Rat := if apart (min i j, max i j) (R.at k) then (R.at k).size else 0
def left (R : Ring) (t : Nat) (i j : Nat) : Rat := S R.m (crossed R i j) - S t (crossed R i j)
def slack (R : Ring) (top : Rat) (ps : List Rat) (t : Nat) (i j : Nat) : Rat := free R top ps t i + free R top ps t j - left R t i j
def leastOver (f : Nat → Nat → Rat) (ties : List Nat) (x : Rat) : Rat :=
  (List.range ties.length).foldl (fun x p => (ties.drop p).foldl (fun x j => lesser x (f (ties.getD p 0) j)) x) x
def mostOn (R : Ring) (top : Rat) (ps : List Rat) (t : Nat) : Rat := leastOver (fun i j => slack R top ps t i j / 2) (tiesOf R.n (R.at t) true) (R.at t).size
def fill (R : Ring) (top : Rat) : Nat → List Rat
  | 0 => []
  | t + 1 => fill R top t ++ [mostOn R top (fill R top t) t]
theorem fill_len {R : Ring} {top : Rat} : ∀ t, (fill R top t).length = t
  | 0 => rfl
  | t + 1 => by
    show (fill R top t ++ [_]).length = t + 1
    rw [List.length_append, fill_len t]
    rfl
theorem pt_fill {R : Ring} {top : Rat} {t k : Nat} (h : k < t) : pt (fill R top (t + 1)) k = pt (fill R top t) k := by
  show (fill R top t ++ [_]).getD k 0 = (fill R top t).getD k 0
  have hl := fill_len (R := R) (top := top) t
  simp only [List.getD_eq_getElem?_getD]
  rw [List.getElem?_append_left (by omega)]
theorem pt_fill_last {R : Ring} {top : Rat} {t : Nat} : pt (fill R top (t + 1)) t = mostOn R top (fill R top t) t := by
  show (fill R top t ++ [_]).getD t 0 = _
  have hl := fill_len (R := R) (top := top) t
  simp only [List.getD_eq_getElem?_getD]
  rw [List.getElem?_append_right (by omega), hl]
  simp

theorem fold_lesser {α : Type} {f : α → Rat} : ∀ (l : List α) (x : Rat), l.foldl (fun x a => lesser x (f a)) x ≤ x ∧ (∀ a ∈ l, l.foldl (fun x a => lesser x (f a)) x ≤ f a) ∧
    (l.foldl (fun x a => lesser x (f a)) x = x ∨ ∃ a ∈ l, l.foldl (fun x a => lesser x (f a)) x = f a)
  | [], x => ⟨Rat.le_refl, fun a h => by simp at h, .inl rfl⟩
  | a :: l, x => by
    rw [List.foldl_cons]
    obtain ⟨h1, h2, h3⟩ := fold_lesser (f := f) l (lesser x (f a))
    have e1 : lesser x (f a) ≤ x := by unfold lesser; split <;> grind
    have e2 : lesser x (f a) ≤ f a := by unfold lesser; split <;> grind
    have e3 : lesser x (f a) = x ∨ lesser x (f a) = f a := by unfold lesser; split <;> simp
    refine ⟨Rat.le_trans h1 e1, ?_, ?_⟩
    · intro b hb
      rcases List.mem_cons.mp hb with rfl | hb
      · exact Rat.le_trans h1 e2
      · exact h2 b hb
    · rcases h3 with h3 | ⟨b, hb, h3⟩
      · rcases e3 with e3 | e3
        · exact .inl (h3.trans e3)
        · exact .inr ⟨a, List.mem_cons_self .., h3.trans e3⟩
      · exact .inr ⟨b, List.mem_cons_of_mem _ hb, h3⟩
theorem leastOver_spec {f : Nat → Nat → Rat} (sym : ∀ i j, f i j = f j i) {ties : List Nat} {x : Rat} : leastOver f ties x ≤ x ∧ (∀ i ∈ ties, ∀ j ∈ ties, leastOver f ties x ≤ f i j) ∧ (leastOver f ties x = x ∨ ∃ i ∈ ties, ∃ j ∈ ties, leastOver f ties x = f i j) := by
  have e : leastOver f ties x = ((List.range ties.length).flatMap fun p => (ties.drop p).map fun j => (ties.getD p 0, j)).foldl (fun x c => lesser x (f c.1 c.2)) x := by
    unfold leastOver
    rw [List.foldl_flatMap]
    simp only [List.foldl_map]
  obtain ⟨h1, h2, h3⟩ := fold_lesser (f := fun c : Nat × Nat => f c.1 c.2) ((List.range ties.length).flatMap fun p => (ties.drop p).map fun j => (ties.getD p 0, j)) x
  rw [← e] at h1 h2 h3
  refine ⟨h1, ?_, ?_⟩
  · have key : ∀ p q : Nat, p ≤ q → q < ties.length → leastOver f ties x ≤ f (ties.getD p 0) (ties.getD q 0) := fun p q hpq hq => by
      refine h2 (ties.getD p 0, ties.getD q 0) ?_
      rw [List.mem_flatMap]
      refine ⟨p, List.mem_range.mpr (by omega), List.mem_map.mpr ⟨ties.getD q 0, ?_, rfl⟩⟩
      rw [List.mem_iff_getElem?]
      refine ⟨q - p, ?_⟩
      rw [List.getElem?_drop, show p + (q - p) = q by omega, List.getD_eq_getElem?_getD, List.getElem?_eq_getElem hq]
      rfl
    intro i hi j hj
    obtain ⟨p, hp, rfl⟩ := List.mem_iff_getElem.mp hi
    obtain ⟨q, hq, rfl⟩ := List.mem_iff_getElem.mp hj
    have g : ∀ (p : Nat) (h : p < ties.length), ties.getD p 0 = ties[p] := fun p h => by
      rw [List.getD_eq_getElem?_getD, List.getElem?_eq_getElem h]
      rfl
    rw [← g p hp, ← g q hq]
    by_cases hpq : p ≤ q
    · exact key p q hpq hq
    · rw [sym]
      exact key q p (by omega) hp
  · rcases h3 with h3 | ⟨c, hc, h3⟩
    · exact .inl h3
    · refine .inr ?_
      rw [List.mem_flatMap] at hc
      obtain ⟨p, hp, hc⟩ := hc
      rw [List.mem_range] at hp
      obtain ⟨j, hj, rfl⟩ := List.mem_map.mp hc
      refine ⟨ties.getD p 0, ?_, j, List.mem_of_mem_drop hj, h3⟩
      rw [List.getD_eq_getElem?_getD, List.getElem?_eq_getElem hp]
      exact List.getElem_mem hp
/-! ### the filling keeps the cut condition -/
theorem on_same {n i j : Nat} {a : Ask} (h : AskOk n a) (hi : i < n) (hj : j < n) :
    (on n a i = on n a j) ↔ ((min a.one a.other ≤ i ∧ i < max a.one a.other) ↔ (min a.one a.other ≤ j ∧ j < max a.one a.other)) := by
  rw [Bool.eq_iff_iff, on_iff h hi, on_iff h hj]
  obtain ⟨h1, h2, h3, _⟩ := h
  omega
theorem no_three {x1 y1 x2 y2 x3 y3 g h p q : Nat}
    (a1 : (x1 ≤ g ∧ g < y1) ↔ (x1 ≤ h ∧ h < y1)) (a2 : (x1 ≤ p ∧ p < y1) ↔ (x1 ≤ q ∧ q < y1)) (a3 : ¬ ((x1 ≤ g ∧ g < y1) ↔ (x1 ≤ p ∧ p < y1)))
    (b1 : (x2 ≤ g ∧ g < y2) ↔ (x2 ≤ p ∧ p < y2)) (b2 : (x2 ≤ h ∧ h < y2) ↔ (x2 ≤ q ∧ q < y2)) (b3 : ¬ ((x2 ≤ g ∧ g < y2) ↔ (x2 ≤ h ∧ h < y2)))
    (c1 : (x3 ≤ g ∧ g < y3) ↔ (x3 ≤ q ∧ q < y3)) (c2 : (x3 ≤ h ∧ h < y3) ↔ (x3 ≤ p ∧ p < y3)) (c3 : ¬ ((x3 ≤ g ∧ g < y3) ↔ (x3 ≤ h ∧ h < y3))) : False := by
  have A : ((x1 ≤ g ∧ g < y1) ∧ (x1 ≤ h ∧ h < y1) ∧ ¬ (x1 ≤ p ∧ p < y1) ∧ ¬ (x1 ≤ q ∧ q < y1)) ∨ (¬ (x1 ≤ g ∧ g < y1) ∧ ¬ (x1 ≤ h ∧ h < y1) ∧ (x1 ≤ p ∧ p < y1) ∧ (x1 ≤ q ∧ q < y1)) := by
    revert a1 a2 a3
    generalize (x1 ≤ g ∧ g < y1) = A; generalize (x1 ≤ h ∧ h < y1) = B; generalize (x1 ≤ p ∧ p < y1) = C; generalize (x1 ≤ q ∧ q < y1) = D
    grind
  have B : ((x2 ≤ g ∧ g < y2) ∧ (x2 ≤ p ∧ p < y2) ∧ ¬ (x2 ≤ h ∧ h < y2) ∧ ¬ (x2 ≤ q ∧ q < y2)) ∨ (¬ (x2 ≤ g ∧ g < y2) ∧ ¬ (x2 ≤ p ∧ p < y2) ∧ (x2 ≤ h ∧ h < y2) ∧ (x2 ≤ q ∧ q < y2)) := by
    revert b1 b2 b3
    generalize (x2 ≤ g ∧ g < y2) = A; generalize (x2 ≤ h ∧ h < y2) = B; generalize (x2 ≤ p ∧ p < y2) = C; generalize (x2 ≤ q ∧ q < y2) = D
    grind
  have C : ((x3 ≤ g ∧ g < y3) ∧ (x3 ≤ q ∧ q < y3) ∧ ¬ (x3 ≤ h ∧ h < y3) ∧ ¬ (x3 ≤ p ∧ p < y3)) ∨ (¬ (x3 ≤ g ∧ g < y3) ∧ ¬ (x3 ≤ q ∧ q < y3) ∧ (x3 ≤ h ∧ h < y3) ∧ (x3 ≤ p ∧ p < y3)) := by
    revert c1 c2 c3
    generalize (x3 ≤ g ∧ g < y3) = A; generalize (x3 ≤ h ∧ h < y3) = B; generalize (x3 ≤ p ∧ p < y3) = C; generalize (x3 ≤ q ∧ q < y3) = D
    grind
  clear a1 a2 a3 b1 b2 b3 c1 c2 c3
  rcases A with A | A <;> rcases B with B | B <;> rcases C with C | C <;> omega
def Alt (n : Nat) (b : Ask) (g h p q : Nat) : Prop := on n b g = on n b p ∧ on n b h = on n b q ∧ on n b g ≠ on n b h
theorem pairing {n g h p q : Nat} {a : Ask} (ok : AskOk n a) (hg : g < n) (hh : h < n) (hp : p < n) (hq : q < n) (eg : on n a g = true) (eh : on n a h = true) (ep : on n a p = false) (eq : on n a q = false) :
    (∀ b, AskOk n b → ¬ Alt n b g h p q) ∨ (∀ b, AskOk n b → ¬ Alt n b g h q p) := by
  by_cases z : ∃ b, AskOk n b ∧ Alt n b g h p q
  · refine .inr fun c okc hc => ?_
    obtain ⟨b, okb, hb⟩ := z
    obtain ⟨b1, b2, b3⟩ := hb
    obtain ⟨c1, c2, c3⟩ := hc
    have a1 := (on_same ok hg hh).mp (eg.trans eh.symm)
    have a2 := (on_same ok hp hq).mp (ep.trans eq.symm)
    have a3 := fun w => (show ¬ (on n a g = on n a p) by rw [eg, ep]; decide) ((on_same ok hg hp).mpr w)
    exact no_three a1 a2 a3 ((on_same okb hg hp).mp b1) ((on_same okb hh hq).mp b2) (fun w => b3 ((on_same okb hg hh).mpr w)) ((on_same okc hg hq).mp c1) ((on_same okc hh hp).mp c2) (fun w => c3 ((on_same okc hg hh).mpr w))
  · exact .inl fun b okb hb => z ⟨b, okb, hb⟩
theorem crossed_eq {R : Ring} (ok : RingOk R) {i j k : Nat} (hi : i < R.n) (hj : j < R.n) (hk : k < R.m) : crossed R i j k = if on R.n (R.at k) i ≠ on R.n (R.at k) j then (R.at k).size else 0 := by
  unfold crossed
  have h := apart_on (ok.ask k hk) (show min i j ≤ max i j by omega) (show max i j < R.n by omega)
  by_cases c : i ≤ j
  · rw [Nat.min_eq_left c, Nat.max_eq_right c] at h ⊢
    by_cases e : apart (i, j) (R.at k) = true
    · rw [if_pos e, if_pos (h.mp e)]
    · rw [if_neg e, if_neg fun z => e (h.mpr z)]
  · rw [Nat.min_eq_right (by omega), Nat.max_eq_left (by omega)] at h ⊢
    by_cases e : apart (j, i) (R.at k) = true
    · rw [if_pos e, if_pos fun z => (h.mp e) z.symm]
    · rw [if_neg e, if_neg fun z => e (h.mpr fun y => z y.symm)]
theorem crossed_sym {R : Ring} {i j k : Nat} : crossed R i j k = crossed R j i k := by
  unfold crossed
  rw [Nat.min_comm, Nat.max_comm]
theorem left_sym {R : Ring} {t i j : Nat} : left R t i j = left R t j i := by
  unfold left
  have e : crossed R i j = crossed R j i := funext fun k => crossed_sym
  rw [e]
theorem slack_sym {R : Ring} {top : Rat} {ps : List Rat} {t i j : Nat} : slack R top ps t i j = slack R top ps t j i := by
  unfold slack
  rw [left_sym]
  grind
/-- a sum from t on -/
theorem tail_le {t m : Nat} {f g : Nat → Rat} (tm : t ≤ m) (h : ∀ k, t ≤ k → k < m → f k ≤ g k) : S m f - S t f ≤ S m g - S t g := by
  induction m with
  | zero =>
    have e : t = 0 := by omega
    subst e
    grind
  | succ m ih =>
    by_cases e : t = m + 1
    · subst e
      grind
    · have h1 := ih (by omega) fun k a b => h k a (by omega)
      have h2 := h m (by omega) (by omega)
      simp only [S]
      grind
theorem left_succ {R : Ring} {t i j : Nat} : left R (t + 1) i j = left R t i j - crossed R i j t := by
  unfold left
  simp only [S]
  grind
theorem left_nonneg {R : Ring} (ok : RingOk R) {t i j : Nat} (ht : t ≤ R.m) : 0 ≤ left R t i j := by
  unfold left
  have h := tail_le (f := fun _ => 0) (g := crossed R i j) ht fun k _ hk => by
    unfold crossed
    split
    · exact (ok.ask k hk).pos
    · exact Rat.le_refl
  rw [S_zero (fun _ _ => rfl), S_zero (fun _ _ => rfl)] at h
  grind
/-- g, h on the ask's way, p, q not: what is crossed -/
theorem exchange {R : Ring} (ok : RingOk R) {t g h p q : Nat} (ht : t < R.m) (hg : g < R.n) (hh : h < R.n) (hp : p < R.n) (hq : q < R.n)
    (eg : on R.n (R.at t) g = true) (eh : on R.n (R.at t) h = true) (ep : on R.n (R.at t) p = false) (eq : on R.n (R.at t) q = false)
    (na : ∀ b, AskOk R.n b → ¬ Alt R.n b g h p q) : left R t g h + left R t p q + 2 * (R.at t).size ≤ left R t g p + left R t h q := by
  have key : ∀ k, t + 1 ≤ k → k < R.m → crossed R g h k + crossed R p q k ≤ crossed R g p k + crossed R h q k := fun k _ hk => by
    rw [crossed_eq ok hg hh hk, crossed_eq ok hp hq hk, crossed_eq ok hg hp hk, crossed_eq ok hh hq hk]
    have n1 := na _ (ok.ask k hk)
    have n2 := (ok.ask k hk).pos
    unfold Alt at n1
    cases a1 : on R.n (R.at k) g <;> cases a2 : on R.n (R.at k) h <;> cases a3 : on R.n (R.at k) p <;> cases a4 : on R.n (R.at k) q <;> simp [a1, a2, a3, a4] at n1 ⊢ <;> grind
  have tl := tail_le (f := fun k => crossed R g h k + crossed R p q k) (g := fun k => crossed R g p k + crossed R h q k) (show t + 1 ≤ R.m by omega) key
  rw [S_add, S_add, S_add, S_add] at tl
  have c1 : crossed R g h t = 0 := by rw [crossed_eq ok hg hh ht, eg, eh]; simp
  have c2 : crossed R p q t = 0 := by rw [crossed_eq ok hp hq ht, ep, eq]; simp
  have c3 : crossed R g p t = (R.at t).size := by rw [crossed_eq ok hg hp ht, eg, ep]; simp
  have c4 : crossed R h q t = (R.at t).size := by rw [crossed_eq ok hh hq ht, eh, eq]; simp
  unfold left
  simp only [S] at tl
  grind
structure FillOk (R : Ring) (top : Rat) (t : Nat) : Prop where
  part : ∀ k, k < t → 0 ≤ pt (fill R top t) k ∧ pt (fill R top t) k ≤ (R.at k).size
  slack : ∀ i j, i < R.n → j < R.n → 0 ≤ slack R top (fill R top t) t i j
theorem div_le {a b c : Rat} (hb : 0 < b) (h : a / b ≤ c) : a ≤ c * b := by
  exact Rat.not_lt.mp fun z => Rat.not_lt.mpr h ((Rat.lt_div_iff hb).mpr z)
theorem slack_zero {R : Ring} {top : Rat} (ok : RingOk R) (hc : ∀ c : Nat × Nat, c.1 ≤ c.2 → c.2 < R.n → shown R c ≤ top) {i j : Nat} (hi : i < R.n) (hj : j < R.n) : 0 ≤ slack R top [] 0 i j := by
  have h := hc (min i j, max i j) (by show min i j ≤ max i j; omega) (by show max i j < R.n; omega)
  have r1 := ok.room i hi
  have r2 := ok.room j hj
  have r3 : R.room (min i j) + R.room (max i j) = R.room i + R.room j := by
    by_cases c : i ≤ j
    · rw [Nat.min_eq_left c, Nat.max_eq_right c]
    · rw [Nat.min_eq_right (by omega), Nat.max_eq_left (by omega)]
      grind
  have h2 : across R (min i j, max i j) ≤ top * (R.room i + R.room j) := by
    unfold shown at h
    rw [← r3]
    exact div_le (by rw [r3]; grind) h
  unfold slack free left
  simp only [S]
  have e : S R.m (crossed R i j) = across R (min i j, max i j) := rfl
  rw [e]
  grind
theorem slack_succ {R : Ring} {top : Rat} {t i j : Nat} :
    slack R top (fill R top (t + 1)) (t + 1) i j = slack R top (fill R top t) t i j - over R.n (R.at t) (mostOn R top (fill R top t) t) i - over R.n (R.at t) (mostOn R top (fill R top t) t) j + crossed R i j t := by
  unfold slack
  rw [left_succ]
  unfold free
  simp only [S]
  rw [pt_fill_last]
  have e : ∀ i, (S t fun k => over R.n (R.at k) (pt (fill R top (t + 1)) k) i) = S t fun k => over R.n (R.at k) (pt (fill R top t) k) i := fun i => S_eq fun k hk => by rw [pt_fill hk]
  rw [e, e]
  grind
theorem half_sym {R : Ring} {top : Rat} {ps : List Rat} {t : Nat} (i j : Nat) : slack R top ps t i j / 2 = slack R top ps t j i / 2 := by rw [slack_sym]
theorem fill_ok {R : Ring} {top : Rat} (ok : RingOk R) (hc : ∀ c : Nat × Nat, c.1 ≤ c.2 → c.2 < R.n → shown R c ≤ top) : ∀ t, t ≤ R.m → FillOk R top t
  | 0, _ => ⟨fun k hk => by omega, fun i j hi hj => slack_zero ok hc hi hj⟩
  | t + 1, ht => by
    have ih := fill_ok ok hc t (by omega)
    have oka := ok.ask t (by omega)
    obtain ⟨p1, p2, p3⟩ := leastOver_spec (f := fun i j => slack R top (fill R top t) t i j / 2) half_sym (ties := tiesOf R.n (R.at t) true) (x := (R.at t).size)
    have e : leastOver (fun i j => slack R top (fill R top t) t i j / 2) (tiesOf R.n (R.at t) true) (R.at t).size = mostOn R top (fill R top t) t := rfl
    rw [e] at p1 p2 p3
    have pos : 0 ≤ mostOn R top (fill R top t) t := by
      rcases p3 with p3 | ⟨i, hi, j, hj, p3⟩
      · rw [p3]
        exact oka.pos
      · rw [p3]
        have := ih.slack i j ((mem_tiesOf oka).mp hi).1 ((mem_tiesOf oka).mp hj).1
        grind
    refine ⟨fun k hk => ?_, fun i j hi hj => ?_⟩
    · by_cases hkt : k < t
      · rw [pt_fill hkt]
        exact ih.part k hkt
      · have : k = t := by omega
        subst this
        rw [pt_fill_last]
        exact ⟨pos, p1⟩
    · rw [slack_succ, crossed_eq ok hi hj (by omega)]
      have s0 := ih.slack i j hi hj
      unfold over
      cases ei : on R.n (R.at t) i <;> cases ej : on R.n (R.at t) j
      · simp only [ne_eq, not_true, if_false, Bool.false_eq_true, ↓reduceIte]
        rcases p3 with p3 | ⟨g, hg, h, hh, p3⟩
        · grind
        · obtain ⟨g1, g2⟩ := (mem_tiesOf oka).mp hg
          obtain ⟨h1, h2⟩ := (mem_tiesOf oka).mp hh
          have tight : slack R top (fill R top t) t g h + slack R top (fill R top t) t i j ≥ 2 * (R.at t).size := by
            rcases pairing oka g1 h1 hi hj g2 h2 ei ej with na | na
            · have ex := exchange ok (show t < R.m by omega) g1 h1 hi hj g2 h2 ei ej na
              have a1 := ih.slack g i g1 hi
              have a2 := ih.slack h j h1 hj
              unfold slack at a1 a2 ⊢
              grind
            · have ex := exchange ok (show t < R.m by omega) g1 h1 hj hi g2 h2 ej ei na
              have a1 := ih.slack g j g1 hj
              have a2 := ih.slack h i h1 hi
              rw [left_sym (i := j) (j := i)] at ex
              unfold slack at a1 a2 ⊢
              grind
          grind
      · simp
        grind
      · simp
        grind
      · simp
        have a1 := p2 i ((mem_tiesOf oka).mpr ⟨hi, ei⟩) j ((mem_tiesOf oka).mpr ⟨hj, ej⟩)
        grind
/-- the told sending: a sending, no load above the top's share -/
theorem fill_sok {R : Ring} {top : Rat} (ok : RingOk R) (hc : ∀ c : Nat × Nat, c.1 ≤ c.2 → c.2 < R.n → shown R c ≤ top) : SOk R (fill R top R.m) :=
  ⟨fill_len _, (fill_ok ok hc R.m (Nat.le_refl _)).part⟩
theorem fill_load {R : Ring} {top : Rat} (ok : RingOk R) (hc : ∀ c : Nat × Nat, c.1 ≤ c.2 → c.2 < R.n → shown R c ≤ top) {i : Nat} (hi : i < R.n) : load R (fill R top R.m) i ≤ top * R.room i := by
  have h := (fill_ok ok hc R.m (Nat.le_refl _)).slack i i hi hi
  have e : left R R.m i i = 0 := by unfold left; grind
  unfold slack free at h
  rw [e] at h
  unfold load
  grind
/-! ### the top -/
def strain (R : Ring) (s : List Rat) (i : Nat) : Rat := load R s i / R.room i
def bestIx (st : Nat → Rat) : Nat → Nat
  | 0 => 0
  | t + 1 => if st (bestIx st t) < st (t + 1) then t + 1 else bestIx st t
theorem bestIx_le (st : Nat → Rat) : ∀ t, bestIx st t ≤ t
  | 0 => Nat.le_refl _
  | t + 1 => by
    have h := bestIx_le st t
    unfold bestIx
    split <;> omega
theorem bestIx_max (st : Nat → Rat) : ∀ t i, i ≤ t → st i ≤ st (bestIx st t)
  | 0, i, h => by
    have e : i = 0 := by omega
    subst e
    exact Rat.le_refl
  | t + 1, i, h => by
    have ih := bestIx_max st t
    unfold bestIx
    split
    · rename_i c
      by_cases e : i = t + 1
      · subst e
        exact Rat.le_refl
      · exact Rat.le_trans (ih i (by omega)) (Rat.le_of_lt c)
    · rename_i c
      by_cases e : i = t + 1
      · subst e
        exact Rat.not_lt.mp c
      · exact ih i (by omega)
/-- the greatest strain, and the first tie that has it -/
def topOf (R : Ring) (s : List Rat) : Rat × Nat := (strain R s (bestIx (strain R s) (R.n - 1)), bestIx (strain R s) (R.n - 1))
theorem topOf_ge {R : Ring} {s : List Rat} {i : Nat} (hi : i < R.n) : strain R s i ≤ (topOf R s).1 := bestIx_max _ _ _ (by omega)
theorem topOf_at {R : Ring} {s : List Rat} (hn : 0 < R.n) : ∃ i, i < R.n ∧ (topOf R s).1 = strain R s i := ⟨bestIx (strain R s) (R.n - 1), by have := bestIx_le (strain R s) (R.n - 1); omega, rfl⟩
theorem strain_le {R : Ring} (ok : RingOk R) {s : List Rat} {i : Nat} {x : Rat} (hi : i < R.n) : strain R s i ≤ x ↔ load R s i ≤ x * R.room i := by
  unfold strain
  have h := ok.room i hi
  constructor
  · exact fun q => Rat.not_lt.mp fun z => Rat.not_lt.mpr q ((Rat.lt_div_iff h).mpr z)
  · exact fun q => Rat.not_lt.mp fun z => Rat.not_lt.mpr q ((Rat.lt_div_iff h).mp z)
/-- the told least top: the sending has just this -/
theorem top_fill {R : Ring} (ok : RingOk R) : (topOf R (fill R (gcut R).1 R.m)).1 = (gcut R).1 := by
  have hn : 0 < R.n := by have := ok.two; omega
  obtain ⟨g1, g2, g3, g4⟩ := gcut_spec (R := R) hn
  have so := fill_sok ok g4
  refine Rat.le_antisymm ?_ ?_
  · obtain ⟨i, hi, e⟩ := topOf_at (R := R) (s := fill R (gcut R).1 R.m) hn
    rw [e, strain_le ok hi]
    exact fill_load ok g4 hi
  · refine Rat.not_lt.mp fun z => ?_
    have l1 := (strain_le ok (s := fill R (gcut R).1 R.m) (show (gcut R).2.1 < R.n by omega)).mp (topOf_ge (by omega))
    have l2 := (strain_le ok (s := fill R (gcut R).1 R.m) g3).mp (topOf_ge g3)
    have cl := cut_le ok so g2 g3
    have r1 := ok.room (gcut R).2.1 (by omega)
    have r2 := ok.room (gcut R).2.2 g3
    have e : across R (gcut R).2 = (gcut R).1 * (R.room (gcut R).2.1 + R.room (gcut R).2.2) := by
      rw [g1]
      unfold shown
      rw [Rat.div_mul_cancel (by grind)]
    have e2 : across R ((gcut R).2.1, (gcut R).2.2) = across R (gcut R).2 := rfl
    rw [e2, e] at cl
    have m1 := Rat.mul_lt_mul_of_pos_right z (show (0 : Rat) < R.room (gcut R).2.1 + R.room (gcut R).2.2 by grind)
    grind

/-! ### slides -/
structure Slide where
  k : Nat
  way : Bool
  l : Nat
  other : Bool
  amt : Rat
def cross (a b : Ask) : Bool :=
  if a.one = b.one ∨ a.one = b.other ∨ a.other = b.one ∨ a.other = b.other then false
  else decide (([b.one, b.other].filter fun p => decide (min a.one a.other < p) && decide (p < max a.one a.other)).length = 1)
def parted (R : Ring) (s : List Rat) (k : Nat) : Bool := decide (0 < pt s k) && decide (pt s k < (R.at k).size)
def partedL (R : Ring) (s : List Rat) : List Nat := (List.range R.m).filter (parted R s)
def gone (R : Ring) (s : List Rat) (k : Nat) (way : Bool) : Rat := if way then pt s k else (R.at k).size - pt s k
def aprt (R : Ring) (k : Nat) (way : Bool) (l : Nat) (other : Bool) : Bool := ((tiesOf R.n (R.at k) way).filter fun i => decide (i ∈ tiesOf R.n (R.at l) other)).isEmpty
def bothWays : List (Bool × Bool) := [(true, true), (true, false), (false, true), (false, false)]
def waysApart (R : Ring) (k l : Nat) : Option (Bool × Bool) := bothWays.find? fun w => aprt R k w.1 l w.2
def slideAt (R : Ring) (s : List Rat) (k l : Nat) : Slide :=
  let w := (waysApart R k l).getD (true, true)
  ⟨k, w.1, l, w.2, lesser (gone R s k (!w.1)) (gone R s l (!w.2))⟩
def nextSlide (R : Ring) (s : List Rat) : Option Slide :=
  (partedL R s).findSome? fun k => (partedL R s).findSome? fun l => if k < l ∧ cross (R.at k) (R.at l) = false then some (slideAt R s k l) else none
def moved (s : List Rat) (k : Nat) (way : Bool) (amt : Rat) : List Rat := s.set k (if way then pt s k + amt else pt s k - amt)
def slid (s : List Rat) (z : Slide) : List Rat := moved (moved s z.k z.way z.amt) z.l z.other z.amt
def slidesGo (R : Ring) : Nat → List Rat → List Slide
  | 0, _ => []
  | f + 1, s => match nextSlide R s with
    | none => []
    | some z => z :: slidesGo R f (slid s z)
/-- slides for a sending -/
def slidesFor (R : Ring) (s : List Rat) : List Slide := slidesGo R (R.m + 1) s
def behind (s : List Rat) (zs : List Slide) : List Rat := zs.foldl slid s

structure SlideOk (R : Ring) (s : List Rat) (z : Slide) : Prop where
  k : z.k < R.m
  l : z.l < R.m
  ne : z.k ≠ z.l
  pos : 0 < z.amt
  le1 : z.amt ≤ gone R s z.k (!z.way)
  le2 : z.amt ≤ gone R s z.l (!z.other)
  ap : aprt R z.k z.way z.l z.other = true
def SlidesOk (R : Ring) : List Rat → List Slide → Prop
  | _, [] => True
  | s, z :: zs => SlideOk R s z ∧ SlidesOk R (slid s z) zs

theorem aprt_iff {R : Ring} (ok : RingOk R) {k l : Nat} {way other : Bool} (hk : k < R.m) (hl : l < R.m) : aprt R k way l other = true ↔ ∀ i, i < R.n → ¬ (on R.n (R.at k) i = way ∧ on R.n (R.at l) i = other) := by
  unfold aprt
  rw [List.isEmpty_iff, List.filter_eq_nil_iff]
  constructor
  · rintro h i hi ⟨h1, h2⟩
    exact h i ((mem_tiesOf (ok.ask k hk)).mpr ⟨hi, h1⟩) (decide_eq_true ((mem_tiesOf (ok.ask l hl)).mpr ⟨hi, h2⟩))
  · intro h i hi hd
    obtain ⟨h1, h2⟩ := (mem_tiesOf (ok.ask k hk)).mp hi
    exact h i h1 ⟨h2, ((mem_tiesOf (ok.ask l hl)).mp (of_decide_eq_true hd)).2⟩
theorem cross_iff {a b : Ask} : cross a b = true ↔ (a.one ≠ b.one ∧ a.one ≠ b.other ∧ a.other ≠ b.one ∧ a.other ≠ b.other) ∧ ¬ ((min a.one a.other < b.one ∧ b.one < max a.one a.other) ↔ (min a.one a.other < b.other ∧ b.other < max a.one a.other)) := by
  unfold cross
  split
  · rename_i h
    constructor
    · intro z; cases z
    · rintro ⟨⟨h1, h2, h3, h4⟩, _⟩
      exact absurd h (by simp [h1, h2, h3, h4])
  · rename_i h
    rw [decide_eq_true_iff, List.filter_cons, List.filter_cons, List.filter_nil]
    have h' : a.one ≠ b.one ∧ a.one ≠ b.other ∧ a.other ≠ b.one ∧ a.other ≠ b.other := by omega
    by_cases h1 : min a.one a.other < b.one <;> by_cases h2 : b.one < max a.one a.other <;> by_cases h3 : min a.one a.other < b.other <;> by_cases h4 : b.other < max a.one a.other <;> simp [h1, h2, h3, h4, h']
/-- the low and the high place -/
def lo (a : Ask) : Nat := min a.one a.other
def hi (a : Ask) : Nat := max a.one a.other
/-- the way by which one goes from the lesser place to the greater one by rising numbers -/
def dir (a : Ask) : Bool := decide (a.one < a.other)
theorem on_dir {n i : Nat} {a : Ask} (h : AskOk n a) (hn : i < n) : on n a i = dir a ↔ (lo a ≤ i ∧ i < hi a) := by
  have e := on_iff h hn
  have e2 := on_false h hn
  obtain ⟨h1, h2, h3, _⟩ := h
  unfold lo hi dir
  by_cases c : a.one < a.other
  · rw [decide_eq_true c, e]
    omega
  · rw [decide_eq_false c, e2]
    omega
theorem on_ndir {n i : Nat} {a : Ask} (h : AskOk n a) (hn : i < n) : on n a i = (!dir a) ↔ ¬ (lo a ≤ i ∧ i < hi a) := by
  rw [← on_dir h hn]
  cases on n a i <;> cases dir a <;> simp
/-- asks that do not cross stand side by side -/
theorem exists_apart {R : Ring} (ok : RingOk R) {k l : Nat} (hk : k < R.m) (hl : l < R.m) (nc : cross (R.at k) (R.at l) = false) : ∃ w, waysApart R k l = some w ∧ aprt R k w.1 l w.2 = true := by
  have oa := ok.ask k hk
  have ob := ok.ask l hl
  have ex : ∃ u v : Bool, ∀ i, i < R.n → ¬ (on R.n (R.at k) i = u ∧ on R.n (R.at l) i = v) := by
    have nc' : ¬ (cross (R.at k) (R.at l) = true) := by rw [nc]; decide
    rw [cross_iff] at nc'
    have a1 := oa.ne
    have b1 := ob.ne
    have key : ((∀ i, ¬ ((lo (R.at k) ≤ i ∧ i < hi (R.at k)) ∧ (lo (R.at l) ≤ i ∧ i < hi (R.at l)))) ∨ (∀ i, ¬ (¬ (lo (R.at k) ≤ i ∧ i < hi (R.at k)) ∧ (lo (R.at l) ≤ i ∧ i < hi (R.at l))))) ∨
        (∀ i, ¬ ((lo (R.at k) ≤ i ∧ i < hi (R.at k)) ∧ ¬ (lo (R.at l) ≤ i ∧ i < hi (R.at l)))) := by
      unfold lo hi
      by_cases c1 : max (R.at k).one (R.at k).other ≤ min (R.at l).one (R.at l).other ∨ max (R.at l).one (R.at l).other ≤ min (R.at k).one (R.at k).other
      · exact .inl (.inl fun i => by omega)
      · by_cases c2 : min (R.at k).one (R.at k).other ≤ min (R.at l).one (R.at l).other ∧ max (R.at l).one (R.at l).other ≤ max (R.at k).one (R.at k).other
        · exact .inl (.inr fun i => by omega)
        · exact .inr fun i => by omega
    rcases key with (key | key) | key
    · exact ⟨dir (R.at k), dir (R.at l), fun i hi ⟨h1, h2⟩ => key i ⟨(on_dir oa hi).mp h1, (on_dir ob hi).mp h2⟩⟩
    · exact ⟨!dir (R.at k), dir (R.at l), fun i hi ⟨h1, h2⟩ => key i ⟨(on_ndir oa hi).mp h1, (on_dir ob hi).mp h2⟩⟩
    · exact ⟨dir (R.at k), !dir (R.at l), fun i hi ⟨h1, h2⟩ => key i ⟨(on_dir oa hi).mp h1, (on_ndir ob hi).mp h2⟩⟩
  obtain ⟨u, v, huv⟩ := ex
  have ha := (aprt_iff ok hk hl).mpr huv
  cases e : waysApart R k l with
  | none =>
    unfold waysApart at e
    rw [List.find?_eq_none] at e
    have hm : (u, v) ∈ bothWays := by cases u <;> cases v <;> decide
    exact absurd ha (e (u, v) hm)
  | some w =>
    unfold waysApart at e
    exact ⟨w, rfl, List.find?_some (p := fun w : Bool × Bool => aprt R k w.1 l w.2) e⟩
theorem pt_set {s : List Rat} {k j : Nat} {x : Rat} (hk : k < s.length) : pt (s.set k x) j = if j = k then x else pt s j := by
  unfold pt
  rw [List.getD_eq_getElem?_getD, List.getElem?_set]
  by_cases e : k = j
  · subst e
    rw [if_pos rfl, if_pos hk, if_pos rfl]
    rfl
  · rw [if_neg e, if_neg fun z => e z.symm, List.getD_eq_getElem?_getD]
theorem moved_len {s : List Rat} {k : Nat} {w : Bool} {x : Rat} : (moved s k w x).length = s.length := List.length_set
theorem slid_len {s : List Rat} {z : Slide} : (slid s z).length = s.length := by
  unfold slid
  rw [moved_len, moved_len]
theorem pt_slid {s : List Rat} {z : Slide} (hk : z.k < s.length) (hl : z.l < s.length) (ne : z.k ≠ z.l) (j : Nat) :
    pt (slid s z) j = pt s j + (if j = z.k then (if z.way then z.amt else 0 - z.amt) else 0) + (if j = z.l then (if z.other then z.amt else 0 - z.amt) else 0) := by
  have h1 : ∀ j, pt (moved s z.k z.way z.amt) j = pt s j + (if j = z.k then (if z.way then z.amt else 0 - z.amt) else 0) := fun j => by
    unfold moved
    rw [pt_set hk]
    split
    · rename_i e
      subst e
      split <;> grind
    · grind
  unfold slid
  rw [show moved (moved s z.k z.way z.amt) z.l z.other z.amt = (moved s z.k z.way z.amt).set z.l (if z.other then pt (moved s z.k z.way z.amt) z.l + z.amt else pt (moved s z.k z.way z.amt) z.l - z.amt) from rfl,
    pt_set (by rw [moved_len]; exact hl), h1, h1]
  by_cases e : j = z.l
  · subst e
    have ne' : ¬ z.l = z.k := fun y => ne y.symm
    simp only [ne', if_false, if_true]
    cases z.other <;> simp <;> grind
  · rw [if_neg e, if_neg e]
    grind
theorem gone_sum {R : Ring} {s : List Rat} {k : Nat} {w : Bool} : gone R s k w + gone R s k (!w) = (R.at k).size := by
  unfold gone
  cases w <;> simp <;> grind
theorem slid_ok {R : Ring} {s : List Rat} (so : SOk R s) {z : Slide} (h : SlideOk R s z) : SOk R (slid s z) := by
  refine ⟨slid_len.trans so.len, fun j hj => ?_⟩
  have p := so.part j hj
  have p1 := h.le1
  have p2 := h.le2
  have p3 := h.pos
  have ne := h.ne
  rw [pt_slid (by rw [so.len]; exact h.k) (by rw [so.len]; exact h.l) ne]
  unfold gone at p1 p2
  by_cases e1 : j = z.k
  · subst e1
    rw [if_neg ne]
    cases hw : z.way <;> simp [hw] at p1 ⊢ <;> grind
  · by_cases e2 : j = z.l
    · subst e2
      cases hw : z.other <;> simp [hw, e1] at p2 ⊢ <;> grind
    · simp only [e1, e2, if_false]
      grind
theorem S_one {m k : Nat} (hk : k < m) (d : Rat) : S m (fun j => if j = k then d else 0) = d := by
  induction m with
  | zero => omega
  | succ m ih =>
    simp only [S]
    by_cases e : k = m
    · subst e
      rw [S_zero fun j hj => if_neg (by omega), if_pos rfl]
      grind
    · rw [ih (by omega), if_neg fun z => e z.symm]
      grind
theorem load_slid {R : Ring} (ok : RingOk R) {s : List Rat} (so : SOk R s) {z : Slide} (h : SlideOk R s z) {i : Nat} (hi : i < R.n) : load R (slid s z) i ≤ load R s i := by
  have e : load R (slid s z) i = load R s i + ((if on R.n (R.at z.k) i = z.way then z.amt else 0 - z.amt) + (if on R.n (R.at z.l) i = z.other then z.amt else 0 - z.amt)) := by
    unfold load
    rw [← S_one h.k (if on R.n (R.at z.k) i = z.way then z.amt else 0 - z.amt), ← S_one h.l (if on R.n (R.at z.l) i = z.other then z.amt else 0 - z.amt), ← S_add, ← S_add]
    refine S_eq fun j hj => ?_
    rw [pt_slid (by rw [so.len]; exact h.k) (by rw [so.len]; exact h.l) h.ne]
    have ne := h.ne
    unfold over
    by_cases e1 : j = z.k
    · subst e1
      rw [if_pos rfl, if_pos rfl, if_neg ne, if_neg ne]
      cases on R.n (R.at z.k) i <;> cases z.way <;> simp <;> grind
    · by_cases e2 : j = z.l
      · subst e2
        rw [if_pos rfl, if_pos rfl, if_neg e1, if_neg e1]
        cases on R.n (R.at z.l) i <;> cases z.other <;> simp <;> grind
      · rw [if_neg e1, if_neg e2, if_neg e1, if_neg e2]
        split <;> grind
  have a := (aprt_iff ok h.k h.l).mp h.ap i hi
  have p := h.pos
  rw [e]
  by_cases c1 : on R.n (R.at z.k) i = z.way
  · rw [if_pos c1, if_neg fun c2 => a ⟨c1, c2⟩]
    grind
  · rw [if_neg c1]
    split <;> grind
theorem filter_lt {α : Type} {p q : α → Bool} : ∀ (l : List α), (∀ x ∈ l, q x = true → p x = true) → (∃ x ∈ l, p x = true ∧ q x = false) → (l.filter q).length < (l.filter p).length
  | [], _, h => by
    obtain ⟨x, hx, _⟩ := h
    simp at hx
  | a :: l, h1, h2 => by
    have le : (l.filter q).length ≤ (l.filter p).length := by
      have : ∀ (l : List α), (∀ x ∈ l, q x = true → p x = true) → (l.filter q).length ≤ (l.filter p).length := by
        intro l
        induction l with
        | nil => intro _; simp
        | cons b l ih =>
          intro h
          have i1 := ih fun x hx => h x (List.mem_cons_of_mem _ hx)
          have i2 := h b (List.mem_cons_self ..)
          rw [List.filter_cons, List.filter_cons]
          cases hq : q b
          · simp only [Bool.false_eq_true, if_false]
            split
            · rw [List.length_cons]; omega
            · exact i1
          · rw [i2 hq]
            simp only [if_true, List.length_cons]
            omega
      exact this l fun x hx => h1 x (List.mem_cons_of_mem _ hx)
    rw [List.filter_cons, List.filter_cons]
    obtain ⟨x, hx, px, qx⟩ := h2
    rcases List.mem_cons.mp hx with rfl | hx
    · rw [px, qx]
      simp only [if_true, Bool.false_eq_true, if_false, List.length_cons]
      omega
    · have ih := filter_lt l (fun x hx => h1 x (List.mem_cons_of_mem _ hx)) ⟨x, hx, px, qx⟩
      have i2 := h1 a (List.mem_cons_self ..)
      cases hq : q a
      · simp only [Bool.false_eq_true, if_false]
        split
        · rw [List.length_cons]; omega
        · exact ih
      · rw [i2 hq]
        simp only [if_true, List.length_cons]
        omega
theorem mem_partedL {R : Ring} {s : List Rat} {k : Nat} : k ∈ partedL R s ↔ k < R.m ∧ 0 < pt s k ∧ pt s k < (R.at k).size := by
  unfold partedL parted
  rw [List.mem_filter, List.mem_range, Bool.and_eq_true, decide_eq_true_eq, decide_eq_true_eq]
theorem nextSlide_some {R : Ring} {s : List Rat} {z : Slide} (h : nextSlide R s = some z) : ∃ k l, k ∈ partedL R s ∧ l ∈ partedL R s ∧ k < l ∧ cross (R.at k) (R.at l) = false ∧ z = slideAt R s k l := by
  unfold nextSlide at h
  obtain ⟨k, hk, h⟩ := List.exists_of_findSome?_eq_some h
  obtain ⟨l, hl, h⟩ := List.exists_of_findSome?_eq_some h
  split at h
  · rename_i c
    cases h
    exact ⟨k, l, hk, hl, c.1, c.2, rfl⟩
  · cases h
theorem nextSlide_none {R : Ring} {s : List Rat} (h : nextSlide R s = none) {k l : Nat} (hk : k ∈ partedL R s) (hl : l ∈ partedL R s) (kl : k < l) : cross (R.at k) (R.at l) = true := by
  unfold nextSlide at h
  rw [List.findSome?_eq_none_iff] at h
  have h2 := h k hk
  rw [List.findSome?_eq_none_iff] at h2
  have h3 := h2 l hl
  split at h3
  · cases h3
  · rename_i c
    cases e : cross (R.at k) (R.at l) with
    | true => rfl
    | false => exact absurd ⟨kl, e⟩ c
theorem gone_pos {R : Ring} {s : List Rat} {k : Nat} (w : Bool) (h : 0 < pt s k ∧ pt s k < (R.at k).size) : 0 < gone R s k w := by
  unfold gone
  split <;> grind
theorem slideAt_ok {R : Ring} (ok : RingOk R) {s : List Rat} {k l : Nat} (hk : k ∈ partedL R s) (hl : l ∈ partedL R s) (kl : k < l) (nc : cross (R.at k) (R.at l) = false) : SlideOk R s (slideAt R s k l) := by
  have k1 := mem_partedL.mp hk
  have l1 := mem_partedL.mp hl
  obtain ⟨w, e, ha⟩ := exists_apart ok k1.1 l1.1 nc
  have p1 := gone_pos (!w.1) k1.2
  have p2 := gone_pos (!w.2) l1.2
  have e2 : slideAt R s k l = ⟨k, w.1, l, w.2, lesser (gone R s k (!w.1)) (gone R s l (!w.2))⟩ := by
    unfold slideAt
    rw [e]
    rfl
  rw [e2]
  refine ⟨k1.1, l1.1, by show k ≠ l; omega, ?_, ?_, ?_, ha⟩
  · show 0 < lesser _ _
    unfold lesser
    split <;> assumption
  · show lesser _ _ ≤ _
    unfold lesser
    split <;> grind
  · show lesser _ _ ≤ _
    unfold lesser
    split <;> grind
/-- behind a slide told one parted ask less is there -/
theorem slide_less {R : Ring} (ok : RingOk R) {s : List Rat} (so : SOk R s) {k l : Nat} (hk : k ∈ partedL R s) (hl : l ∈ partedL R s) (kl : k < l) (nc : cross (R.at k) (R.at l) = false) :
    (partedL R (slid s (slideAt R s k l))).length < (partedL R s).length := by
  have k1 := mem_partedL.mp hk
  have l1 := mem_partedL.mp hl
  have zo := slideAt_ok ok hk hl kl nc
  have ptz := pt_slid (s := s) (z := slideAt R s k l) (by rw [so.len]; exact zo.k) (by rw [so.len]; exact zo.l) zo.ne
  have ek : (slideAt R s k l).k = k := rfl
  have el : (slideAt R s k l).l = l := rfl
  have ea : (slideAt R s k l).amt = lesser (gone R s k (!(slideAt R s k l).way)) (gone R s l (!(slideAt R s k l).other)) := rfl
  refine filter_lt _ (fun j hj q => ?_) ?_
  · rw [List.mem_range] at hj
    by_cases c1 : j = k
    · rw [c1]
      exact (List.mem_filter.mp hk).2
    · by_cases c2 : j = l
      · rw [c2]
        exact (List.mem_filter.mp hl).2
      · unfold parted at q ⊢
        rw [ptz, ek, el, if_neg c1, if_neg c2] at q
        have e0 : pt s j + 0 + 0 = pt s j := by grind
        rw [e0] at q
        exact q
  · by_cases c : gone R s l (!(slideAt R s k l).other) < gone R s k (!(slideAt R s k l).way)
    · refine ⟨l, List.mem_range.mpr l1.1, (List.mem_filter.mp hl).2, ?_⟩
      unfold lesser at ea
      rw [if_pos c] at ea
      unfold parted
      have h1 : ¬ l = k := by omega
      rw [ptz, ek, el, ea]
      simp only [h1, if_true, if_false]
      unfold gone
      cases (slideAt R s k l).other <;> simp <;> grind
    · refine ⟨k, List.mem_range.mpr k1.1, (List.mem_filter.mp hk).2, ?_⟩
      unfold lesser at ea
      rw [if_neg c] at ea
      unfold parted
      have h1 : ¬ k = l := by omega
      rw [ptz, ek, el, ea]
      simp only [h1, if_true, if_false]
      unfold gone
      cases (slideAt R s k l).way <;> simp <;> grind
theorem slidesGo_ok {R : Ring} (ok : RingOk R) : ∀ (f : Nat) (s : List Rat), SOk R s → (partedL R s).length < f → SlidesOk R s (slidesGo R f s) ∧ SOk R (behind s (slidesGo R f s)) ∧ nextSlide R (behind s (slidesGo R f s)) = none ∧ (∀ i, i < R.n → load R (behind s (slidesGo R f s)) i ≤ load R s i)
  | 0, s, _, h => by omega
  | f + 1, s, so, h => by
    unfold slidesGo
    cases e : nextSlide R s with
    | none => exact ⟨trivial, so, e, fun _ _ => Rat.le_refl⟩
    | some z =>
      obtain ⟨k, l, hk, hl, kl, nc, rfl⟩ := nextSlide_some e
      have zo := slideAt_ok ok hk hl kl nc
      have ls := slide_less ok so hk hl kl nc
      have so' := slid_ok so zo
      obtain ⟨i1, i2, i3, i4⟩ := slidesGo_ok ok f _ so' (by omega)
      exact ⟨⟨zo, i1⟩, i2, i3, fun i hi => Rat.le_trans (i4 i hi) (load_slid ok so zo hi)⟩
theorem partedL_len {R : Ring} {s : List Rat} : (partedL R s).length ≤ R.m := by
  unfold partedL
  have := List.length_filter_le (parted R s) (List.range R.m)
  rw [List.length_range] at this
  exact this
theorem slidesFor_ok {R : Ring} (ok : RingOk R) {s : List Rat} (so : SOk R s) : SlidesOk R s (slidesFor R s) ∧ SOk R (behind s (slidesFor R s)) ∧ nextSlide R (behind s (slidesFor R s)) = none ∧ (∀ i, i < R.n → load R (behind s (slidesFor R s)) i ≤ load R s i) :=
  slidesGo_ok ok _ s so (by have := partedL_len (R := R) (s := s); omega)
/-! ### rounding -/
def le2 (x y : Nat × Nat) : Bool := decide (x.1 < y.1) || (decide (x.1 = y.1) && decide (x.2 ≤ y.2))
def ins2 (x : Nat × Nat) : List (Nat × Nat) → List (Nat × Nat)
  | [] => [x]
  | y :: l => if le2 x y then x :: y :: l else y :: ins2 x l
def sort2 : List (Nat × Nat) → List (Nat × Nat)
  | [] => []
  | x :: l => ins2 x (sort2 l)
theorem le2_iff {x y : Nat × Nat} : le2 x y = true ↔ x.1 < y.1 ∨ (x.1 = y.1 ∧ x.2 ≤ y.2) := by
  unfold le2
  simp only [Bool.or_eq_true, Bool.and_eq_true, decide_eq_true_eq]
theorem ins2_perm (x : Nat × Nat) : ∀ l, (ins2 x l).Perm (x :: l)
  | [] => List.Perm.refl _
  | y :: l => by
    unfold ins2
    split
    · exact List.Perm.refl _
    · exact ((ins2_perm x l).cons y).trans (List.Perm.swap x y l)
theorem sort2_perm : ∀ l, (sort2 l).Perm l
  | [] => List.Perm.refl _
  | x :: l => (ins2_perm x (sort2 l)).trans ((sort2_perm l).cons x)
theorem ins2_sorted (x : Nat × Nat) : ∀ l, l.Pairwise (fun a b => le2 a b = true) → (ins2 x l).Pairwise (fun a b => le2 a b = true)
  | [], _ => by unfold ins2; exact List.pairwise_singleton _ _
  | y :: l, h => by
    unfold ins2
    obtain ⟨h1, h2⟩ := List.pairwise_cons.mp h
    split
    · rename_i c
      refine List.pairwise_cons.mpr ⟨fun z hz => ?_, h⟩
      rcases List.mem_cons.mp hz with rfl | hz
      · exact c
      · have e1 := le2_iff.mp c
        have e2 := le2_iff.mp (h1 z hz)
        exact le2_iff.mpr (by omega)
    · rename_i c
      refine List.pairwise_cons.mpr ⟨fun z hz => ?_, ins2_sorted x l h2⟩
      rcases List.mem_cons.mp ((ins2_perm x l).mem_iff.mp hz) with rfl | hz
      · have e1 : ¬ _ := fun q => c (le2_iff.mpr q)
        exact le2_iff.mpr (by omega)
      · exact h1 z hz
theorem sort2_sorted : ∀ l, (sort2 l).Pairwise (fun a b => le2 a b = true)
  | [] => List.Pairwise.nil
  | x :: l => ins2_sorted x _ (sort2_sorted l)
/-- two sorted lists of the same pairs are one -/
theorem sorted_unique : ∀ (l m : List (Nat × Nat)), l.Perm m → l.Pairwise (fun a b => le2 a b = true) → m.Pairwise (fun a b => le2 a b = true) → l = m
  | [], m, p, _, _ => (List.Perm.nil_eq p)
  | a :: l, [], p, _, _ => absurd p.symm.nil_eq (by simp)
  | a :: l, b :: m, p, h1, h2 => by
    obtain ⟨p1, p2⟩ := List.pairwise_cons.mp h1
    obtain ⟨q1, q2⟩ := List.pairwise_cons.mp h2
    have e : a = b := by
      have ha := p.mem_iff.mp (List.mem_cons_self (a := a) (l := l))
      have hb := p.mem_iff.mpr (List.mem_cons_self (a := b) (l := m))
      rcases List.mem_cons.mp ha with e | ha
      · exact e
      · rcases List.mem_cons.mp hb with e | hb
        · exact e.symm
        · have e1 := le2_iff.mp (q1 a ha)
          have e2 := le2_iff.mp (p1 b hb)
          exact Prod.ext (by omega) (by omega)
    subst e
    rw [sorted_unique l m (List.perm_cons a |>.mp p) p2 q2]
def inOrder (R : Ring) (P : List Nat) : List Nat := (sort2 (P.map fun k => (lo (R.at k), k))).map (·.2)
theorem inOrder_perm {R : Ring} {P : List Nat} : (inOrder R P).Perm P := by
  unfold inOrder
  have h := (sort2_perm (P.map fun k => (lo (R.at k), k))).map (·.2)
  rw [List.map_map] at h
  have e : P.map ((fun x : Nat × Nat => x.2) ∘ fun k => (lo (R.at k), k)) = P := by
    have : ((fun x : Nat × Nat => x.2) ∘ fun k => (lo (R.at k), k)) = id := rfl
    rw [this, List.map_id]
  rw [e] at h
  exact h
theorem inOrder_sorted {R : Ring} {P : List Nat} : (inOrder R P).Pairwise fun a b => lo (R.at a) ≤ lo (R.at b) := by
  unfold inOrder
  rw [List.pairwise_map]
  have h := sort2_sorted (P.map fun k => (lo (R.at k), k))
  have hm : ∀ x ∈ sort2 (P.map fun k => (lo (R.at k), k)), x.1 = lo (R.at x.2) := fun x hx => by
    have := (sort2_perm _).mem_iff.mp hx
    obtain ⟨k, _, rfl⟩ := List.mem_map.mp this
    rfl
  refine List.Pairwise.imp_of_mem (fun {a b} ha hb q => ?_) h
  have := le2_iff.mp q
  rw [← hm a ha, ← hm b hb]
  omega
def greatestSize (R : Ring) (P : List Nat) : Rat := P.foldl (fun x k => greater x (R.at k).size) 0
def most (R : Ring) (P : List Nat) : Rat := greatestSize R P * (1 / 2)
def gain (R : Ring) (b : List Rat) (k : Nat) (w : Bool) : Rat := if w = dir (R.at k) then (R.at k).size - gone R b k (dir (R.at k)) else 0 - gone R b k (dir (R.at k))
def pick (R : Ring) (b : List Rat) (mo tot : Rat) (k : Nat) : Bool := if mo < tot + gain R b k (dir (R.at k)) then !dir (R.at k) else dir (R.at k)
def baseWays (R : Ring) (b : List Rat) : List Bool := (List.range R.m).map fun k => decide (k ∈ partedL R b) || decide (gone R b k true = (R.at k).size)
def waysGo (R : Ring) (b : List Rat) (mo : Rat) : List Nat → List Bool → Rat → List Bool
  | [], ws, _ => ws
  | k :: r, ws, tot => waysGo R b mo r (ws.set k (pick R b mo tot k)) (tot + gain R b k (pick R b mo tot k))
def wholeWays (R : Ring) (b : List Rat) : List Bool := waysGo R b (most R (partedL R b)) (inOrder R (partedL R b)) (baseWays R b) 0
def wt (ws : List Bool) (k : Nat) : Bool := ws.getD k true
def sent (R : Ring) (ws : List Bool) : List Rat := (List.range R.m).map fun k => if wt ws k then (R.at k).size else 0
def within (R : Ring) (b : List Rat) (ws : List Bool) (mo : Rat) : List Nat → Rat → Prop
  | [], _ => True
  | k :: r, tot => ¬ (mo < tot + gain R b k (wt ws k)) ∧ ¬ (tot + gain R b k (wt ws k) < 0 - mo) ∧ within R b ws mo r (tot + gain R b k (wt ws k))
theorem greatest_ge {R : Ring} : ∀ (P : List Nat) (x : Rat), x ≤ P.foldl (fun x k => greater x (R.at k).size) x ∧ ∀ k ∈ P, (R.at k).size ≤ P.foldl (fun x k => greater x (R.at k).size) x
  | [], x => ⟨Rat.le_refl, fun k h => by simp at h⟩
  | a :: P, x => by
    rw [List.foldl_cons]
    obtain ⟨h1, h2⟩ := greatest_ge P (greater x (R.at a).size)
    have e1 : x ≤ greater x (R.at a).size := by unfold greater; split <;> grind
    have e2 : (R.at a).size ≤ greater x (R.at a).size := by unfold greater; split <;> grind
    refine ⟨Rat.le_trans e1 h1, fun k hk => ?_⟩
    rcases List.mem_cons.mp hk with rfl | hk
    · exact Rat.le_trans e2 h1
    · exact h2 k hk
theorem most_nonneg {R : Ring} {P : List Nat} : 0 ≤ most R P := by
  have := (greatest_ge (R := R) P 0).1
  unfold most greatestSize
  grind
theorem size_le_most {R : Ring} {P : List Nat} {k : Nat} (h : k ∈ P) : (R.at k).size ≤ 2 * most R P := by
  have := (greatest_ge (R := R) P 0).2 k h
  unfold most greatestSize
  grind
theorem wt_set {ws : List Bool} {k j : Nat} {x : Bool} (hk : k < ws.length) : wt (ws.set k x) j = if j = k then x else wt ws j := by
  unfold wt
  rw [List.getD_eq_getElem?_getD, List.getElem?_set]
  by_cases e : k = j
  · subst e
    rw [if_pos rfl, if_pos hk, if_pos rfl]
    rfl
  · rw [if_neg e, if_neg fun z => e z.symm, List.getD_eq_getElem?_getD]
theorem waysGo_len {R : Ring} {b : List Rat} {mo : Rat} : ∀ (r : List Nat) (ws : List Bool) (tot : Rat), (waysGo R b mo r ws tot).length = ws.length
  | [], _, _ => rfl
  | k :: r, ws, tot => by
    unfold waysGo
    rw [waysGo_len r, List.length_set]
theorem wt_waysGo {R : Ring} {b : List Rat} {mo : Rat} : ∀ (r : List Nat) (ws : List Bool) (tot : Rat) (j : Nat), (∀ k ∈ r, k < ws.length) → j ∉ r → wt (waysGo R b mo r ws tot) j = wt ws j
  | [], _, _, _, _, _ => rfl
  | k :: r, ws, tot, j, hl, hj => by
    unfold waysGo
    have h1 : j ≠ k := fun e => hj (by rw [e]; exact List.mem_cons_self ..)
    have h2 : j ∉ r := fun e => hj (List.mem_cons_of_mem _ e)
    rw [wt_waysGo r _ _ j (fun x hx => by rw [List.length_set]; exact hl x (List.mem_cons_of_mem _ hx)) h2, wt_set (hl k (List.mem_cons_self ..)), if_neg h1]
theorem gain_dir {R : Ring} {b : List Rat} {k : Nat} : gain R b k (dir (R.at k)) = (R.at k).size - gone R b k (dir (R.at k)) := if_pos rfl
theorem gain_not {R : Ring} {b : List Rat} {k : Nat} : gain R b k (!dir (R.at k)) = 0 - gone R b k (dir (R.at k)) := if_neg (by cases dir (R.at k) <;> simp)
theorem gone_in {R : Ring} {b : List Rat} (so : SOk R b) {k : Nat} (hk : k < R.m) (w : Bool) : 0 ≤ gone R b k w ∧ gone R b k w ≤ (R.at k).size := by
  have := so.part k hk
  unfold gone
  split <;> grind
/-- ask by ask one of both ways keeps the sum within -/
theorem waysGo_within {R : Ring} {b : List Rat} (so : SOk R b) {mo : Rat} (m0 : 0 ≤ mo) : ∀ (r : List Nat) (ws : List Bool) (tot : Rat), (∀ k ∈ r, k < ws.length ∧ k < R.m ∧ (R.at k).size ≤ 2 * mo) → r.Nodup → 0 - mo ≤ tot → tot ≤ mo → within R b (waysGo R b mo r ws tot) mo r tot
  | [], _, _, _, _, _, _ => trivial
  | k :: r, ws, tot, hl, nd, t1, t2 => by
    obtain ⟨nk, nd'⟩ := List.nodup_cons.mp nd
    obtain ⟨k1, k2, k3⟩ := hl k (List.mem_cons_self ..)
    obtain ⟨g1, g2⟩ := gone_in so k2 (dir (R.at k))
    have hb : 0 - mo ≤ tot + gain R b k (pick R b mo tot k) ∧ tot + gain R b k (pick R b mo tot k) ≤ mo := by
      unfold pick
      split
      · rename_i c
        rw [gain_dir] at c
        rw [gain_not]
        grind
      · rename_i c
        rw [gain_dir] at c ⊢
        grind
    have ew : wt (waysGo R b mo (k :: r) ws tot) k = pick R b mo tot k := by
      unfold waysGo
      rw [wt_waysGo r _ _ k (fun x hx => by rw [List.length_set]; exact (hl x (List.mem_cons_of_mem _ hx)).1) nk, wt_set k1, if_pos rfl]
    have ih := waysGo_within so m0 r (ws.set k (pick R b mo tot k)) (tot + gain R b k (pick R b mo tot k)) (fun x hx => by
      rw [List.length_set]
      exact hl x (List.mem_cons_of_mem _ hx)) nd' hb.1 hb.2
    unfold within
    rw [ew]
    exact ⟨Rat.not_lt.mpr hb.2, Rat.not_lt.mpr hb.1, ih⟩
theorem partedL_nodup {R : Ring} {s : List Rat} : (partedL R s).Nodup := List.Nodup.sublist List.filter_sublist List.nodup_range
theorem inOrder_nodup {R : Ring} {P : List Nat} (h : P.Nodup) : (inOrder R P).Nodup := inOrder_perm.symm.nodup h
theorem baseWays_len {R : Ring} {b : List Rat} : (baseWays R b).length = R.m := by
  unfold baseWays
  rw [List.length_map, List.length_range]
theorem wholeWays_len {R : Ring} {b : List Rat} : (wholeWays R b).length = R.m := by
  unfold wholeWays
  rw [waysGo_len, baseWays_len]
theorem wt_base {R : Ring} {b : List Rat} {k : Nat} (hk : k < R.m) : wt (baseWays R b) k = (decide (k ∈ partedL R b) || decide (gone R b k true = (R.at k).size)) := by
  unfold wt baseWays
  rw [List.getD_eq_getElem?_getD, List.getElem?_map, List.getElem?_range hk]
  rfl
/-- what rounds -/
structure Rounded (R : Ring) (b : List Rat) (ws : List Bool) : Prop where
  len : ws.length = R.m
  whole : ∀ k, k < R.m → k ∉ partedL R b → gone R b k (wt ws k) = (R.at k).size
  sums : within R b ws (most R (partedL R b)) (inOrder R (partedL R b)) 0
theorem wholeWays_ok {R : Ring} {b : List Rat} (so : SOk R b) : Rounded R b (wholeWays R b) := by
  have hP : ∀ k ∈ inOrder R (partedL R b), k ∈ partedL R b := fun k hk => inOrder_perm.mem_iff.mp hk
  refine ⟨wholeWays_len, fun k hk np => ?_, ?_⟩
  · unfold wholeWays
    rw [wt_waysGo _ _ _ k (fun x hx => by rw [baseWays_len]; exact (mem_partedL.mp (hP x hx)).1) (fun h => np (hP k h)), wt_base hk]
    rw [decide_eq_false np, Bool.false_or]
    by_cases e : gone R b k true = (R.at k).size
    · rw [decide_eq_true e]
      exact e
    · rw [decide_eq_false e]
      have p := so.part k hk
      have np' : ¬ (0 < pt b k ∧ pt b k < (R.at k).size) := fun z => np (mem_partedL.mpr ⟨hk, z⟩)
      unfold gone at e ⊢
      simp at e ⊢
      grind
  · unfold wholeWays
    refine waysGo_within so most_nonneg _ _ _ (fun k hk => ?_) (inOrder_nodup partedL_nodup) ?_ most_nonneg
    · have h := hP k hk
      rw [baseWays_len]
      exact ⟨(mem_partedL.mp h).1, (mem_partedL.mp h).1, size_le_most h⟩
    · have := most_nonneg (R := R) (P := partedL R b)
      grind

/-! ### no tie gains much -/
def sumL : List Nat → (Nat → Rat) → Rat
  | [], _ => 0
  | k :: l, f => f k + sumL l f
theorem sumL_append {f : Nat → Rat} : ∀ (l m : List Nat), sumL (l ++ m) f = sumL l f + sumL m f
  | [], m => by show sumL m f = 0 + sumL m f; grind
  | a :: l, m => by
    show f a + sumL (l ++ m) f = f a + sumL l f + sumL m f
    rw [sumL_append l m]
    grind
theorem sumL_perm {f : Nat → Rat} {l m : List Nat} (h : l.Perm m) : sumL l f = sumL m f := by
  induction h with
  | nil => rfl
  | cons a _ ih => simp only [sumL]; rw [ih]
  | swap a b l => simp only [sumL]; grind
  | trans _ _ h1 h2 => exact h1.trans h2
theorem sumL_congr {f g : Nat → Rat} : ∀ (l : List Nat), (∀ k ∈ l, f k = g k) → sumL l f = sumL l g
  | [], _ => rfl
  | a :: l, h => by
    simp only [sumL]
    rw [h a (List.mem_cons_self ..), sumL_congr l fun k hk => h k (List.mem_cons_of_mem _ hk)]
theorem sumL_neg {f : Nat → Rat} : ∀ (l : List Nat), sumL l (fun k => 0 - f k) = 0 - sumL l f
  | [] => by show (0 : Rat) = 0 - 0; grind
  | a :: l => by
    simp only [sumL]
    rw [sumL_neg l]
    grind
theorem S_filter {m : Nat} {f : Nat → Rat} {p : Nat → Bool} (h : ∀ k, k < m → p k = false → f k = 0) : S m f = sumL ((List.range m).filter p) f := by
  induction m with
  | zero => rfl
  | succ m ih =>
    rw [List.range_succ, List.filter_append, sumL_append, ← ih fun k hk => h k (by omega)]
    have e := h m (by omega)
    simp only [S]
    rw [List.filter_cons]
    cases q : p m
    · rw [e q]
      simp only [Bool.false_eq_true, if_false, List.filter_nil, sumL]
    · simp only [if_true, List.filter_nil, sumL]
      grind
theorem within_prefix {R : Ring} {b : List Rat} {ws : List Bool} {mo : Rat} : ∀ (A B : List Nat) (tot : Rat), within R b ws mo (A ++ B) tot → 0 - mo ≤ tot → tot ≤ mo → 0 - mo ≤ tot + sumL A (fun k => gain R b k (wt ws k)) ∧ tot + sumL A (fun k => gain R b k (wt ws k)) ≤ mo
  | [], B, tot, _, h1, h2 => by
    simp only [sumL]
    grind
  | a :: A, B, tot, h, h1, h2 => by
    obtain ⟨w1, w2, w3⟩ := h
    have ih := within_prefix A B _ w3 (Rat.not_lt.mp w2) (Rat.not_lt.mp w1)
    simp only [sumL]
    grind
theorem split_list {p : Nat → Prop} : ∀ (l : List Nat), l.Pairwise (fun a b => p b → p a) → ∃ A B, l = A ++ B ∧ (∀ a ∈ A, p a) ∧ ∀ b ∈ B, ¬ p b
  | [], _ => ⟨[], [], rfl, fun _ h => by simp at h, fun _ h => by simp at h⟩
  | a :: l, h => by
    obtain ⟨h1, h2⟩ := List.pairwise_cons.mp h
    by_cases c : p a
    · obtain ⟨A, B, e, hA, hB⟩ := split_list l h2
      refine ⟨a :: A, B, by rw [e]; rfl, fun x hx => ?_, hB⟩
      rcases List.mem_cons.mp hx with rfl | hx
      · exact c
      · exact hA x hx
    · refine ⟨[], a :: l, rfl, fun _ h => by simp at h, fun x hx => ?_⟩
      rcases List.mem_cons.mp hx with rfl | hx
      · exact c
      · exact fun z => c (h1 x hx z)
/-- two asks that cross, by their low and high places -/
theorem cross_lohi {a b : Ask} (ha : a.one ≠ a.other) (hb : b.one ≠ b.other) (h : cross a b = true) : (lo a < lo b ∧ lo b < hi a ∧ hi a < hi b) ∨ (lo b < lo a ∧ lo a < hi b ∧ hi b < hi a) := by
  rw [cross_iff] at h
  unfold lo hi
  omega
def ovl (R : Ring) (a b : Nat) : Prop := lo (R.at a) < lo (R.at b) ∧ lo (R.at b) < hi (R.at a) ∧ hi (R.at a) < hi (R.at b)
theorem order_ovl {R : Ring} (ok : RingOk R) {P : List Nat} (nd : P.Nodup) (hm : ∀ k ∈ P, k < R.m) (hc : ∀ k ∈ P, ∀ l ∈ P, k < l → cross (R.at k) (R.at l) = true) : (inOrder R P).Pairwise (ovl R) := by
  have h1 := inOrder_sorted (R := R) (P := P)
  have h2 : (inOrder R P).Pairwise (· ≠ ·) := inOrder_nodup nd
  refine List.Pairwise.imp_of_mem (fun {a b} ha hb q => ?_) (h1.and h2)
  have ha := inOrder_perm.mem_iff.mp ha
  have hb := inOrder_perm.mem_iff.mp hb
  obtain ⟨q1, q2⟩ := q
  unfold ovl
  by_cases c : a < b
  · have x := cross_lohi (ok.ask a (hm a ha)).ne (ok.ask b (hm b hb)).ne (hc a ha b hb c)
    omega
  · have x := cross_lohi (ok.ask b (hm b hb)).ne (ok.ask a (hm a ha)).ne (hc b hb a ha (by omega))
    omega
theorem split_order {R : Ring} (i : Nat) (l : List Nat) (h : l.Pairwise (ovl R)) : ∃ A B, l = A ++ B ∧
    (((∀ a ∈ A, lo (R.at a) ≤ i ∧ i < hi (R.at a)) ∧ ∀ b ∈ B, ¬ (lo (R.at b) ≤ i ∧ i < hi (R.at b))) ∨ ((∀ a ∈ A, ¬ (lo (R.at a) ≤ i ∧ i < hi (R.at a))) ∧ ∀ b ∈ B, lo (R.at b) ≤ i ∧ i < hi (R.at b))) := by
  by_cases c : ∃ k ∈ l, hi (R.at k) ≤ i
  · obtain ⟨k, hk, ck⟩ := c
    obtain ⟨A, B, e, hA, hB⟩ := split_list (p := fun k => hi (R.at k) ≤ i) l (h.imp fun {a b} q z => by unfold ovl at q; omega)
    refine ⟨A, B, e, .inr ⟨fun a ha => by have := hA a ha; omega, fun x hx => ?_⟩⟩
    have hxB := hB x hx
    have hkA : k ∈ A := by
      rw [e] at hk
      rcases List.mem_append.mp hk with hk | hk
      · exact hk
      · exact absurd ck (hB k hk)
    rw [e] at h
    have := (List.pairwise_append.mp h).2.2 k hkA x hx
    unfold ovl at this
    omega
  · have c' : ∀ k ∈ l, i < hi (R.at k) := fun k hk => by
      have : ¬ (hi (R.at k) ≤ i) := fun z => c ⟨k, hk, z⟩
      omega
    obtain ⟨A, B, e, hA, hB⟩ := split_list (p := fun k => lo (R.at k) ≤ i) l (h.imp fun {a b} q z => by unfold ovl at q; omega)
    refine ⟨A, B, e, .inl ⟨fun a ha => ⟨hA a ha, c' a (by rw [e]; exact List.mem_append_left _ ha)⟩, fun x hx => by have := hB x hx; omega⟩⟩
theorem pt_sent {R : Ring} {ws : List Bool} {k : Nat} (hk : k < R.m) : pt (sent R ws) k = if wt ws k then (R.at k).size else 0 := by
  unfold pt sent
  rw [List.getD_eq_getElem?_getD, List.getElem?_map, List.getElem?_range hk]
  rfl
theorem sent_ok {R : Ring} (ok : RingOk R) {ws : List Bool} : SOk R (sent R ws) := by
  refine ⟨by unfold sent; rw [List.length_map, List.length_range], fun k hk => ?_⟩
  rw [pt_sent hk]
  have := (ok.ask k hk).pos
  split <;> grind
theorem over_dir {n i : Nat} {a : Ask} (h : AskOk n a) (hn : i < n) (p : Rat) : over n a p i = if (lo a ≤ i ∧ i < hi a) then (if dir a then p else a.size - p) else a.size - (if dir a then p else a.size - p) := by
  unfold over
  by_cases c : lo a ≤ i ∧ i < hi a
  · rw [if_pos c, (on_dir h hn).mpr c]
  · rw [if_neg c, (on_ndir h hn).mpr c]
    cases dir a <;> simp <;> grind
theorem round_gain {R : Ring} (ok : RingOk R) {b : List Rat} (so : SOk R b) {ws : List Bool} (rd : Rounded R b ws) (hc : ∀ k ∈ partedL R b, ∀ l ∈ partedL R b, k < l → cross (R.at k) (R.at l) = true) {i : Nat} (hi' : i < R.n) :
    load R (sent R ws) i ≤ load R b i + 3 * most R (partedL R b) := by
  have e1 : load R (sent R ws) i - load R b i = S R.m fun k => over R.n (R.at k) (pt (sent R ws) k) i - over R.n (R.at k) (pt b k) i := by
    unfold load
    rw [S_sub]
  have e2 : (S R.m fun k => over R.n (R.at k) (pt (sent R ws) k) i - over R.n (R.at k) (pt b k) i) = sumL (partedL R b) fun k => over R.n (R.at k) (pt (sent R ws) k) i - over R.n (R.at k) (pt b k) i := by
    refine S_filter fun k hk np => ?_
    have np' : k ∉ partedL R b := fun z => by
      have := (List.mem_filter.mp z).2
      rw [np] at this
      cases this
    have w := rd.whole k hk np'
    rw [pt_sent hk]
    have : (if wt ws k then (R.at k).size else 0) = pt b k := by
      unfold gone at w
      cases e : wt ws k <;> rw [e] at w <;> simp at w ⊢ <;> grind
    rw [this]
    grind
  have nd := partedL_nodup (R := R) (s := b)
  have hm : ∀ k ∈ partedL R b, k < R.m := fun k hk => (mem_partedL.mp hk).1
  have e3 : (sumL (partedL R b) fun k => over R.n (R.at k) (pt (sent R ws) k) i - over R.n (R.at k) (pt b k) i) =
      sumL (inOrder R (partedL R b)) fun k => if lo (R.at k) ≤ i ∧ i < hi (R.at k) then gain R b k (wt ws k) else 0 - gain R b k (wt ws k) := by
    rw [← sumL_perm (inOrder_perm (R := R) (P := partedL R b))]
    refine sumL_congr _ fun k hk => ?_
    have hk := hm k (inOrder_perm.mem_iff.mp hk)
    rw [over_dir (ok.ask k hk) hi', over_dir (ok.ask k hk) hi', pt_sent hk]
    unfold gain gone
    cases dir (R.at k) <;> cases wt ws k <;> simp <;> split <;> grind
  have hs := rd.sums
  have ho := order_ovl ok nd hm hc
  obtain ⟨A, B, e, hAB⟩ := split_order i _ ho
  have m0 := most_nonneg (R := R) (P := partedL R b)
  have full := within_prefix (inOrder R (partedL R b)) [] 0 (by rw [List.append_nil]; exact hs) (by grind) m0
  rw [e] at hs
  have pre := within_prefix A B 0 hs (by grind) m0
  rw [e, sumL_append] at full
  rw [e, sumL_append] at e3
  rcases hAB with ⟨hA, hB⟩ | ⟨hA, hB⟩
  · rw [sumL_congr A (g := fun k => gain R b k (wt ws k)) fun k hk => if_pos (hA k hk), sumL_congr B (g := fun k => 0 - gain R b k (wt ws k)) fun k hk => if_neg (hB k hk), sumL_neg] at e3
    grind
  · rw [sumL_congr A (g := fun k => 0 - gain R b k (wt ws k)) fun k hk => if_neg (hA k hk), sumL_congr B (g := fun k => gain R b k (wt ws k)) fun k hk => if_pos (hB k hk), sumL_neg] at e3
    grind

/-! ### near whole -/
def nearParts (R : Ring) : List Rat := fill R (gcut R).1 R.m
def nearSlides (R : Ring) : List Slide := slidesFor R (nearParts R)
def nearBehind (R : Ring) : List Rat := behind (nearParts R) (nearSlides R)
def nearWays (R : Ring) : List Bool := wholeWays R (nearBehind R)
theorem near_sok {R : Ring} (ok : RingOk R) : SOk R (nearParts R) := fill_sok ok (gcut_spec (R := R) (by have := ok.two; omega)).2.2.2
theorem near_bound {R : Ring} (ok : RingOk R) {i : Nat} (hi : i < R.n) : load R (sent R (nearWays R)) i ≤ (gcut R).1 * R.room i + 3 / 2 * greatestSize R (partedL R (nearBehind R)) := by
  have hn : 0 < R.n := by have := ok.two; omega
  have so := near_sok ok
  obtain ⟨_, s2, s3, s4⟩ := slidesFor_ok ok so
  have h1 := round_gain ok s2 (wholeWays_ok s2) (fun k hk l hl kl => nextSlide_none s3 hk hl kl) hi
  have h2 := s4 i hi
  have h3 : load R (nearParts R) i ≤ (gcut R).1 * R.room i := fill_load ok (gcut_spec (R := R) hn).2.2.2 hi
  have e : 3 * most R (partedL R (nearBehind R)) = 3 / 2 * greatestSize R (partedL R (nearBehind R)) := by unfold most; grind
  have e2 : load R (sent R (nearWays R)) i ≤ load R (nearBehind R) i + 3 * most R (partedL R (nearBehind R)) := h1
  have e3 : load R (nearBehind R) i ≤ load R (nearParts R) i := h2
  grind
end Nw
end NwMath_
section NwSpec_
set_option Elab.async false
set_option linter.all false
set_option maxRecDepth 100000
set_option maxHeartbeats 4000000
namespace NwB
open PySem PySem.Spec PyProof.Rows L2 NwT
open Evl (Ex)
/-! ### data as Python has it -/
def eQ (q : Rat) : PyData := .tuple [.int q.num, .int (q.den : Nat)]
def eAsk (a : Nw.Ask) : PyData := .tuple [.str ⟨a.name⟩, .int (a.one : Nat), .int (a.other : Nat), eQ a.size]
def eRing (R : Nw.Ring) : PyData := .tuple [.list (R.rooms.map eQ), .list (R.asks.map eAsk)]
def eS (s : List Rat) : PyData := .list (s.map eQ)
def wS (b : Bool) : Str := if b then "on" else "back"
def eW (b : Bool) : PyData := .str (wS b)
def eWs (ws : List Bool) : PyData := .list (ws.map eW)
def eN (n : Nat) : PyData := .int (n : Nat)
def eNs (ns : List Nat) : PyData := .list (ns.map eN)
def eC (c : Nat × Nat) : PyData := .tuple [eN c.1, eN c.2]
def eZ (z : Nw.Slide) : PyData := .tuple [eN z.k, eW z.way, eN z.l, eW z.other, eQ z.amt]
def eZs (zs : List Nw.Slide) : PyData := .list (zs.map eZ)
/-! ### sizes -/
structure Z (q : Rat) : Prop where
  num : q.num.natAbs < 2 ^ 1000
  den : q.den < 2 ^ 1000
theorem Z.n (q : Rat) : q.den.cast = (q.den : Int) := rfl
theorem Z.zero : Z 0 := ⟨by decide +kernel, by decide +kernel⟩
theorem den_ne (q : Rat) : (q.den : Int) ≠ 0 := by have := q.den_nz; omega
theorem den_pos' (q : Rat) : (0 : Int) < q.den := by have := q.den_pos; omega
/-- lowest terms -/
theorem low_num {t b : Int} (hb : 0 < b) : (Rat.divInt t b).num = t / ((Int.gcd t b : Nat) : Int) := by
  rw [Rat.num_divInt, Int.sign_eq_one_of_pos hb, Int.one_mul, Int.gcd_comm]
theorem low_den {t b : Int} (hb : 0 < b) : ((Rat.divInt t b).den : Int) = b / ((Int.gcd t b : Nat) : Int) := by
  rw [Rat.den_divInt, if_neg (by omega), Int.gcd_comm]
  have e : b = (b.natAbs : Int) := by omega
  rw [Int.natCast_ediv]
  rw [← e]
theorem divInt_num_den (q : Rat) : Rat.divInt q.num q.den = q := Rat.num_divInt_den q
theorem frac_add (a b : Rat) : Rat.divInt (a.num * b.den + b.num * a.den) (a.den * b.den) = a + b := by
  have h := Rat.divInt_add_divInt a.num b.num (den_ne a) (den_ne b)
  rw [divInt_num_den, divInt_num_den] at h
  exact h.symm
theorem frac_sub (a b : Rat) : Rat.divInt (a.num * b.den - b.num * a.den) (a.den * b.den) = a - b := by
  have h := Rat.divInt_sub_divInt a.num b.num (den_ne a) (den_ne b)
  rw [divInt_num_den, divInt_num_den] at h
  exact h.symm
theorem frac_mul (a b : Rat) : Rat.divInt (a.num * b.num) (a.den * b.den) = a * b := by
  have h := Rat.divInt_mul_divInt a.num b.num (d₁ := a.den) (d₂ := b.den)
  rw [divInt_num_den, divInt_num_den] at h
  exact h.symm
theorem frac_div {a b : Rat} : Rat.divInt (a.num * b.den) (a.den * b.num) = a / b := by
  have h := Rat.divInt_mul_divInt a.num b.den (d₁ := a.den) (d₂ := b.num)
  rw [divInt_num_den] at h
  have e : Rat.divInt (b.den : Int) b.num = b⁻¹ := by
    conv => rhs; rw [← divInt_num_den b]
    rw [Rat.inv_divInt]
  rw [e] at h
  rw [Rat.div_def]
  exact h.symm
theorem frac_lt (a b : Rat) : (a.num * b.den < b.num * a.den) ↔ a < b := (Rat.lt_iff a b).symm
theorem k_ii : kitB "int" "int" = some true := by decide +kernel
theorem k_ib : kitB "int" "bool" = some false := by decide +kernel
theorem k_tt : kitB "tuple" "tuple" = some true := by decide +kernel
theorem k_ll : kitB "list" "list" = some true := by decide +kernel
theorem k_ss : kitB "str" "str" = some true := by decide +kernel
/-! ### promises: fractions -/
abbrev Pd := List PyData → Rs → Prop
def P_is_whole : Pd := fun ds r => ∃ i : Int, ds = [.int i] ∧ r = .dat (.bool true)
def P_common : Pd := fun ds r => ∃ a b : Int, ds = [.int a, .int b] ∧ 0 ≤ b ∧ r = .dat (.int (Int.gcd a b : Nat))
def P_is_ratio : Pd := fun ds r => ∃ q : Rat, ds = [eQ q] ∧ r = .dat (.bool true)
def P_lowered : Pd := fun ds r => ∃ t b : Int, ds = [.int t, .int b] ∧ 0 < b ∧ b.natAbs < 2 ^ 3000 ∧ r = .dat (eQ (Rat.divInt t b))
def P_plus : Pd := fun ds r => ∃ a b : Rat, ds = [eQ a, eQ b] ∧ Z a ∧ Z b ∧ r = .dat (eQ (a + b))
def P_minus : Pd := fun ds r => ∃ a b : Rat, ds = [eQ a, eQ b] ∧ Z a ∧ Z b ∧ r = .dat (eQ (a - b))
def P_times : Pd := fun ds r => ∃ a b : Rat, ds = [eQ a, eQ b] ∧ Z a ∧ Z b ∧ r = .dat (eQ (a * b))
def P_over : Pd := fun ds r => ∃ a b : Rat, ds = [eQ a, eQ b] ∧ Z a ∧ Z b ∧ 0 < b ∧ r = .dat (eQ (a / b))
def P_under : Pd := fun ds r => ∃ a b : Rat, ds = [eQ a, eQ b] ∧ Z a ∧ Z b ∧ r = .dat (.bool (decide (a < b)))
def P_greater : Pd := fun ds r => ∃ a b : Rat, ds = [eQ a, eQ b] ∧ Z a ∧ Z b ∧ r = .dat (eQ (Nw.greater a b))
def P_lesser : Pd := fun ds r => ∃ a b : Rat, ds = [eQ a, eQ b] ∧ Z a ∧ Z b ∧ r = .dat (eQ (Nw.lesser a b))
def P_sum_of : Pd := fun ds r => ∃ l : List Rat, ds = [eS l] ∧ (∀ q ∈ l, Z q) ∧ (∀ i, i < l.length → Z ((l.take i).foldl (· + ·) 0)) ∧ r = .dat (eQ (l.foldl (· + ·) 0))
section
variable {J : Ji} {K : PySem.W.Frag} {Γ : List Sl} {ta tb : TE} {E : XK} {a b : Rat}
theorem ed_plus (h1 : ED J K Γ ta (eQ a)) (h2 : ED J K Γ tb (eQ b)) (z1 : Z a) (z2 : Z b) : ED J K Γ (tCall (spF K P_plus) [] E (tCons ta (tCons tb tNil))) (eQ (a + b)) := eg_call (ea_cons h1 (ea_cons h2 ea_nil)) ⟨a, b, rfl, z1, z2, rfl⟩
theorem ed_minus (h1 : ED J K Γ ta (eQ a)) (h2 : ED J K Γ tb (eQ b)) (z1 : Z a) (z2 : Z b) : ED J K Γ (tCall (spF K P_minus) [] E (tCons ta (tCons tb tNil))) (eQ (a - b)) := eg_call (ea_cons h1 (ea_cons h2 ea_nil)) ⟨a, b, rfl, z1, z2, rfl⟩
theorem ed_times (h1 : ED J K Γ ta (eQ a)) (h2 : ED J K Γ tb (eQ b)) (z1 : Z a) (z2 : Z b) : ED J K Γ (tCall (spF K P_times) [] E (tCons ta (tCons tb tNil))) (eQ (a * b)) := eg_call (ea_cons h1 (ea_cons h2 ea_nil)) ⟨a, b, rfl, z1, z2, rfl⟩
theorem ed_over (h1 : ED J K Γ ta (eQ a)) (h2 : ED J K Γ tb (eQ b)) (z1 : Z a) (z2 : Z b) (p : 0 < b) : ED J K Γ (tCall (spF K P_over) [] E (tCons ta (tCons tb tNil))) (eQ (a / b)) := eg_call (ea_cons h1 (ea_cons h2 ea_nil)) ⟨a, b, rfl, z1, z2, p, rfl⟩
theorem ed_under (h1 : ED J K Γ ta (eQ a)) (h2 : ED J K Γ tb (eQ b)) (z1 : Z a) (z2 : Z b) : ED J K Γ (tCall (spF K P_under) [] E (tCons ta (tCons tb tNil))) (.bool (decide (a < b))) := eg_call (ea_cons h1 (ea_cons h2 ea_nil)) ⟨a, b, rfl, z1, z2, rfl⟩
theorem ed_greater (h1 : ED J K Γ ta (eQ a)) (h2 : ED J K Γ tb (eQ b)) (z1 : Z a) (z2 : Z b) : ED J K Γ (tCall (spF K P_greater) [] E (tCons ta (tCons tb tNil))) (eQ (Nw.greater a b)) := eg_call (ea_cons h1 (ea_cons h2 ea_nil)) ⟨a, b, rfl, z1, z2, rfl⟩
theorem ed_lesser (h1 : ED J K Γ ta (eQ a)) (h2 : ED J K Γ tb (eQ b)) (z1 : Z a) (z2 : Z b) : ED J K Γ (tCall (spF K P_lesser) [] E (tCons ta (tCons tb tNil))) (eQ (Nw.lesser a b)) := eg_call (ea_cons h1 (ea_cons h2 ea_nil)) ⟨a, b, rfl, z1, z2, rfl⟩
end
end NwB
end NwSpec_
section NwA_
set_option Elab.async false
set_option linter.all false
set_option maxRecDepth 100000
set_option maxHeartbeats 4000000
namespace NwB
open PySem PySem.Spec PyProof.Rows L2 NwT
open Evl (Ex)
local macro_rules | `(tactic| walk_at "ev") => `(tactic| repeat' first
  | exact ed_var rfl | exact ed_int | exact ed_str | exact ed_non | exact ed_bl | exact rfl
  | refine ed_opI ?_ ?_ | refine ed_opB ?_ ?_ | refine ed_opC ?_ ?_ ?_ | refine ed_ixT ?_ ?_ ?_ | refine ea_cons ?_ ?_ | exact ea_nil)
section
variable {P : Program} {w : World} {J : Ji} {K : PySem.W.Frag} {mg : Str → Option Value} {base : Heap}
theorem sc_is_whole : FnScope ["thing"] ["thing"] (defScope s_is_whole) := ⟨rfl, rfl, rfl, by decide +kernel, rfl, by decide +kernel, by decide +kernel⟩
theorem has_is_whole (T : Tx K mg) : Has P w K mg base 1 "is_whole" 1 P_is_whole := by
  refine has_mk (N := ["thing"]) (ps := ["thing"]) (k := 0) T.d_is_whole sc_is_whole (fun _ _ _ _ _ _ us hl => match us, hl with | [_], _ => rfl) (fun ds r hp => ?_) (fun f cdv A outer s H E hr => ⟨_, (pss_one (ps_ret (pe_and (pe_callB (isiK K) (by rfl) T.isinstance bb_isinstance (pa_cons (pv 0) (pa_cons (pe_bltn (v := .ty "int") (by rfl) T.int bb_int rfl) pa_nil))) (pe_one (pe_not (pe_callB (isiK K) (by rfl) T.isinstance bb_isinstance (pa_cons (pv 0) (pa_cons (pe_bltn (v := .ty "bool") (by rfl) T.bool bb_bool rfl) pa_nil)))))))), ?_⟩)
  · rcases hp with ⟨_, rfl, _⟩
    rfl
  rintro ds r ⟨i, rfl, rfl⟩
  exact sg_ret (ed_andV (b := true) (ed_isi (b := true) (ed_var rfl) k_ii) fun _ => ed_notV (a := false) (ed_isi (ed_var rfl) k_ib)) rfl
theorem int_gcd_emod (c d : Int) : Int.gcd (c % d) d = Int.gcd c d := by
  have h : c % d = c - d * (c / d) := Int.emod_def c d
  rw [h]
  exact Int.gcd_sub_mul_left_left d c (c / d)
theorem sc_common : FnScope ["one", "other"] ["one", "other"] (defScope s_common) := ⟨rfl, rfl, rfl, by decide +kernel, rfl, by decide +kernel, by decide +kernel⟩
theorem has_common (T : Tx K mg) : Has P w K mg base 1 "common" 2 P_common := by
  refine has_mk (N := ["one", "other"]) (ps := ["one", "other"]) (k := 0) T.d_common sc_common (fun _ _ _ _ _ _ us hl => match us, hl with | [_, _], _ => rfl) (fun ds r hp => ?_) (fun f cdv A outer s H E hr => ⟨_, (pss_cons (ps_while PassesOwn.never (pt_cmpR (neK K hr.units) (pv 1) pe_int (nomark _))
  (pss_one (ps_par (i := 0) (j := 1) (by rfl) sc_common.nd rfl rfl (by decide) rfl rfl (pa_cons (pv 1) (pa_cons (pe_op op_mod (pv 0) (pv 1)) pa_nil)) (by rfl))))
  (pss_one (ps_ret (pe_callB call_abs (by rfl) T.abs bb_abs (pa_cons (pv 0) pa_nil))))), ?_⟩)
  · rcases hp with ⟨_, _, rfl, _⟩
    rfl
  rintro ds r ⟨a, b, rfl, hb, rfl⟩
  refine sg_seq (N' := fun Γ' => Γ' = [.dat (.int (Int.gcd a b : Nat)), .dat (.int 0)] ∨ ∃ c : Int, Γ' = [.dat (.int c), .dat (.int 0)] ∧ c.natAbs = Int.gcd a b) (sg_while (fun m Γ' => ∃ c d : Int, Γ' = [.dat (.int c), .dat (.int d)] ∧ 0 ≤ d ∧ m = d.toNat ∧ Int.gcd c d = Int.gcd a b) b.toNat (lq_refl ⟨a, b, rfl, hb, rfl, rfl⟩) ?_) ?_
  · rintro m Γ' ⟨c, d, rfl, hd, rfl, e⟩
    refine ⟨!decide (d = 0), eb_test (ed_neI (ed_var rfl) ed_int), fun hb => ?_, fun hb => ?_⟩
    · have hd0 : d ≠ 0 := by simpa using hb
      refine sg_par (ea_cons (ed_var rfl) (ea_cons (ed_opC (ed_var rfl) (ed_var rfl) (show 0 < d by omega)) ea_nil)) (lq_refl (lq_refl ⟨(c % d).toNat, ?_, d, c % d, rfl, Int.emod_nonneg _ hd0, rfl, ?_⟩))
      · have := Int.emod_lt_of_pos c (show 0 < d by omega)
        have := Int.emod_nonneg c hd0
        omega
      · rw [← e, Int.gcd_comm d, Int.gcd_comm c]
        rw [Int.gcd_comm d c]; exact int_gcd_emod c d
    · have hd0 : d = 0 := by simpa using hb
      subst hd0
      refine lq_refl (.inr ⟨c, rfl, ?_⟩)
      rw [← e, Int.gcd_zero_right]
  · rintro Γ' (rfl | ⟨c, rfl, e⟩)
    · refine sg_ret (ed_abs (ed_var rfl)) ?_
      rw [Int.natAbs_natCast]
    · refine sg_ret (ed_abs (ed_var rfl)) ?_
      rw [e]
theorem sc_is_ratio : FnScope ["thing"] ["thing"] (defScope s_is_ratio) := ⟨rfl, rfl, rfl, by decide +kernel, rfl, by decide +kernel, by decide +kernel⟩
theorem has_is_ratio (T : Tx K mg) (h_common : Has P w K mg base 1 "common" 2 P_common) (h_is_whole : Has P w K mg base 1 "is_whole" 1 P_is_whole) : Has P w K mg base 2 "is_ratio" 1 P_is_ratio := by
  refine has_mk (N := ["thing"]) (ps := ["thing"]) (k := 1) T.d_is_ratio sc_is_ratio (fun _ _ _ _ _ _ us hl => match us, hl with | [_], _ => rfl) (fun ds r hp => ?_) (fun f cdv A outer s H E hr => ⟨_, (pss_cons (ps_if (PW.pt (pw_or (pt_not (pt_val (pe_callB (isiK K) (by rfl) T.isinstance bb_isinstance (pa_cons (pv 0) (pa_cons (pe_bltn (v := .ty "tuple") (by rfl) T.tuple bb_tuple rfl) pa_nil))))) (pw_or1 (pt_cmpR (neK K hr.units) (pe_callB (lenK K) (by rfl) T.len bb_len (pa_cons (pv 0) pa_nil)) pe_int (nomark _))))) (pss_one (ps_ret pe_bl)) pss_nil)
  (pss_cons (ps_if (PW.pt (pw_or (pt_not (pt_val (pe_hasK h_is_whole (hr.mono (by decide)) (by rfl) (pa_cons (pe_ix (ixK K) (pv 0) pe_int (fun _ _ => rfl)) pa_nil)))) (pw_or1 (pt_not (pt_val (pe_hasK h_is_whole (hr.mono (by decide)) (by rfl) (pa_cons (pe_ix (ixK K) (pv 0) pe_int (fun _ _ => rfl)) pa_nil))))))) (pss_one (ps_ret pe_bl)) pss_nil)
  (pss_one (ps_ret (pe_and (pe_cmpR op_ge (pe_ix (ixK K) (pv 0) pe_int (fun _ _ => rfl)) pe_int (nomark _)) (pe_one (pe_cmpR (eqK K hr.units) (pe_hasK h_common (hr.mono (by decide)) (by rfl) (pa_cons (pe_ix (ixK K) (pv 0) pe_int (fun _ _ => rfl)) (pa_cons (pe_ix (ixK K) (pv 0) pe_int (fun _ _ => rfl)) pa_nil))) pe_int (nomark _)))))))), ?_⟩)
  · rcases hp with ⟨_, rfl, _⟩
    rfl
  rintro ds r ⟨q, rfl, rfl⟩
  have w1 : ∀ {te : TE} {i : Int}, ED J0 K (entry ["thing"] [eQ q]) te (.int i) → ED J0 K (entry ["thing"] [eQ q]) (tCall (spF K P_is_whole) [] E0 (tCons te tNil)) (.bool true) := fun h => eg_call (ea_cons h ea_nil) ⟨_, rfl, rfl⟩
  refine q0 (eb_or (a := false) (b := false) (eb_not (b := true) (eb_B (ed_isi (ed_var rfl) k_tt))) fun _ => eb_is (eb_test (ed_neI (ed_lenT (ed_var rfl)) ed_int)) (by simp)) ?_
  refine q0 (eb_or (a := false) (b := false) (eb_not (b := true) (eb_B (w1 (ed_ixT (ed_var rfl) ed_int rfl)))) fun _ => eb_not (b := true) (eb_B (w1 (ed_ixT (ed_var rfl) ed_int rfl)))) ?_
  refine sg_ret (ed_andV (ed_opB (ed_ixT (ed_var rfl) ed_int rfl) ed_int) fun _ => ed_eqI (eg_call (ea_cons (ed_ixT (ed_var rfl) ed_int rfl) (ea_cons (ed_ixT (ed_var rfl) ed_int rfl) ea_nil)) ⟨_, _, rfl, by omega, rfl⟩) ed_int) ?_
  have h1 : (1 : Int) ≤ (q.den : Int) := by have := q.den_pos; omega
  have h2 : ((Int.gcd q.num q.den : Nat) : Int) = 1 := by
    have := q.reduced
    unfold Nat.Coprime at this
    unfold Int.gcd
    rw [Int.natAbs_natCast, this]
    rfl
  rw [decide_eq_true h1, decide_eq_true h2]
  rfl
theorem sc_lowered : FnScope ["top", "bottom", "share"] ["top", "bottom"] (defScope s_lowered) := ⟨rfl, rfl, rfl, by decide +kernel, rfl, by decide +kernel, by decide +kernel⟩
theorem has_lowered (T : Tx K mg) (h_common : Has P w K mg base 1 "common" 2 P_common) : Has P w K mg base 2 "lowered" 2 P_lowered := by
  refine has_mk (N := ["top", "bottom", "share"]) (ps := ["top", "bottom"]) (k := 1) T.d_lowered sc_lowered (fun _ _ _ _ _ _ us hl => match us, hl with | [_, _], _ => rfl) (fun ds r hp => ?_) (fun f cdv A outer s H E hr => ⟨_, (pss_cons (ps_set (i := 2) sc_lowered.nd rfl (Or.inl rfl) (pe_hasK h_common (hr.mono (by decide)) (by rfl) (pa_cons (pv 0) (pa_cons (pv 1) pa_nil))))
  (pss_cons (ps_if (pt_cmpR op_lt (pv 1) pe_int (nomark _)) (pss_one (ps_set (i := 2) sc_lowered.nd rfl (Or.inl rfl) (pe_op op_sub pe_int (pv 2)))) pss_nil)
  (pss_one (ps_ret (pe_tup (pa_cons (pe_op op_fdivW (pv 0) (pv 2)) (pa_cons (pe_op op_fdivW (pv 1) (pv 2)) pa_nil))))))), ?_⟩)
  · rcases hp with ⟨_, _, rfl, _⟩
    rfl
  rintro ds r ⟨t, b, rfl, hb, hz, rfl⟩
  have hg : 0 < Int.gcd t b := Int.gcd_pos_iff.mpr (.inr (by omega))
  have hg2 : Int.gcd t b ≤ b.natAbs := Nat.le_of_dvd (by omega) (Int.gcd_dvd_natAbs_right t b)
  have hc : ∀ x, CDivW x ((Int.gcd t b : Nat) : Int) := fun x => wide_div (b := 3000) (by omega) (by rw [Int.natAbs_natCast]; omega) (by decide) (by decide)
  refine qd (eg_call (ea_cons (ed_var rfl) (ea_cons (ed_var rfl) ea_nil)) ⟨t, b, rfl, by omega, rfl⟩) ?_
  refine q0 (eb_is (eb_test (ed_opB (ed_var rfl) ed_int)) (by show decide (b < 0) = false; rw [decide_eq_false_iff_not]; omega)) ?_
  refine sg_ret (ed_tup (ea_cons (ed_opC (ed_var rfl) (ed_var rfl) (hc _)) (ea_cons (ed_opC (ed_var rfl) (ed_var rfl) (hc _)) ea_nil))) ?_
  unfold eQ
  rw [low_num hb, low_den hb]
theorem mulZ {x y : Int} (hx : x.natAbs < 2 ^ 1000) (hy : y.natAbs < 2 ^ 1000) : CMulW x y := wide_mul hx hy (by decide) (by decide) (by decide)
theorem denZ {q : Rat} (h : Z q) : ((q.den : Nat) : Int).natAbs < 2 ^ 1000 := by rw [Int.natAbs_natCast]; exact h.den
theorem den_mul {a b : Rat} (h1 : Z a) (h2 : Z b) : (0 : Int) < (a.den : Int) * (b.den : Int) ∧ ((a.den : Int) * (b.den : Int)).natAbs < 2 ^ 3000 := by
  refine ⟨Int.mul_pos (den_pos' a) (den_pos' b), ?_⟩
  have := wide_lt (denZ h1) (denZ h2)
  exact Nat.lt_of_lt_of_le this (Nat.pow_le_pow_right (by decide) (by decide))
theorem sc_plus : FnScope ["one", "other"] ["one", "other"] (defScope s_plus) := ⟨rfl, rfl, rfl, by decide +kernel, rfl, by decide +kernel, by decide +kernel⟩
theorem has_plus (T : Tx K mg) (h_lowered : Has P w K mg base 2 "lowered" 2 P_lowered) : Has P w K mg base 3 "plus" 2 P_plus := by
  refine has_mk (N := ["one", "other"]) (ps := ["one", "other"]) (k := 2) T.d_plus sc_plus (fun _ _ _ _ _ _ us hl => match us, hl with | [_, _], _ => rfl) (fun ds r hp => ?_) (fun f cdv A outer s H E hr => ⟨_, (pss_one (ps_ret (pe_hasK h_lowered (hr.mono (by decide)) (by rfl) (pa_cons (pe_op op_add (pe_op op_mulW (pe_ix (ixK K) (pv 0) pe_int (fun _ _ => rfl)) (pe_ix (ixK K) (pv 1) pe_int (fun _ _ => rfl))) (pe_op op_mulW (pe_ix (ixK K) (pv 1) pe_int (fun _ _ => rfl)) (pe_ix (ixK K) (pv 0) pe_int (fun _ _ => rfl)))) (pa_cons (pe_op op_mulW (pe_ix (ixK K) (pv 0) pe_int (fun _ _ => rfl)) (pe_ix (ixK K) (pv 1) pe_int (fun _ _ => rfl))) pa_nil))))), ?_⟩)
  · rcases hp with ⟨_, _, rfl, _⟩
    rfl
  rintro ds r ⟨a, b, rfl, za, zb, rfl⟩
  obtain ⟨d1, d2⟩ := den_mul za zb
  refine sg_ret (eg_call (ea_cons (ed_opI (ed_opC (i := a.num) (j := b.den) ?_ ?_ ?_) (ed_opC (i := b.num) (j := a.den) ?_ ?_ ?_)) (ea_cons (ed_opC (i := a.den) (j := b.den) ?_ ?_ ?_) ea_nil)) ⟨_, _, rfl, d1, d2, rfl⟩) (by show Rs.dat _ = Rs.dat _; rw [frac_add])
  all_goals first | exact ed_ixT (ed_var rfl) ed_int rfl | exact mulZ za.num (denZ zb) | exact mulZ zb.num (denZ za) | exact mulZ (denZ za) (denZ zb)
theorem sc_minus : FnScope ["one", "other"] ["one", "other"] (defScope s_minus) := ⟨rfl, rfl, rfl, by decide +kernel, rfl, by decide +kernel, by decide +kernel⟩
theorem has_minus (T : Tx K mg) (h_lowered : Has P w K mg base 2 "lowered" 2 P_lowered) : Has P w K mg base 3 "minus" 2 P_minus := by
  refine has_mk (N := ["one", "other"]) (ps := ["one", "other"]) (k := 2) T.d_minus sc_minus (fun _ _ _ _ _ _ us hl => match us, hl with | [_, _], _ => rfl) (fun ds r hp => ?_) (fun f cdv A outer s H E hr => ⟨_, (pss_one (ps_ret (pe_hasK h_lowered (hr.mono (by decide)) (by rfl) (pa_cons (pe_op op_sub (pe_op op_mulW (pe_ix (ixK K) (pv 0) pe_int (fun _ _ => rfl)) (pe_ix (ixK K) (pv 1) pe_int (fun _ _ => rfl))) (pe_op op_mulW (pe_ix (ixK K) (pv 1) pe_int (fun _ _ => rfl)) (pe_ix (ixK K) (pv 0) pe_int (fun _ _ => rfl)))) (pa_cons (pe_op op_mulW (pe_ix (ixK K) (pv 0) pe_int (fun _ _ => rfl)) (pe_ix (ixK K) (pv 1) pe_int (fun _ _ => rfl))) pa_nil))))), ?_⟩)
  · rcases hp with ⟨_, _, rfl, _⟩
    rfl
  rintro ds r ⟨a, b, rfl, za, zb, rfl⟩
  obtain ⟨d1, d2⟩ := den_mul za zb
  refine sg_ret (eg_call (ea_cons (ed_opI (ed_opC (i := a.num) (j := b.den) ?_ ?_ ?_) (ed_opC (i := b.num) (j := a.den) ?_ ?_ ?_)) (ea_cons (ed_opC (i := a.den) (j := b.den) ?_ ?_ ?_) ea_nil)) ⟨_, _, rfl, d1, d2, rfl⟩) (by show Rs.dat _ = Rs.dat _; rw [frac_sub])
  all_goals first | exact ed_ixT (ed_var rfl) ed_int rfl | exact mulZ za.num (denZ zb) | exact mulZ zb.num (denZ za) | exact mulZ (denZ za) (denZ zb)
theorem sc_times : FnScope ["one", "other"] ["one", "other"] (defScope s_times) := ⟨rfl, rfl, rfl, by decide +kernel, rfl, by decide +kernel, by decide +kernel⟩
theorem has_times (T : Tx K mg) (h_lowered : Has P w K mg base 2 "lowered" 2 P_lowered) : Has P w K mg base 3 "times" 2 P_times := by
  refine has_mk (N := ["one", "other"]) (ps := ["one", "other"]) (k := 2) T.d_times sc_times (fun _ _ _ _ _ _ us hl => match us, hl with | [_, _], _ => rfl) (fun ds r hp => ?_) (fun f cdv A outer s H E hr => ⟨_, (pss_one (ps_ret (pe_hasK h_lowered (hr.mono (by decide)) (by rfl) (pa_cons (pe_op op_mulW (pe_ix (ixK K) (pv 0) pe_int (fun _ _ => rfl)) (pe_ix (ixK K) (pv 1) pe_int (fun _ _ => rfl))) (pa_cons (pe_op op_mulW (pe_ix (ixK K) (pv 0) pe_int (fun _ _ => rfl)) (pe_ix (ixK K) (pv 1) pe_int (fun _ _ => rfl))) pa_nil))))), ?_⟩)
  · rcases hp with ⟨_, _, rfl, _⟩
    rfl
  rintro ds r ⟨a, b, rfl, za, zb, rfl⟩
  obtain ⟨d1, d2⟩ := den_mul za zb
  refine sg_ret (eg_call (ea_cons (ed_opC (i := a.num) (j := b.num) ?_ ?_ ?_) (ea_cons (ed_opC (i := a.den) (j := b.den) ?_ ?_ ?_) ea_nil)) ⟨_, _, rfl, d1, d2, rfl⟩) (by show Rs.dat _ = Rs.dat _; rw [frac_mul])
  all_goals first | exact ed_ixT (ed_var rfl) ed_int rfl | exact mulZ za.num zb.num | exact mulZ (denZ za) (denZ zb)
theorem rat_num_pos {b : Rat} (h : 0 < b) : 0 < b.num := by
  have h1 := (Rat.lt_iff 0 b).mp h
  have e1 : (0 : Rat).num = 0 := rfl
  have e2 : ((0 : Rat).den : Int) = 1 := rfl
  rw [e1, e2] at h1
  omega
theorem sc_over : FnScope ["one", "other"] ["one", "other"] (defScope s_over) := ⟨rfl, rfl, rfl, by decide +kernel, rfl, by decide +kernel, by decide +kernel⟩
theorem has_over (T : Tx K mg) (h_lowered : Has P w K mg base 2 "lowered" 2 P_lowered) : Has P w K mg base 3 "over" 2 P_over := by
  refine has_mk (N := ["one", "other"]) (ps := ["one", "other"]) (k := 2) T.d_over sc_over (fun _ _ _ _ _ _ us hl => match us, hl with | [_, _], _ => rfl) (fun ds r hp => ?_) (fun f cdv A outer s H E hr => ⟨_, (pss_cons (ps_if (pt_cmpR (eqK K hr.units) (pe_ix (ixK K) (pv 1) pe_int (fun _ _ => rfl)) pe_int (nomark _)) (pss_one ps_never) pss_nil)
  (pss_one (ps_ret (pe_hasK h_lowered (hr.mono (by decide)) (by rfl) (pa_cons (pe_op op_mulW (pe_ix (ixK K) (pv 0) pe_int (fun _ _ => rfl)) (pe_ix (ixK K) (pv 1) pe_int (fun _ _ => rfl))) (pa_cons (pe_op op_mulW (pe_ix (ixK K) (pv 0) pe_int (fun _ _ => rfl)) (pe_ix (ixK K) (pv 1) pe_int (fun _ _ => rfl))) pa_nil)))))), ?_⟩)
  · rcases hp with ⟨_, _, rfl, _⟩
    rfl
  rintro ds r ⟨a, b, rfl, za, zb, hb, rfl⟩
  have hn : 0 < b.num := rat_num_pos hb
  have d1 : (0 : Int) < (a.den : Int) * b.num := Int.mul_pos (den_pos' a) hn
  have d2 : ((a.den : Int) * b.num).natAbs < 2 ^ 3000 := Nat.lt_of_lt_of_le (wide_lt (denZ za) zb.num) (Nat.pow_le_pow_right (by decide) (by decide))
  refine q0 (eb_is (eb_test (ed_eqI (i := b.num) (ed_ixT (ed_var rfl) ed_int rfl) ed_int)) (by rw [decide_eq_false_iff_not]; omega)) ?_
  refine sg_ret (eg_call (ea_cons (ed_opC (i := a.num) (j := b.den) ?_ ?_ ?_) (ea_cons (ed_opC (i := a.den) (j := b.num) ?_ ?_ ?_) ea_nil)) ⟨_, _, rfl, d1, d2, rfl⟩) (by show Rs.dat _ = Rs.dat _; rw [frac_div])
  all_goals first | exact ed_ixT (ed_var rfl) ed_int rfl | exact mulZ za.num (denZ zb) | exact mulZ (denZ za) zb.num
theorem sc_under : FnScope ["one", "other"] ["one", "other"] (defScope s_under) := ⟨rfl, rfl, rfl, by decide +kernel, rfl, by decide +kernel, by decide +kernel⟩
theorem has_under (T : Tx K mg) : Has P w K mg base 1 "under" 2 P_under := by
  refine has_mk (N := ["one", "other"]) (ps := ["one", "other"]) (k := 0) T.d_under sc_under (fun _ _ _ _ _ _ us hl => match us, hl with | [_, _], _ => rfl) (fun ds r hp => ?_) (fun f cdv A outer s H E hr => ⟨_, (pss_one (ps_ret (pe_cmpR op_lt (pe_op op_mulW (pe_ix (ixK K) (pv 0) pe_int (fun _ _ => rfl)) (pe_ix (ixK K) (pv 1) pe_int (fun _ _ => rfl))) (pe_op op_mulW (pe_ix (ixK K) (pv 1) pe_int (fun _ _ => rfl)) (pe_ix (ixK K) (pv 0) pe_int (fun _ _ => rfl))) (nomark _)))), ?_⟩)
  · rcases hp with ⟨_, _, rfl, _⟩
    rfl
  rintro ds r ⟨a, b, rfl, za, zb, rfl⟩
  refine sg_ret (ed_opB (ed_opC (i := a.num) (j := b.den) ?_ ?_ ?_) (ed_opC (i := b.num) (j := a.den) ?_ ?_ ?_)) (by show Rs.dat (.bool (decide _)) = _; rw [show decide (a < b) = decide (a.num * b.den < b.num * a.den) from decide_eq_decide.mpr (frac_lt a b).symm])
  all_goals first | exact ed_ixT (ed_var rfl) ed_int rfl | exact mulZ za.num (denZ zb) | exact mulZ zb.num (denZ za)
theorem sc_greater : FnScope ["one", "other"] ["one", "other"] (defScope s_greater) := ⟨rfl, rfl, rfl, by decide +kernel, rfl, by decide +kernel, by decide +kernel⟩
theorem has_greater (T : Tx K mg) (h_under : Has P w K mg base 1 "under" 2 P_under) : Has P w K mg base 2 "greater" 2 P_greater := by
  refine has_mk (N := ["one", "other"]) (ps := ["one", "other"]) (k := 1) T.d_greater sc_greater (fun _ _ _ _ _ _ us hl => match us, hl with | [_, _], _ => rfl) (fun ds r hp => ?_) (fun f cdv A outer s H E hr => ⟨_, (pss_one (ps_ret (pe_ifExp (pt_val (pe_hasK h_under (hr.mono (by decide)) (by rfl) (pa_cons (pv 0) (pa_cons (pv 1) pa_nil)))) (pv 1) (pv 0)))), ?_⟩)
  · rcases hp with ⟨_, _, rfl, _⟩
    rfl
  rintro ds r ⟨a, b, rfl, za, zb, rfl⟩
  refine sg_ret (ed_if (eb_B (ed_under (a := a) (b := b) (ed_var rfl) (ed_var rfl) za zb)) (fun h => ed_is (ed_var rfl) ?_) (fun h => ed_is (ed_var rfl) ?_)) rfl
  · show eQ b = eQ (Nw.greater a b)
    unfold Nw.greater
    rw [if_pos (of_decide_eq_true h)]
  · show eQ a = eQ (Nw.greater a b)
    unfold Nw.greater
    rw [if_neg (of_decide_eq_false h)]
theorem sc_lesser : FnScope ["one", "other"] ["one", "other"] (defScope s_lesser) := ⟨rfl, rfl, rfl, by decide +kernel, rfl, by decide +kernel, by decide +kernel⟩
theorem has_lesser (T : Tx K mg) (h_under : Has P w K mg base 1 "under" 2 P_under) : Has P w K mg base 2 "lesser" 2 P_lesser := by
  refine has_mk (N := ["one", "other"]) (ps := ["one", "other"]) (k := 1) T.d_lesser sc_lesser (fun _ _ _ _ _ _ us hl => match us, hl with | [_, _], _ => rfl) (fun ds r hp => ?_) (fun f cdv A outer s H E hr => ⟨_, (pss_one (ps_ret (pe_ifExp (pt_val (pe_hasK h_under (hr.mono (by decide)) (by rfl) (pa_cons (pv 1) (pa_cons (pv 0) pa_nil)))) (pv 1) (pv 0)))), ?_⟩)
  · rcases hp with ⟨_, _, rfl, _⟩
    rfl
  rintro ds r ⟨a, b, rfl, za, zb, rfl⟩
  refine sg_ret (ed_if (eb_B (ed_under (a := b) (b := a) (ed_var rfl) (ed_var rfl) zb za)) (fun h => ed_is (ed_var rfl) ?_) (fun h => ed_is (ed_var rfl) ?_)) rfl
  · show eQ b = eQ (Nw.lesser a b)
    unfold Nw.lesser
    rw [if_pos (of_decide_eq_true h)]
  · show eQ a = eQ (Nw.lesser a b)
    unfold Nw.lesser
    rw [if_neg (of_decide_eq_false h)]
theorem ed_nought (T : Tx K mg) {Γ : List Sl} : ED J K Γ (tC (.ref 80)) (eQ 0) := ed_const fun H => .tup (T.t_NOUGHT H) (.cons (.int 0) (.cons (.int 1) .nil))
theorem ed_two (T : Tx K mg) {Γ : List Sl} : ED J K Γ (tC (.ref 263)) (eQ 2) := ed_const fun H => .tup (T.t_TWO H) (.cons (.int 2) (.cons (.int 1) .nil))
theorem map_at {α : Type} {f : α → PyData} {l : List α} {i : Nat} {d : PyData} (h : (l.map f)[i]? = some d) : ∃ x, l[i]? = some x ∧ d = f x := by
  rw [List.getElem?_map] at h
  cases e : l[i]? with
  | none => rw [e] at h; cases h
  | some x => rw [e] at h; exact ⟨x, rfl, (Option.some.inj h).symm⟩
theorem take_next {α : Type} {l : List α} {i : Nat} {x : α} (h : l[i]? = some x) : l.take (i + 1) = l.take i ++ [x] := by
  obtain ⟨hi, e⟩ := List.getElem?_eq_some_iff.mp h
  rw [List.take_succ, h]
  rfl
theorem sc_sum_of : FnScope ["some", "made", "one"] ["some"] (defScope s_sum_of) := ⟨rfl, rfl, rfl, by decide +kernel, rfl, by decide +kernel, by decide +kernel⟩
theorem has_sum_of (T : Tx K mg) (h_plus : Has P w K mg base 3 "plus" 2 P_plus) : Has P w K mg base 4 "sum_of" 1 P_sum_of := by
  refine has_mk (N := ["some", "made", "one"]) (ps := ["some"]) (k := 3) T.d_sum_of sc_sum_of (fun _ _ _ _ _ _ us hl => match us, hl with | [_], _ => rfl) (fun ds r hp => ?_) (fun f cdv A outer s H E hr => ⟨_, (pss_cons (ps_set (i := 1) sc_sum_of.nd rfl (Or.inl rfl) (pe_glob (v := .ref 80) (by rfl) T.g_NOUGHT rfl))
  (pss_cons (ps_for PassesOwn.never rfl (pi_listK K (pv 0)) (pg_name (i := 2) sc_sum_of.nd rfl (Or.inl rfl))
  (pss_one (ps_set (i := 1) sc_sum_of.nd rfl (Or.inl rfl) (pe_hasK h_plus (hr.mono (by decide)) (by rfl) (pa_cons (pv 1) (pa_cons (pv 2) pa_nil))))))
  (pss_one (ps_ret (pv 1))))), ?_⟩)
  · rcases hp with ⟨_, rfl, _⟩
    rfl
  rintro ds r ⟨l, rfl, hz, hs, rfl⟩
  refine qd (ed_nought T) ?_
  refine sg_seq (N' := fun Γ' => Γ' = [.dat (eS l), .dat (eQ (l.foldl (· + ·) 0)), .un]) (sg_forL (fun i Γ' => Γ' = [.dat (eS l), .dat (eQ ((l.take i).foldl (· + ·) 0)), .un]) (ed_var rfl) ⟨_, .same (.same (.un .nil)), rfl⟩ ?_ ?_) ?_
  · rintro i d Γ' hd rfl
    obtain ⟨x, hx, rfl⟩ := map_at hd
    have hi := (List.getElem?_eq_some_iff.mp hx).1
    refine sg_asg (ed_plus (ed_var rfl) (ed_var rfl) (hs i hi) (hz x (List.mem_of_getElem? hx))) ⟨_, .same (.same (.un .nil)), lq_refl ?_⟩
    rw [take_next hx, List.foldl_append]
    rfl
  · rintro Γ' rfl
    refine lq_refl ?_
    rw [List.length_map, List.take_length]
  · rintro Γ' rfl
    exact sg_ret (ed_var rfl) rfl
end
end NwB
end NwA_
section NwBd_
set_option Elab.async false
set_option linter.all false
set_option maxRecDepth 100000
set_option maxHeartbeats 4000000
namespace NwB
open PySem PySem.Spec PyProof.Rows L2 NwT
/-! ### how large the fractions are -/
/-- a whole number of D-th parts, no greater than M either way -/
structure Bd (D M : Nat) (q : Rat) : Prop where
  int : ∃ z : Int, q * (D : Rat) = z
  lo : 0 - (M : Rat) ≤ q
  hi : q ≤ (M : Rat)
theorem cast_le {a b : Int} (h : (a : Rat) ≤ (b : Rat)) : a ≤ b := Rat.intCast_le_intCast.mp h
theorem nat_cast_pos {D : Nat} (h : 0 < D) : (0 : Rat) < (D : Rat) := by
  have h1 : ((0 : Nat) : Rat) < ((D : Nat) : Rat) := Rat.natCast_lt_natCast.mpr h
  exact h1
theorem nat_cast_nonneg {D : Nat} : (0 : Rat) ≤ (D : Rat) := by
  have h1 : ((0 : Nat) : Rat) ≤ ((D : Nat) : Rat) := Rat.natCast_le_natCast.mpr (Nat.zero_le _)
  exact h1
theorem eq_divInt {D : Nat} (hD : 0 < D) {q : Rat} {z : Int} (h : q * (D : Rat) = z) : q = Rat.divInt z D := by
  have hp := nat_cast_pos hD
  have e : Rat.divInt z D = (z : Rat) / ((D : Int) : Rat) := Rat.divInt_eq_div z D
  have e2 : (((D : Int)) : Rat) = (D : Rat) := rfl
  rw [e, e2, ← h, Rat.mul_div_cancel (by grind)]
theorem divInt_num_le (t b : Int) (hb : 0 < b) : (Rat.divInt t b).num.natAbs ≤ t.natAbs := by
  rw [low_num hb]
  exact Int.natAbs_ediv_le_natAbs _ _
theorem divInt_den_le (t b : Int) (hb : 0 < b) : (Rat.divInt t b).den ≤ b.natAbs := by
  have h := low_den (t := t) hb
  have h2 := Int.ediv_le_self ((Int.gcd t b : Nat) : Int) (show (0 : Int) ≤ b by omega)
  omega
theorem Bd.abs {D M : Nat} {q : Rat} (h : Bd D M q) {z : Int} (hz : q * (D : Rat) = z) : z.natAbs ≤ M * D := by
  have h0 := nat_cast_nonneg (D := D)
  have h1 : (z : Rat) ≤ (((M * D : Nat) : Int) : Rat) := by
    have e : (((M * D : Nat) : Int) : Rat) = (M : Rat) * (D : Rat) := by
      rw [show (((M * D : Nat) : Int) : Rat) = ((M * D : Nat) : Rat) from rfl, Rat.natCast_mul]
    rw [e, ← hz]
    exact Rat.mul_le_mul_of_nonneg_right h.hi h0
  have h2 : (((-(M * D : Nat) : Int)) : Rat) ≤ (z : Rat) := by
    have e : (((-(M * D : Nat) : Int)) : Rat) = (0 - (M : Rat)) * (D : Rat) := by
      rw [Rat.intCast_neg]
      rw [show (((M * D : Nat) : Int) : Rat) = ((M * D : Nat) : Rat) from rfl, Rat.natCast_mul]
      grind
    rw [e, ← hz]
    exact Rat.mul_le_mul_of_nonneg_right h.lo h0
  have a1 := cast_le h1
  have a2 := cast_le h2
  omega
theorem Bd.z {D M : Nat} {q : Rat} (h : Bd D M q) (hD : 0 < D) (h1 : M * D < 2 ^ 1000) (h2 : D < 2 ^ 1000) : Z q := by
  obtain ⟨z, hz⟩ := h.int
  have ha := h.abs hz
  rw [eq_divInt hD hz]
  exact ⟨by have := divInt_num_le z D (by omega); omega, by have := divInt_den_le z D (by omega); rw [Int.natAbs_natCast] at this; omega⟩
/-- a quotient of two such -/
theorem Bd.div {D M N : Nat} {a b : Rat} (ha : Bd D M a) (hb : Bd D N b) (hD : 0 < D) (pos : 0 < b) (h1 : M * D < 2 ^ 1000) (h2 : N * D < 2 ^ 1000) : Z (a / b) := by
  obtain ⟨x, hx⟩ := ha.int
  obtain ⟨y, hy⟩ := hb.int
  have hp := nat_cast_pos hD
  have ypos : 0 < y := by
    have h3 : (0 : Rat) < (y : Rat) := by
      rw [← hy]
      exact Rat.mul_pos pos hp
    have h4 : ((0 : Int) : Rat) < (y : Rat) := h3
    exact Rat.intCast_lt_intCast.mp h4
  have e : a / b = Rat.divInt x y := by
    rw [Rat.divInt_eq_div, ← hx, ← hy]
    have hb0 : b ≠ 0 := by grind
    have hd0 : (D : Rat) ≠ 0 := by grind
    grind
  have a1 := ha.abs hx
  have a2 := hb.abs hy
  rw [e]
  exact ⟨by have := divInt_num_le x y ypos; omega, by have := divInt_den_le x y ypos; omega⟩
theorem Bd.mono {D M N : Nat} {q : Rat} (h : Bd D M q) (l : M ≤ N) : Bd D N q := by
  have h1 : (M : Rat) ≤ (N : Rat) := Rat.natCast_le_natCast.mpr l
  have := h.lo
  have := h.hi
  exact ⟨h.int, by grind, by grind⟩
theorem Bd.zero {D M : Nat} : Bd D M 0 := by
  have := nat_cast_nonneg (D := M)
  exact ⟨⟨0, by rw [Rat.zero_mul]; rfl⟩, by grind, by grind⟩
theorem Bd.add {D M N : Nat} {a b : Rat} (h1 : Bd D M a) (h2 : Bd D N b) : Bd D (M + N) (a + b) := by
  obtain ⟨x, hx⟩ := h1.int
  obtain ⟨y, hy⟩ := h2.int
  have e : ((M + N : Nat) : Rat) = (M : Rat) + (N : Rat) := Rat.natCast_add _ _
  have := h1.lo
  have := h1.hi
  have := h2.lo
  have := h2.hi
  refine ⟨⟨x + y, ?_⟩, by rw [e]; grind, by rw [e]; grind⟩
  rw [Rat.add_mul, hx, hy, Rat.intCast_add]
theorem Bd.sub {D M N : Nat} {a b : Rat} (h1 : Bd D M a) (h2 : Bd D N b) : Bd D (M + N) (a - b) := by
  obtain ⟨x, hx⟩ := h1.int
  obtain ⟨y, hy⟩ := h2.int
  have e : ((M + N : Nat) : Rat) = (M : Rat) + (N : Rat) := Rat.natCast_add _ _
  have := h1.lo
  have := h1.hi
  have := h2.lo
  have := h2.hi
  refine ⟨⟨x - y, ?_⟩, by rw [e]; grind, by rw [e]; grind⟩
  rw [Rat.intCast_sub, ← hx, ← hy]
  grind
/-- between nought and such a one, whole in the same parts -/
theorem Bd.btw {D M : Nat} {a b : Rat} (h : Bd D M b) (i : ∃ z : Int, a * (D : Rat) = z) (h0 : 0 ≤ a) (h1 : a ≤ b) : Bd D M a := by
  have := nat_cast_nonneg (D := M)
  have := h.hi
  exact ⟨i, by grind, by grind⟩
theorem Bd.S {D M : Nat} {f : Nat → Rat} : ∀ m : Nat, (∀ k, k < m → Bd D M (f k)) → Bd D (m * M) (Nw.S m f)
  | 0, _ => by rw [Nat.zero_mul]; exact Bd.zero
  | m + 1, h => by
    rw [Nat.succ_mul]
    exact (Bd.S m fun k hk => h k (by omega)).add (h m (by omega))
theorem Bd.fold {D M : Nat} : ∀ (l : List Rat) (N : Nat) (x : Rat), (∀ q ∈ l, Bd D M q) → Bd D N x → Bd D (N + l.length * M) (l.foldl (· + ·) x)
  | [], N, x, _, hx => by
    rw [List.length_nil, Nat.zero_mul, Nat.add_zero]
    exact hx
  | a :: l, N, x, h, hx => by
    have ih := Bd.fold l (N + M) (x + a) (fun q hq => h q (List.mem_cons_of_mem _ hq)) (hx.add (h a (List.mem_cons_self ..)))
    rw [List.length_cons, Nat.succ_mul]
    have e : N + (l.length * M + M) = N + M + l.length * M := by omega
    rw [e]
    exact ih
/-! ### rings and sendings as they are met -/
structure Rg (R : Nw.Ring) (D : Nat) : Prop where
  ok : Nw.RingOk R
  n8 : R.n ≤ 8
  m8 : R.m ≤ 8
  D0 : 0 < D
  D1 : D < 2 ^ 300
  room : ∀ i, i < R.n → Bd D (2 ^ 41) (R.room i)
  size : ∀ k, k < R.m → Bd D (2 ^ 41) (R.at k).size
structure Ws (R : Nw.Ring) (D : Nat) (s : List Rat) : Prop where
  ok : Nw.SOk R s
  int : ∀ k, k < R.m → ∃ z : Int, Nw.pt s k * (D : Rat) = z
section
variable {R : Nw.Ring} {D : Nat} {s : List Rat}
theorem Rg.z {M : Nat} {q : Rat} (g : Rg R D) (h : Bd D M q) (hM : M ≤ 2 ^ 600 := by decide) : Z q := by
  have h1 := g.D1
  refine h.z g.D0 ?_ (Nat.lt_of_lt_of_le h1 (Nat.pow_le_pow_right (by decide) (by decide)))
  have h2 : M * D < 2 ^ 600 * 2 ^ 300 := Nat.lt_of_le_of_lt (Nat.mul_le_mul_right _ hM) (Nat.mul_lt_mul_of_pos_left h1 (Nat.two_pow_pos _))
  rw [← Nat.pow_add] at h2
  exact Nat.lt_of_lt_of_le h2 (Nat.pow_le_pow_right (by decide) (by decide))
theorem Rg.zdiv {M N : Nat} {a b : Rat} (g : Rg R D) (ha : Bd D M a) (hb : Bd D N b) (pos : 0 < b) (hM : M ≤ 2 ^ 600 := by decide) (hN : N ≤ 2 ^ 600 := by decide) : Z (a / b) := by
  have h1 := g.D1
  have key : ∀ M : Nat, M ≤ 2 ^ 600 → M * D < 2 ^ 1000 := fun M hM => by
    have h2 : M * D < 2 ^ 600 * 2 ^ 300 := Nat.lt_of_le_of_lt (Nat.mul_le_mul_right _ hM) (Nat.mul_lt_mul_of_pos_left h1 (Nat.two_pow_pos _))
    rw [← Nat.pow_add] at h2
    exact Nat.lt_of_lt_of_le h2 (Nat.pow_le_pow_right (by decide) (by decide))
  exact ha.div hb g.D0 pos (key M hM) (key N hN)
theorem Ws.bd (g : Rg R D) (h : Ws R D s) {k : Nat} (hk : k < R.m) : Bd D (2 ^ 41) (Nw.pt s k) := (g.size k hk).btw (h.int k hk) (h.ok.part k hk).1 (h.ok.part k hk).2
theorem Ws.rest (g : Rg R D) (h : Ws R D s) {k : Nat} (hk : k < R.m) : Bd D (2 ^ 41) ((R.at k).size - Nw.pt s k) := by
  obtain ⟨h1, h2⟩ := h.ok.part k hk
  exact (g.size k hk).btw (((g.size k hk).sub (h.bd g hk)).int) (by grind) (by grind)
theorem Ws.over (g : Rg R D) (h : Ws R D s) {k : Nat} (hk : k < R.m) (i : Nat) : Bd D (2 ^ 41) (Nw.over R.n (R.at k) (Nw.pt s k) i) := by
  unfold Nw.over
  split
  · exact h.bd g hk
  · exact h.rest g hk
theorem Ws.load (g : Rg R D) (h : Ws R D s) {t : Nat} (ht : t ≤ R.m) (i : Nat) : Bd D (2 ^ 44) (Nw.S t fun k => Nw.over R.n (R.at k) (Nw.pt s k) i) := by
  refine (Bd.S t fun k hk => h.over g (show k < R.m by omega) i).mono ?_
  have := g.m8
  have : t ≤ 8 := by omega
  calc t * 2 ^ 41 ≤ 8 * 2 ^ 41 := Nat.mul_le_mul_right _ this
    _ = 2 ^ 44 := by decide
end
/-! ### reading rings -/
section
variable {R : Nw.Ring} {s : List Rat}
theorem at_room {i : Nat} (h : i < R.n) : (R.rooms.map eQ)[i]? = some (eQ (R.room i)) := by
  rw [List.getElem?_map, List.getElem?_eq_getElem h]
  unfold Nw.Ring.room
  rw [List.getD_eq_getElem?_getD, List.getElem?_eq_getElem h]
  rfl
theorem at_ask {k : Nat} (h : k < R.m) : (R.asks.map eAsk)[k]? = some (eAsk (R.at k)) := by
  rw [List.getElem?_map, List.getElem?_eq_getElem h]
  unfold Nw.Ring.at
  rw [List.getD_eq_getElem?_getD, List.getElem?_eq_getElem h]
  rfl
theorem ask_at {k : Nat} {d : PyData} (h : (R.asks.map eAsk)[k]? = some d) : k < R.m ∧ d = eAsk (R.at k) := by
  have hk := (List.getElem?_eq_some_iff.mp h).1
  rw [List.length_map] at hk
  rw [at_ask hk] at h
  exact ⟨hk, (Option.some.inj h).symm⟩
theorem room_at {k : Nat} {d : PyData} (h : (R.rooms.map eQ)[k]? = some d) : k < R.n ∧ d = eQ (R.room k) := by
  have hk := (List.getElem?_eq_some_iff.mp h).1
  rw [List.length_map] at hk
  rw [at_room hk] at h
  exact ⟨hk, (Option.some.inj h).symm⟩
theorem at_pt {k : Nat} (h : k < s.length) : (s.map eQ)[k]? = some (eQ (Nw.pt s k)) := by
  rw [List.getElem?_map, List.getElem?_eq_getElem h]
  unfold Nw.pt
  rw [List.getD_eq_getElem?_getD, List.getElem?_eq_getElem h]
  rfl
theorem pt_at {k : Nat} {d : PyData} (h : (s.map eQ)[k]? = some d) : k < s.length ∧ d = eQ (Nw.pt s k) := by
  have hk := (List.getElem?_eq_some_iff.mp h).1
  rw [List.length_map] at hk
  rw [at_pt hk] at h
  exact ⟨hk, (Option.some.inj h).symm⟩
variable {J : Ji} {K : PySem.W.Frag} {Γ : List Sl} {te ta : TE}
theorem ed_rooms (h : ED J K Γ te (eRing R)) : ED J K Γ (tOp (rIx K) te (tC (.int 0))) (.list (R.rooms.map eQ)) := ed_ixT h ed_int rfl
theorem ed_asks (h : ED J K Γ te (eRing R)) : ED J K Γ (tOp (rIx K) te (tC (.int 1))) (.list (R.asks.map eAsk)) := ed_ixT h ed_int rfl
theorem ed_ask {k : Nat} (h : ED J K Γ te (eRing R)) (h2 : ED J K Γ ta (eN k)) (hk : k < R.m) : ED J K Γ (tOp (rIx K) (tOp (rIx K) te (tC (.int 1))) ta) (eAsk (R.at k)) := ed_ixL (el_dat (ed_asks h)) h2 (atI_at (at_ask hk))
theorem ed_size {k : Nat} (h : ED J K Γ te (eRing R)) (h2 : ED J K Γ ta (eN k)) (hk : k < R.m) : ED J K Γ (tOp (rIx K) (tOp (rIx K) (tOp (rIx K) te (tC (.int 1))) ta) (tC (.int 3))) (eQ (R.at k).size) := ed_ixT (ed_ask h h2 hk) ed_int rfl
theorem ed_room {i : Nat} (h : ED J K Γ te (eRing R)) (h2 : ED J K Γ ta (eN i)) (hi : i < R.n) : ED J K Γ (tOp (rIx K) (tOp (rIx K) te (tC (.int 0))) ta) (eQ (R.room i)) := ed_ixL (el_dat (ed_rooms h)) h2 (atI_at (at_room hi))
theorem ed_pt {k : Nat} (h : ED J K Γ te (eS s)) (h2 : ED J K Γ ta (eN k)) (hk : k < s.length) : ED J K Γ (tOp (rIx K) te ta) (eQ (Nw.pt s k)) := ed_ixL (el_dat h) h2 (atI_at (at_pt hk))
theorem ed_n (h : ED J K Γ te (eRing R)) : ED J K Γ (tCB (rLen K) (tCons (tOp (rIx K) te (tC (.int 0))) tNil)) (eN R.n) := ed_is (ed_lenL (el_dat (ed_rooms h))) (by rw [List.length_map]; rfl)
theorem ed_m (h : ED J K Γ te (eRing R)) : ED J K Γ (tCB (rLen K) (tCons (tOp (rIx K) te (tC (.int 1))) tNil)) (eN R.m) := ed_is (ed_lenL (el_dat (ed_asks h))) (by rw [List.length_map]; rfl)
end
end NwB
end NwBd_
section NwB1_
set_option Elab.async false
set_option linter.all false
set_option maxRecDepth 100000
set_option maxHeartbeats 4000000
namespace NwB
open PySem PySem.Spec PyProof.Rows L2 NwT
open Evl (Ex)
/-! ### a chain of three comparisons -/
def tChain3 (r r' r'' : R2) (ta tb tc td : TE) : TE := fun σ H Q => ta σ H fun x H1 => tb σ H1 fun y H2 => r x y H2 fun z H3 => ∃ k, z = .bl k ∧
  (if k = true then tc σ H3 fun u H4 => r' y u H4 fun z' H5 => ∃ k', z' = .bl k' ∧ (if k' = true then td σ H5 fun t H6 => r'' u t H6 Q else Q (.bl false) H5) else Q (.bl false) H3)
section
variable {X : Cx}
theorem pe_chain3 {op op' op'' : CmpOp} {r r' r'' : R2} {a b c d : Expr} {ta tb tc td : TE} {pos : Pos} (ho : OpR X (compareOp op) r) (ho' : OpR X (compareOp op') r') (ho'' : OpR X (compareOp op'') r'') (ha : PE X a ta) (hb : PE X b tb) (hc : PE X c tc) (hd : PE X d td)
    (hm : lastMarks [op, op', op''] [b, c, d] = false := by with_unfolding_all rfl) : PE X (.Compare a [op, op', op''] [b, c, d] pos) (tChain3 r r' r'' ta tb tc td) := by
  refine ⟨fun pins s σ H Q I h => ?_⟩
  refine Compare_chain (thn (ha.run pins s σ H _ I h) fun v s1 ⟨x, H1, I1, r1, q1⟩ => chain_link (thn (hb.run pins s1 σ H1 _ I1 q1) fun u s2 ⟨y, H2, I2, r2, q2⟩ => thn (ho pins s2 σ H2 x y v u _ I2 r1 r2 q2) fun d s3 ⟨z, H3, I3, r3, k, e, q3⟩ => ?_)) hm
  subst e
  cases r3
  refine wpAny_truthy_bool ?_
  cases k with
  | false => exact ite_ff ⟨.bl false, H3, I3, rfl, q3⟩
  | true =>
    refine ite_tt (chain_link (thn (hc.run pins s3 σ H3 _ I3 q3) fun u' s4 ⟨y', H4, I4, r4, q4⟩ => thn (ho' pins s4 σ H4 y y' u u' _ I4 r2 r4 q4) fun d' s5 ⟨z', H5, I5, r5, k', e', q5⟩ => ?_))
    subst e'
    cases r5
    refine wpAny_truthy_bool ?_
    cases k' with
    | false => exact ite_ff ⟨.bl false, H5, I5, rfl, q5⟩
    | true => exact ite_tt (chain_last (thn (hd.run pins s5 σ H5 _ I5 q5) fun w' s6 ⟨z2, H6, I6, r6, q6⟩ => ho'' pins s6 σ H6 y' z2 u' w' Q I6 r4 r6 q6))
end
theorem ed_chain3 {K : PySem.W.Frag} {Γ : List Sl} {ta tb tc td : TE} {g g' g'' : Int → Int → Bool} {i j k l : Int} (ha : ED J K Γ ta (.int i)) (hb : ED J K Γ tb (.int j)) (hc : ED J K Γ tc (.int k)) (hd : ED J K Γ td (.int l)) :
    ED J K Γ (tChain3 (rI0 fun i j => .bl (g i j)) (rI0 fun i j => .bl (g' i j)) (rI0 fun i j => .bl (g'' i j)) ta tb tc td) (.bool (g i j && (g' j k && g'' k l))) := fun O σ H e Q q =>
  ha O σ H e _ fun v H1 x1 r1 => hb O σ H1 (e.mono x1) _ fun u H2 x2 r2 => by
    rw [dp_int r1, dp_int r2]
    refine ⟨i, j, rfl, rfl, g i j, rfl, ?_⟩
    cases z : g i j with
    | true =>
      refine hc O σ H2 ((e.mono x1).mono x2) _ fun w H3 x3 r3 => ?_
      rw [dp_int r3]
      refine ⟨j, k, rfl, rfl, g' j k, rfl, ?_⟩
      cases z' : g' j k with
      | true =>
        refine hd O σ H3 (((e.mono x1).mono x2).mono x3) _ fun t H4 x4 r4 => ?_
        rw [dp_int r4]
        rw [z, z'] at q
        exact ⟨k, l, rfl, rfl, q _ H4 (((x1.trans x2).trans x3).trans x4) (.bl _)⟩
      | false =>
        rw [z, z'] at q
        exact q _ H3 ((x1.trans x2).trans x3) (.bl false)
    | false =>
      rw [z] at q
      exact q _ H2 (x1.trans x2) (.bl false)
/-! ### promises: rings -/
def apartN (c : Nat × Nat) (x y : Nat) : Bool := (decide (c.1 < x) && decide (x ≤ c.2)) != (decide (c.1 < y) && decide (y ≤ c.2))
def P_is_cut : Pd := fun ds r => ∃ (R : Nw.Ring) (c : Nat × Nat), ds = [eRing R, eC c] ∧ c.1 ≤ c.2 ∧ c.2 < R.n ∧ r = .dat (.bool true)
def P_is_within : Pd := fun ds r => ∃ (c : Nat × Nat) (p : Nat), ds = [eC c, eN p] ∧ r = .dat (.bool (decide (c.1 < p) && decide (p ≤ c.2)))
def P_is_apart : Pd := fun ds r => ∃ (c : Nat × Nat) (x y : Nat), ds = [eC c, eN x, eN y] ∧ r = .dat (.bool (apartN c x y))
def P_across : Pd := fun ds r => ∃ (R : Nw.Ring) (c : Nat × Nat), ds = [eRing R, eC c] ∧ (∃ D, Rg R D) ∧ r = .dat (eQ (Nw.across R c))
def P_rooms_of : Pd := fun ds r => ∃ (R : Nw.Ring) (c : Nat × Nat), ds = [eRing R, eC c] ∧ (∃ D, Rg R D) ∧ c.1 < R.n ∧ c.2 < R.n ∧ r = .dat (eQ (R.room c.1 + R.room c.2))
def P_shown_by : Pd := fun ds r => ∃ (R : Nw.Ring) (c : Nat × Nat), ds = [eRing R, eC c] ∧ (∃ D, Rg R D) ∧ c.1 < R.n ∧ c.2 < R.n ∧ r = .dat (eQ (Nw.shown R c))
def P_all_cuts : Pd := fun ds r => ∃ (R : Nw.Ring), ds = [eRing R] ∧ R.n ≤ 8 ∧ r = .own ((Nw.allCuts R.n).map eC)
def P_greatest_cut : Pd := fun ds r => ∃ (R : Nw.Ring), ds = [eRing R] ∧ (∃ D, Rg R D) ∧ r = .dat (.tuple [eQ (Nw.gcut R).1, eC (Nw.gcut R).2])
def P_other_way : Pd := fun ds r => ∃ b : Bool, ds = [eW b] ∧ r = .dat (eW (!b))
def P_ties_of : Pd := fun ds r => ∃ (R : Nw.Ring) (k : Nat) (b : Bool), ds = [eRing R, eN k, eW b] ∧ k < R.m ∧ Nw.RingOk R ∧ R.n ≤ 8 ∧ r = .own ((Nw.tiesOf R.n (R.at k) b).map eN)
def P_is_over : Pd := fun ds r => ∃ (R : Nw.Ring) (k i : Nat), ds = [eRing R, eN k, eW true, eN i] ∧ k < R.m ∧ i < R.n ∧ Nw.RingOk R ∧ r = .dat (.bool (Nw.on R.n (R.at k) i))
def P_do_cross : Pd := fun ds r => ∃ (R : Nw.Ring) (k l : Nat), ds = [eRing R, eN k, eN l] ∧ k < R.m ∧ l < R.m ∧ r = .dat (.bool (Nw.cross (R.at k) (R.at l)))
def P_is_parted : Pd := fun ds r => ∃ (R : Nw.Ring) (s : List Rat) (k : Nat), ds = [eRing R, eS s, eN k] ∧ (∃ D, Rg R D ∧ Ws R D s) ∧ k < R.m ∧ r = .dat (.bool (Nw.parted R s k))
def P_parted_in : Pd := fun ds r => ∃ (R : Nw.Ring) (s : List Rat), ds = [eRing R, eS s] ∧ (∃ D, Rg R D ∧ Ws R D s) ∧ r = .own ((Nw.partedL R s).map eN)
def P_all_cross : Pd := fun ds r => ∃ (R : Nw.Ring) (l : List Nat), ds = [eRing R, eNs l] ∧ (∀ k ∈ l, k < R.m) ∧ (∀ k ∈ l, ∀ j ∈ l, k < j → Nw.cross (R.at k) (R.at j) = true) ∧ r = .dat (.bool true)
section
variable {P : Program} {w : World} {J : Ji} {K : PySem.W.Frag} {mg : Str → Option Value} {base : Heap}
theorem sc_is_cut : FnScope ["ring", "thing"] ["ring", "thing"] (defScope s_is_cut) := ⟨rfl, rfl, rfl, by decide +kernel, rfl, by decide +kernel, by decide +kernel⟩
theorem has_is_cut (T : Tx K mg) (h_is_whole : Has P w K mg base 1 "is_whole" 1 P_is_whole) : Has P w K mg base 2 "is_cut" 2 P_is_cut := by
  refine has_mk (N := ["ring", "thing"]) (ps := ["ring", "thing"]) (k := 1) T.d_is_cut sc_is_cut (fun _ _ _ _ _ _ us hl => match us, hl with | [_, _], _ => rfl) (fun ds r hp => ?_) (fun f cdv A outer s H E hr => ⟨_, (pss_cons (ps_if (PW.pt (pw_or (pt_not (pt_val (pe_callB (isiK K) (by rfl) T.isinstance bb_isinstance (pa_cons (pv 1) (pa_cons (pe_bltn (v := .ty "tuple") (by rfl) T.tuple bb_tuple rfl) pa_nil))))) (pw_or (pt_cmpR (neK K hr.units) (pe_callB (lenK K) (by rfl) T.len bb_len (pa_cons (pv 1) pa_nil)) pe_int (nomark _)) (pw_or (pt_not (pt_val (pe_hasK h_is_whole (hr.mono (by decide)) (by rfl) (pa_cons (pe_ix (ixK K) (pv 1) pe_int (fun _ _ => rfl)) pa_nil)))) (pw_or1 (pt_not (pt_val (pe_hasK h_is_whole (hr.mono (by decide)) (by rfl) (pa_cons (pe_ix (ixK K) (pv 1) pe_int (fun _ _ => rfl)) pa_nil))))))))) (pss_one (ps_ret pe_bl)) pss_nil)
  (pss_one (ps_ret (pe_chain3 op_le op_le op_lt pe_int (pe_ix (ixK K) (pv 1) pe_int (fun _ _ => rfl)) (pe_ix (ixK K) (pv 1) pe_int (fun _ _ => rfl)) (pe_callB (lenK K) (by rfl) T.len bb_len (pa_cons (pe_ix (ixK K) (pv 0) pe_int (fun _ _ => rfl)) pa_nil)))))), ?_⟩)
  · rcases hp with ⟨_, _, rfl, _⟩
    rfl
  rintro ds r ⟨R, c, rfl, h1, h2, rfl⟩
  have w1 : ∀ {te : TE} {n : Nat}, ED J0 K (entry ["ring", "thing"] [eRing R, eC c]) te (eN n) → EB J0 K (entry ["ring", "thing"] [eRing R, eC c]) (tNot (tB (tCall (spF K P_is_whole) [] E0 (tCons te tNil)))) false := fun h => eb_not (b := true) (eb_B (eg_call (ea_cons h ea_nil) ⟨_, rfl, rfl⟩))
  refine q0 (eb_or (a := false) (b := false) (eb_not (b := true) (eb_B (ed_isi (ed_var rfl) k_tt))) fun _ => eb_or (a := false) (b := false) (eb_is (eb_test (ed_neI (ed_lenT (ed_var rfl)) ed_int)) (by simp)) fun _ => eb_or (a := false) (b := false) (w1 (ed_ixT (ed_var rfl) ed_int rfl)) fun _ => w1 (ed_ixT (ed_var rfl) ed_int rfl)) ?_
  refine sg_ret (ed_chain3 ed_int (ed_ixT (ed_var rfl) ed_int rfl) (ed_ixT (ed_var rfl) ed_int rfl) (ed_n (ed_var rfl))) ?_
  have a1 : (0 : Int) ≤ (c.1 : Nat) := by omega
  have a2 : ((c.1 : Nat) : Int) ≤ (c.2 : Nat) := by omega
  have a3 : ((c.2 : Nat) : Int) < (R.n : Nat) := by omega
  rw [decide_eq_true a1, decide_eq_true a2, decide_eq_true a3]
  rfl
theorem sc_is_within : FnScope ["cut", "place"] ["cut", "place"] (defScope s_is_within) := ⟨rfl, rfl, rfl, by decide +kernel, rfl, by decide +kernel, by decide +kernel⟩
theorem has_is_within (T : Tx K mg) : Has P w K mg base 1 "is_within" 2 P_is_within := by
  refine has_mk (N := ["cut", "place"]) (ps := ["cut", "place"]) (k := 0) T.d_is_within sc_is_within (fun _ _ _ _ _ _ us hl => match us, hl with | [_, _], _ => rfl) (fun ds r hp => ?_) (fun f cdv A outer s H E hr => ⟨_, (pss_one (ps_ret (pe_chain op_lt op_le (pe_ix (ixK K) (pv 0) pe_int (fun _ _ => rfl)) (pv 1) (pe_ix (ixK K) (pv 0) pe_int (fun _ _ => rfl))))), ?_⟩)
  · rcases hp with ⟨_, _, rfl, _⟩
    rfl
  rintro ds r ⟨c, p, rfl, rfl⟩
  refine sg_ret (ed_chain (ed_ixT (ed_var rfl) ed_int rfl) (ed_var rfl) fun _ => ed_ixT (ed_var rfl) ed_int rfl) ?_
  have e1 : decide (((c.1 : Nat) : Int) < (p : Nat)) = decide (c.1 < p) := decide_eq_decide.mpr (by omega)
  have e2 : decide (((p : Nat) : Int) ≤ (c.2 : Nat)) = decide (p ≤ c.2) := decide_eq_decide.mpr (by omega)
  rw [e1, e2]
theorem sc_is_apart : FnScope ["cut", "one", "other"] ["cut", "one", "other"] (defScope s_is_apart) := ⟨rfl, rfl, rfl, by decide +kernel, rfl, by decide +kernel, by decide +kernel⟩
theorem has_is_apart (T : Tx K mg) (h_is_within : Has P w K mg base 1 "is_within" 2 P_is_within) : Has P w K mg base 2 "is_apart" 3 P_is_apart := by
  refine has_mk (N := ["cut", "one", "other"]) (ps := ["cut", "one", "other"]) (k := 1) T.d_is_apart sc_is_apart (fun _ _ _ _ _ _ us hl => match us, hl with | [_, _, _], _ => rfl) (fun ds r hp => ?_) (fun f cdv A outer s H E hr => ⟨_, (pss_one (ps_ret (pe_cmpR (neK K hr.units) (pe_hasK h_is_within (hr.mono (by decide)) (by rfl) (pa_cons (pv 0) (pa_cons (pv 1) pa_nil))) (pe_hasK h_is_within (hr.mono (by decide)) (by rfl) (pa_cons (pv 0) (pa_cons (pv 2) pa_nil))) (nomark _)))), ?_⟩)
  · rcases hp with ⟨_, _, _, rfl, _⟩
    rfl
  rintro ds r ⟨c, x, y, rfl, rfl⟩
  exact sg_ret (ed_neB (eg_call (ea_cons (ed_var rfl) (ea_cons (ed_var rfl) ea_nil)) ⟨c, x, rfl, rfl⟩) (eg_call (ea_cons (ed_var rfl) (ea_cons (ed_var rfl) ea_nil)) ⟨c, y, rfl, rfl⟩)) rfl
theorem told_asks (R : Nw.Ring) (p : Nw.Ask → Bool) : told R.m (fun i => p (R.at i)) (fun i => eQ (R.at i).size) = (((List.range R.m).filter fun i => p (R.at i)).map fun i => (R.at i).size).map eQ := by
  unfold told
  rw [List.map_map]
  rfl
theorem fold_range (f : Nat → Rat) (p : Nat → Bool) : ∀ m : Nat, (((List.range m).filter p).map f).foldl (· + ·) 0 = Nw.S m fun k => if p k then f k else 0
  | 0 => rfl
  | m + 1 => by
    rw [List.range_succ, List.filter_append, List.map_append, List.foldl_append, fold_range f p m]
    rw [List.filter_cons]
    simp only [Nw.S]
    by_cases e : p m = true
    · rw [if_pos e, if_pos e]
      rfl
    · rw [if_neg e, if_neg e]
      show _ = _ + (0 : Rat)
      simp only [List.filter_nil, List.map_nil, List.foldl_nil]
      grind
theorem sc_across : FnScope ["ring", "cut", "ask"] ["ring", "cut"] (defScope s_across) := ⟨rfl, rfl, rfl, by decide +kernel, rfl, by decide +kernel, by decide +kernel⟩
theorem has_across (T : Tx K mg) (h_is_apart : Has P w K mg base 2 "is_apart" 3 P_is_apart) (h_sum_of : Has P w K mg base 4 "sum_of" 1 P_sum_of) : Has P w K mg base 5 "across" 2 P_across := by
  refine has_mk (N := ["ring", "cut", "ask"]) (ps := ["ring", "cut"]) (k := 4) T.d_across sc_across (fun _ _ _ _ _ _ us hl => match us, hl with | [_, _], _ => rfl) (fun ds r hp => ?_) (fun f cdv A outer s H E hr => ⟨_, (pss_one (ps_ret (pe_hasK h_sum_of (hr.mono (by decide)) (by rfl) (pa_cons (pe_lc (own := [("ask", 2)]) (g := gName 2) rfl sc_across.nd (pi_listK K (pe_ix (ixK K) (pv 0) pe_int (fun _ _ => rfl))) (blkOk_by (own := [("ask", 2)]) (N := ["ring", "cut", "ask"]) (sc := (defScope s_across)) (by decide +kernel)) (fun _ _ _ _ _ => pg_name (i := 2) sc_across.nd rfl (Or.inl rfl)) (fun _ _ _ _ _ => by exact (pts_one (pt_val (pe_hasK h_is_apart (hr.mono (by decide)) (by rfl) (pa_cons (pv 1) (pa_cons (pe_ix (ixK K) (pv 2) pe_int (fun _ _ => rfl)) (pa_cons (pe_ix (ixK K) (pv 2) pe_int (fun _ _ => rfl)) pa_nil))))))) (fun _ _ _ _ _ => by exact (pe_ix (ixK K) (pv 2) pe_int (fun _ _ => rfl)))) pa_nil)))), ?_⟩)
  · rcases hp with ⟨_, _, rfl, _⟩
    rfl
  rintro ds r ⟨R, c, rfl, ⟨D, g⟩, rfl⟩
  have hb : ∀ q ∈ ((List.range R.m).filter fun i => apartN c (R.at i).one (R.at i).other).map fun i => (R.at i).size, Bd D (2 ^ 41) q := by
    intro q hq
    obtain ⟨i, hi, rfl⟩ := List.mem_map.mp hq
    exact g.size i (List.mem_range.mp (List.mem_filter.mp hi).1)
  have hl : (((List.range R.m).filter fun i => apartN c (R.at i).one (R.at i).other).map fun i => (R.at i).size).length ≤ 8 := by
    rw [List.length_map]
    have := List.length_filter_le (fun i => apartN c (R.at i).one (R.at i).other) (List.range R.m)
    rw [List.length_range] at this
    have := g.m8
    omega
  refine sg_ret (eg_call (r := .dat (eQ (((((List.range R.m).filter fun i => apartN c (R.at i).one (R.at i).other).map fun i => (R.at i).size)).foldl (· + ·) 0))) (ea_cons (ed_of_own (own_is (lc_L (vs := [2]) (fun i => apartN c (R.at i).one (R.at i).other) (fun i => eQ (R.at i).size) (fun i hi => by rw [List.mem_singleton.mp hi]; rfl) (by decide) (ed_asks (ed_var rfl)) ?_ ?_ ?_) ?_)) ea_nil) ⟨((List.range R.m).filter fun i => apartN c (R.at i).one (R.at i).other).map fun i => (R.at i).size, rfl, fun q hq => g.z (hb q hq), fun i hi => ?_, rfl⟩) ?_
  · rw [List.length_map]
    have : R.asks.length ≤ 8 := g.m8
    omega
  · intro i d hd
    obtain ⟨hi, rfl⟩ := ask_at hd
    exact eb_B (eg_call (ea_cons (ed_var rfl) (ea_cons (ed_ixT (ed_var rfl) ed_int rfl) (ea_cons (ed_ixT (ed_var rfl) ed_int rfl) ea_nil))) ⟨c, _, _, rfl, rfl⟩)
  · intro i d hd _
    obtain ⟨hi, rfl⟩ := ask_at hd
    exact ed_ixT (ed_var rfl) ed_int rfl
  · rw [List.length_map]
    exact told_asks R fun a => apartN c a.one a.other
  · refine g.z (M := 2 ^ 44) ((Bd.fold _ 0 0 (fun q hq => hb q (List.mem_of_mem_take hq)) Bd.zero).mono ?_)
    rw [List.length_take, Nat.zero_add]
    have : min i (((List.range R.m).filter fun i => apartN c (R.at i).one (R.at i).other).map fun i => (R.at i).size).length ≤ 8 := by omega
    calc _ ≤ 8 * 2 ^ 41 := Nat.mul_le_mul_right _ this
      _ = 2 ^ 44 := by decide
  · rw [fold_range]
    rfl
theorem sc_rooms_of : FnScope ["ring", "cut"] ["ring", "cut"] (defScope s_rooms_of) := ⟨rfl, rfl, rfl, by decide +kernel, rfl, by decide +kernel, by decide +kernel⟩
theorem has_rooms_of (T : Tx K mg) (h_plus : Has P w K mg base 3 "plus" 2 P_plus) : Has P w K mg base 4 "rooms_of" 2 P_rooms_of := by
  refine has_mk (N := ["ring", "cut"]) (ps := ["ring", "cut"]) (k := 3) T.d_rooms_of sc_rooms_of (fun _ _ _ _ _ _ us hl => match us, hl with | [_, _], _ => rfl) (fun ds r hp => ?_) (fun f cdv A outer s H E hr => ⟨_, (pss_one (ps_ret (pe_hasK h_plus (hr.mono (by decide)) (by rfl) (pa_cons (pe_ix (ixK K) (pe_ix (ixK K) (pv 0) pe_int (fun _ _ => rfl)) (pe_ix (ixK K) (pv 1) pe_int (fun _ _ => rfl)) (fun _ _ => rfl)) (pa_cons (pe_ix (ixK K) (pe_ix (ixK K) (pv 0) pe_int (fun _ _ => rfl)) (pe_ix (ixK K) (pv 1) pe_int (fun _ _ => rfl)) (fun _ _ => rfl)) pa_nil))))), ?_⟩)
  · rcases hp with ⟨_, _, rfl, _⟩
    rfl
  rintro ds r ⟨R, c, rfl, ⟨D, g⟩, h1, h2, rfl⟩
  exact sg_ret (ed_plus (ed_room (ed_var rfl) (ed_ixT (ed_var rfl) ed_int rfl) h1) (ed_room (ed_var rfl) (ed_ixT (ed_var rfl) ed_int rfl) h2) (g.z (g.room _ h1)) (g.z (g.room _ h2))) rfl
theorem across_bd {R : Nw.Ring} {D : Nat} (g : Rg R D) (c : Nat × Nat) : Bd D (2 ^ 44) (Nw.across R c) := by
  refine (Bd.S R.m (M := 2 ^ 41) fun k hk => ?_).mono ?_
  · split
    · exact g.size k hk
    · exact Bd.zero
  · calc R.m * 2 ^ 41 ≤ 8 * 2 ^ 41 := Nat.mul_le_mul_right _ g.m8
      _ = 2 ^ 44 := by decide
theorem rooms_bd {R : Nw.Ring} {D : Nat} (g : Rg R D) {a b : Nat} (h1 : a < R.n) (h2 : b < R.n) : Bd D (2 ^ 42) (R.room a + R.room b) ∧ 0 < R.room a + R.room b := by
  have := g.ok.room a h1
  have := g.ok.room b h2
  exact ⟨((g.room a h1).add (g.room b h2)).mono (by decide), by grind⟩
theorem shown_z {R : Nw.Ring} {D : Nat} (g : Rg R D) {c : Nat × Nat} (h1 : c.1 < R.n) (h2 : c.2 < R.n) : Z (Nw.shown R c) := g.zdiv (across_bd g c) (rooms_bd g h1 h2).1 (rooms_bd g h1 h2).2
theorem sc_shown_by : FnScope ["ring", "cut"] ["ring", "cut"] (defScope s_shown_by) := ⟨rfl, rfl, rfl, by decide +kernel, rfl, by decide +kernel, by decide +kernel⟩
theorem has_shown_by (T : Tx K mg) (h_across : Has P w K mg base 5 "across" 2 P_across) (h_over : Has P w K mg base 3 "over" 2 P_over) (h_rooms_of : Has P w K mg base 4 "rooms_of" 2 P_rooms_of) : Has P w K mg base 6 "shown_by" 2 P_shown_by := by
  refine has_mk (N := ["ring", "cut"]) (ps := ["ring", "cut"]) (k := 5) T.d_shown_by sc_shown_by (fun _ _ _ _ _ _ us hl => match us, hl with | [_, _], _ => rfl) (fun ds r hp => ?_) (fun f cdv A outer s H E hr => ⟨_, (pss_one (ps_ret (pe_hasK h_over (hr.mono (by decide)) (by rfl) (pa_cons (pe_hasK h_across (hr.mono (by decide)) (by rfl) (pa_cons (pv 0) (pa_cons (pv 1) pa_nil))) (pa_cons (pe_hasK h_rooms_of (hr.mono (by decide)) (by rfl) (pa_cons (pv 0) (pa_cons (pv 1) pa_nil))) pa_nil))))), ?_⟩)
  · rcases hp with ⟨_, _, rfl, _⟩
    rfl
  rintro ds r ⟨R, c, rfl, ⟨D, g⟩, h1, h2, rfl⟩
  exact sg_ret (ed_over (eg_call (ea_cons (ed_var rfl) (ea_cons (ed_var rfl) ea_nil)) ⟨R, c, rfl, ⟨D, g⟩, rfl⟩) (eg_call (ea_cons (ed_var rfl) (ea_cons (ed_var rfl) ea_nil)) ⟨R, c, rfl, ⟨D, g⟩, h1, h2, rfl⟩) (g.z (across_bd g c)) (g.z (rooms_bd g h1 h2).1) (rooms_bd g h1 h2).2) rfl
def cutsTo (n g : Nat) : List (Nat × Nat) := (List.range g).flatMap (Nw.cutsFrom n)
theorem cutsTo_succ (n g : Nat) : cutsTo n (g + 1) = cutsTo n g ++ Nw.cutsFrom n g := by
  unfold cutsTo
  rw [List.range_succ, List.flatMap_append]
  simp
theorem cutsFrom_len (n g : Nat) : (Nw.cutsFrom n g).length = n - g := by
  unfold Nw.cutsFrom
  rw [List.length_map, List.length_range]
theorem cutsTo_len (n : Nat) : ∀ g, (cutsTo n g).length ≤ g * n
  | 0 => by simp [cutsTo]
  | g + 1 => by
    rw [cutsTo_succ, List.length_append, cutsFrom_len, Nat.succ_mul]
    have := cutsTo_len n g
    omega
theorem sc_all_cuts : FnScope ["ring", "found", "first", "last"] ["ring"] (defScope s_all_cuts) := ⟨rfl, rfl, rfl, by decide +kernel, rfl, by decide +kernel, by decide +kernel⟩
theorem has_all_cuts (T : Tx K mg) : Has P w K mg base 1 "all_cuts" 1 P_all_cuts := by
  refine has_mk (N := ["ring", "found", "first", "last"]) (ps := ["ring"]) (k := 0) T.d_all_cuts sc_all_cuts (fun _ _ _ _ _ _ us hl => match us, hl with | [_], _ => rfl) (fun ds r hp => ?_) (fun f cdv A outer s H E hr => ⟨_, (pss_cons (ps_set (i := 1) sc_all_cuts.nd rfl (Or.inl rfl) (pe_lst pa_nil))
  (pss_cons (ps_for PassesOwn.never rfl (pi_range1 rfl T.range (pa_cons (pe_callB (lenK K) (by rfl) T.len bb_len (pa_cons (pe_ix (ixK K) (pv 0) pe_int (fun _ _ => rfl)) pa_nil)) pa_nil)) (pg_name (i := 2) sc_all_cuts.nd rfl (Or.inr rfl))
  (pss_one (ps_set (i := 1) sc_all_cuts.nd rfl (Or.inl rfl) (pe_op op_cat (pv 1) (pe_lc (own := [("last", 3)]) (g := gName 3) rfl sc_all_cuts.nd (pi_range2 rfl T.range (pa_cons (pv 2) (pa_cons (pe_callB (lenK K) (by rfl) T.len bb_len (pa_cons (pe_ix (ixK K) (pv 0) pe_int (fun _ _ => rfl)) pa_nil)) pa_nil))) (blkOk_by (own := [("last", 3)]) (N := ["ring", "found", "first", "last"]) (sc := (defScope s_all_cuts)) (by decide +kernel)) (fun _ _ _ _ _ => pg_name (i := 3) sc_all_cuts.nd rfl (Or.inl rfl)) (fun _ _ _ _ _ => pts_nil) (fun _ _ _ _ _ => by exact (pe_tup (pa_cons (pv 2) (pa_cons (pv 3) pa_nil)))))))))
  (pss_one (ps_ret (pv 1))))), ?_⟩)
  · rcases hp with ⟨_, rfl, _⟩
    rfl
  rintro ds r ⟨R, rfl, hn, rfl⟩
  refine qo (own_lst ea_nil) ?_
  refine sg_seq (N' := fun Γ' => Γ' = [.dat (eRing R), .own ((cutsTo R.n R.n).map eC), .un, .un]) (sg_forR (fun i Γ' => Γ' = [.dat (eRing R), .own ((cutsTo R.n i).map eC), .un, .un]) (ea_cons (ed_n (ed_var rfl)) ea_nil) (by omega) ⟨_, .same (.same (.un (.un .nil))), rfl⟩ ?_ ?_) ?_
  · rintro i Γ' hi rfl
    refine sg_asgO (own_cat rfl (own_is (lc_R2 (lo := i) (hi := R.n) (n := R.n - i) (vs := [3]) (fun _ => true) (fun j => eC (i, i + j)) (fun i hi => by rw [List.mem_singleton.mp hi]; rfl) (by decide) (ea_cons (ed_var rfl) (ea_cons (ed_n (ed_var rfl)) ea_nil)) rfl ⟨by omega, by omega⟩ (fun _ _ => eb_yes) (fun j hj _ => ed_tup (ea_cons (ed_var rfl) (ea_cons (ed_var rfl) ea_nil)))) (d' := (Nw.cutsFrom R.n i).map eC) ?_) ?_) ⟨_, .same (.same (.un (.un .nil))), lq_refl ?_⟩
    · rw [told_all]
      unfold Nw.cutsFrom
      rw [List.map_map]
      rfl
    · rw [List.length_map, List.length_map, cutsFrom_len]
      have h1 := cutsTo_len R.n i
      have h2 : i * R.n ≤ 8 * 8 := Nat.mul_le_mul (by omega) hn
      omega
    · rw [cutsTo_succ, List.map_append]
  · rintro Γ' rfl
    exact lq_refl rfl
  · rintro Γ' rfl
    exact sg_retO rfl rfl
end
end NwB
end NwB1_
section NwB2_
set_option Elab.async false
set_option linter.all false
set_option maxRecDepth 100000
set_option maxHeartbeats 4000000
namespace NwB
open PySem PySem.Spec PyProof.Rows L2 NwT
open Evl (Ex)
section
variable {P : Program} {w : World} {J : Ji} {K : PySem.W.Frag} {mg : Str → Option Value} {base : Heap}
def bestD : Option (Rat × (Nat × Nat)) → PyData
  | none => .none
  | some b => .tuple [eQ b.1, eC b.2]
theorem cut_at {n i : Nat} {d : PyData} (h : ((Nw.allCuts n).map eC)[i]? = some d) : ∃ c, (Nw.allCuts n)[i]? = some c ∧ d = eC c ∧ c.1 ≤ c.2 ∧ c.2 < n := by
  obtain ⟨c, hc, e⟩ := map_at h
  obtain ⟨a, b⟩ := Nw.mem_allCuts.mp (List.mem_of_getElem? hc)
  exact ⟨c, hc, e, a, b⟩
def gBest (R : Nw.Ring) (i : Nat) : Option (Rat × (Nat × Nat)) := ((Nw.allCuts R.n).take i).foldl (Nw.betterCut R) none
theorem gBest_shown (R : Nw.Ring) (i : Nat) {b : Rat × (Nat × Nat)} (h : gBest R i = some b) : b.1 = Nw.shown R b.2 ∧ b.2.1 ≤ b.2.2 ∧ b.2.2 < R.n := by
  obtain ⟨h1, h2, _⟩ := (Nw.greatest_spec (R := R) ((Nw.allCuts R.n).take i) none (fun _ z => by cases z)).1 b h
  rcases h2 with h2 | h2
  · obtain ⟨a, c⟩ := Nw.mem_allCuts.mp (List.mem_of_mem_take h2)
    exact ⟨h1, a, c⟩
  · cases h2
theorem gBest_next (R : Nw.Ring) {i : Nat} {c : Nat × Nat} (h : (Nw.allCuts R.n)[i]? = some c) : gBest R (i + 1) = Nw.betterCut R (gBest R i) c := by
  unfold gBest
  rw [take_next h, List.foldl_append]
  rfl
theorem sc_greatest_cut : FnScope ["ring", "best", "cut", "shown"] ["ring"] (defScope s_greatest_cut) := ⟨rfl, rfl, rfl, by decide +kernel, rfl, by decide +kernel, by decide +kernel⟩
theorem has_greatest_cut (T : Tx K mg) (h_all_cuts : Has P w K mg base 1 "all_cuts" 1 P_all_cuts) (h_shown_by : Has P w K mg base 6 "shown_by" 2 P_shown_by) (h_under : Has P w K mg base 1 "under" 2 P_under) : Has P w K mg base 7 "greatest_cut" 1 P_greatest_cut := by
  refine has_mk (N := ["ring", "best", "cut", "shown"]) (ps := ["ring"]) (k := 6) T.d_greatest_cut sc_greatest_cut (fun _ _ _ _ _ _ us hl => match us, hl with | [_], _ => rfl) (fun ds r hp => ?_) (fun f cdv A outer s H E hr => ⟨_, (pss_cons (ps_set (i := 1) sc_greatest_cut.nd rfl (Or.inl rfl) pe_non)
  (pss_cons (ps_for PassesOwn.never rfl (pi_listK K (pe_hasK h_all_cuts (hr.mono (by decide)) (by rfl) (pa_cons (pv 0) pa_nil))) (pg_name (i := 2) sc_greatest_cut.nd rfl (Or.inl rfl))
  (pss_cons (ps_set (i := 3) sc_greatest_cut.nd rfl (Or.inl rfl) (pe_hasK h_shown_by (hr.mono (by decide)) (by rfl) (pa_cons (pv 0) (pa_cons (pv 2) pa_nil))))
  (pss_one (ps_if (PW.pt (pw_or (pt_cmp (pc_isN (pv 1)) rfl) (pw_or1 (pt_val (pe_hasK h_under (hr.mono (by decide)) (by rfl) (pa_cons (pe_ix (ixK K) (pv 1) pe_int (fun _ _ => rfl)) (pa_cons (pv 3) pa_nil))))))) (pss_one (ps_set (i := 1) sc_greatest_cut.nd rfl (Or.inl rfl) (pe_tup (pa_cons (pv 3) (pa_cons (pv 2) pa_nil))))) pss_nil))))
  (pss_one (ps_ret (pv 1))))), ?_⟩)
  · rcases hp with ⟨_, rfl, _⟩
    rfl
  rintro ds r ⟨R, rfl, ⟨D, g⟩, rfl⟩
  refine qd ed_non ?_
  refine sg_seq (N' := fun Γ' => Γ' = [.dat (eRing R), .dat (bestD (Nw.greatestOf R (Nw.allCuts R.n))), .un, .un]) (sg_forL (fun i Γ' => Γ' = [.dat (eRing R), .dat (bestD (gBest R i)), .un, .un]) (ed_of_own (eg_call (ea_cons (ed_var rfl) ea_nil) ⟨R, rfl, g.n8, rfl⟩)) ⟨_, .same (.same (.un (.un .nil))), rfl⟩ ?_ ?_) ?_
  · rintro i d Γ' hd rfl
    obtain ⟨c, hc, rfl, c1, c2⟩ := cut_at hd
    refine qd (d := eQ (Nw.shown R c)) (eg_call (ea_cons (ed_var rfl) (ea_cons (ed_var rfl) ea_nil)) ⟨R, c, rfl, ⟨D, g⟩, by omega, c2, rfl⟩) ?_
    have nx := gBest_next R hc
    cases e : gBest R i with
    | none =>
      refine sg_if (eb_or (a := true) (b := false) (eb_B (ed_isN (x := .none) (ed_var rfl))) (fun z => by cases z)) (fun _ => ?_) fun z => by cases z
      refine sg_asg (ed_tup (ea_cons (ed_var rfl) (ea_cons (ed_var rfl) ea_nil))) ⟨_, .same (.same (.un (.un .nil))), lq_refl ?_⟩
      rw [nx, e]
      rfl
    | some b =>
      obtain ⟨b1, b2, b3⟩ := gBest_shown R i e
      have zb : Z b.1 := by rw [b1]; exact shown_z g (by omega) b3
      refine sg_if (eb_or (a := false) (b := decide (b.1 < Nw.shown R c)) (eb_B (ed_isN (x := .tuple [eQ b.1, eC b.2]) (ed_var rfl))) (fun _ => eb_B (ed_under (ed_ixT (ed_var rfl) ed_int rfl) (ed_var rfl) zb (shown_z g (by omega) c2)))) (fun h => ?_) fun h => ?_
      · refine sg_asg (ed_tup (ea_cons (ed_var rfl) (ea_cons (ed_var rfl) ea_nil))) ⟨_, .same (.same (.un (.un .nil))), lq_refl ?_⟩
        have h' : b.1 < Nw.shown R c := by simpa using h
        rw [nx, e]
        unfold Nw.betterCut
        simp only [if_pos h']
        rfl
      · refine sg_next ⟨_, .same (.same (.un (.un .nil))), lq_refl ?_⟩
        have h' : ¬ b.1 < Nw.shown R c := by simpa using h
        rw [nx, e]
        unfold Nw.betterCut
        simp only [if_neg h']
  · rintro Γ' rfl
    refine lq_refl ?_
    rw [List.length_map]
    unfold gBest Nw.greatestOf
    rw [List.take_length]
  · rintro Γ' rfl
    refine sg_ret (ed_var rfl) ?_
    rw [Nw.gcut_some (by have := g.ok.two; omega)]
    rfl
theorem sc_other_way : FnScope ["way"] ["way"] (defScope s_other_way) := ⟨rfl, rfl, rfl, by decide +kernel, rfl, by decide +kernel, by decide +kernel⟩
theorem has_other_way (T : Tx K mg) : Has P w K mg base 1 "other_way" 1 P_other_way := by
  refine has_mk (N := ["way"]) (ps := ["way"]) (k := 0) T.d_other_way sc_other_way (fun _ _ _ _ _ _ us hl => match us, hl with | [_], _ => rfl) (fun ds r hp => ?_) (fun f cdv A outer s H E hr => ⟨_, (pss_one (ps_ret (pe_ifExp (pt_cmpR (eqK K hr.units) (pv 0) (pe_gstr (by rfl) T.g_ON) (nomark _)) (pe_gstr (by rfl) T.g_BACK) (pe_gstr (by rfl) T.g_ON)))), ?_⟩)
  · rcases hp with ⟨_, rfl, _⟩
    rfl
  rintro ds r ⟨b, rfl, rfl⟩
  refine sg_ret (ed_if (b := b) (eb_is (eb_test (ed_eqS (i := wS b) (j := "on") (ed_var rfl) ed_str)) (by cases b <;> decide)) (fun h => ?_) fun h => ?_) rfl
  · subst h
    exact ed_str
  · subst h
    exact ed_str
theorem fmod_pos {x : Int} {n : Nat} {y : Nat} (hn : 0 < n) (h : x % (n : Int) = (y : Int)) : x % (n : Int) = ((y : Nat) : Int) := h
theorem sub_mod {n a b : Nat} (hn : 0 < n) (ha : a < n) (hb : b < n) : ((a : Int) - (b : Int)) % (n : Int) = (((a + n - b) % n : Nat) : Int) := by
  have e : ((a + n - b : Nat) : Int) = ((a : Int) - (b : Int)) + (n : Int) := by omega
  rw [Int.natCast_emod, e, Int.add_emod_right]
theorem way_on (b : Bool) : decide (wS b = "on") = b := by cases b <;> decide
theorem sc_ties_of : FnScope ["ring", "k", "way", "name", "one", "other", "size", "many", "step"] ["ring", "k", "way"] (defScope s_ties_of) := ⟨rfl, rfl, rfl, by decide +kernel, rfl, by decide +kernel, by decide +kernel⟩
theorem has_ties_of (T : Tx K mg) : Has P w K mg base 1 "ties_of" 3 P_ties_of := by
  refine has_mk (N := ["ring", "k", "way", "name", "one", "other", "size", "many", "step"]) (ps := ["ring", "k", "way"]) (k := 0) T.d_ties_of sc_ties_of (fun _ _ _ _ _ _ us hl => match us, hl with | [_, _, _], _ => rfl) (fun ds r hp => ?_) (fun f cdv A outer s H E hr => ⟨_, (pss_cons (ps_asg (pe_ix (ixK K) (pe_ix (ixK K) (pv 0) pe_int (fun _ _ => rfl)) (pv 1) (fun _ _ => rfl)) (pg_tupK K rfl (pgs_cons (pg_name (i := 3) sc_ties_of.nd rfl (Or.inl rfl)) (pgs_cons (pg_name (i := 4) sc_ties_of.nd rfl (Or.inr rfl)) (pgs_cons (pg_name (i := 5) sc_ties_of.nd rfl (Or.inl rfl)) (pgs_cons (pg_name (i := 6) sc_ties_of.nd rfl (Or.inl rfl)) pgs_nil))))))
  (pss_cons (ps_set (i := 7) sc_ties_of.nd rfl (Or.inr rfl) (pe_callB (lenK K) (by rfl) T.len bb_len (pa_cons (pe_ix (ixK K) (pv 0) pe_int (fun _ _ => rfl)) pa_nil)))
  (pss_cons (ps_if (pt_cmpR (eqK K hr.units) (pv 2) (pe_gstr (by rfl) T.g_ON) (nomark _)) (pss_one (ps_ret (pe_lc (own := [("step", 8)]) (g := gName 8) rfl sc_ties_of.nd (pi_range1 rfl T.range (pa_cons (pe_op op_mod (pe_op op_sub (pv 5) (pv 4)) (pv 7)) pa_nil)) (blkOk_by (own := [("step", 8)]) (N := ["ring", "k", "way", "name", "one", "other", "size", "many", "step"]) (sc := (defScope s_ties_of)) (by decide +kernel)) (fun _ _ _ _ _ => pg_name (i := 8) sc_ties_of.nd rfl (Or.inl rfl)) (fun _ _ _ _ _ => pts_nil) (fun _ _ _ _ _ => by exact (pe_op op_mod (pe_op op_add (pv 4) (pv 8)) (pv 7)))))) pss_nil)
  (pss_one (ps_ret (pe_lc (own := [("step", 8)]) (g := gName 8) rfl sc_ties_of.nd (pi_range1 rfl T.range (pa_cons (pe_op op_mod (pe_op op_sub (pv 4) (pv 5)) (pv 7)) pa_nil)) (blkOk_by (own := [("step", 8)]) (N := ["ring", "k", "way", "name", "one", "other", "size", "many", "step"]) (sc := (defScope s_ties_of)) (by decide +kernel)) (fun _ _ _ _ _ => pg_name (i := 8) sc_ties_of.nd rfl (Or.inl rfl)) (fun _ _ _ _ _ => pts_nil) (fun _ _ _ _ _ => by exact (pe_op op_mod (pe_op op_sub (pe_op op_sub (pv 4) pe_int) (pv 8)) (pv 7))))))))), ?_⟩)
  · rcases hp with ⟨_, _, _, rfl, _⟩
    rfl
  rintro ds r ⟨R, k, b, rfl, hk, ok, hn, rfl⟩
  obtain ⟨o1, o2, o3, _⟩ := ok.ask k hk
  have n0 : 0 < R.n := by omega
  refine qu (is := [3, 4, 5, 6]) (ds := [.str ⟨(R.at k).name⟩, .int ((R.at k).one : Nat), .int ((R.at k).other : Nat), eQ (R.at k).size]) (.cons (.cons (.cons (.cons .nil)))) (ed_ask (ed_var rfl) (ed_var rfl) hk) ?_
  refine qd (d := eN R.n) (ed_n (ed_var rfl)) ?_
  refine q2 (b := b) (eb_is (eb_test (ed_eqS (i := wS b) (j := "on") (ed_var rfl) ed_str)) (way_on b)) (fun h => ?_) fun h => ?_
  · subst h
    refine sg_ret (own_is (lc_R (vs := [8]) (n := ((R.at k).other + R.n - (R.at k).one) % R.n) (fun _ => true) (fun i => eN (((R.at k).one + i) % R.n)) (fun i hi => by rw [List.mem_singleton.mp hi]; rfl) (by decide) (ea_cons (ed_is (ed_opC (i := ((R.at k).other : Int) - ((R.at k).one : Int)) (j := (R.n : Nat)) (ed_opI (ed_var rfl) (ed_var rfl)) (ed_var rfl) (by show (0 : Int) < (R.n : Nat); omega)) (congrArg PyData.int (sub_mod n0 o2 o1))) ea_nil) (by have := Nat.mod_lt ((R.at k).other + R.n - (R.at k).one) n0; omega) (fun _ _ => eb_yes) (fun i hi _ => ed_is (ed_opC (ed_opI (ed_var rfl) (ed_var rfl)) (ed_var rfl) (by show (0 : Int) < (R.n : Nat); omega)) (congrArg PyData.int ?_))) (d' := (Nw.tiesOf R.n (R.at k) true).map eN) ?_) rfl
    · rw [Int.natCast_emod, Int.natCast_add]
    · rw [told_all]
      show _ = (Nw.tiesOn R.n (R.at k)).map eN
      unfold Nw.tiesOn
      rw [List.map_map]
      rfl
  · subst h
    refine sg_ret (own_is (lc_R (vs := [8]) (n := ((R.at k).one + R.n - (R.at k).other) % R.n) (fun _ => true) (fun i => eN (((R.at k).one + R.n - 1 - i) % R.n)) (fun i hi => by rw [List.mem_singleton.mp hi]; rfl) (by decide) (ea_cons (ed_is (ed_opC (i := ((R.at k).one : Int) - ((R.at k).other : Int)) (j := (R.n : Nat)) (ed_opI (ed_var rfl) (ed_var rfl)) (ed_var rfl) (by show (0 : Int) < (R.n : Nat); omega)) (congrArg PyData.int (sub_mod n0 o1 o2))) ea_nil) (by have := Nat.mod_lt ((R.at k).one + R.n - (R.at k).other) n0; omega) (fun _ _ => eb_yes) (fun i hi _ => ed_is (ed_opC (ed_opI (ed_opI (ed_var rfl) ed_int) (ed_var rfl)) (ed_var rfl) (by show (0 : Int) < (R.n : Nat); omega)) (congrArg PyData.int ?_))) (d' := (Nw.tiesOf R.n (R.at k) false).map eN) ?_) rfl
    · have hi2 : i < R.n := by have := Nat.mod_lt ((R.at k).one + R.n - (R.at k).other) n0; omega
      have e : (((R.at k).one + R.n - 1 - i : Nat) : Int) = ((R.at k).one : Int) - 1 - (i : Int) + (R.n : Int) := by omega
      rw [Int.natCast_emod, e, Int.add_emod_right]
    · rw [told_all]
      show _ = (Nw.tiesBack R.n (R.at k)).map eN
      unfold Nw.tiesBack
      rw [List.map_map]
      rfl
theorem sc_is_over : FnScope ["ring", "k", "way", "tie", "name", "one", "other", "size", "many", "goes_on"] ["ring", "k", "way", "tie"] (defScope s_is_over) := ⟨rfl, rfl, rfl, by decide +kernel, rfl, by decide +kernel, by decide +kernel⟩
theorem has_is_over (T : Tx K mg) : Has P w K mg base 1 "is_over" 4 P_is_over := by
  refine has_mk (N := ["ring", "k", "way", "tie", "name", "one", "other", "size", "many", "goes_on"]) (ps := ["ring", "k", "way", "tie"]) (k := 0) T.d_is_over sc_is_over (fun _ _ _ _ _ _ us hl => match us, hl with | [_, _, _, _], _ => rfl) (fun ds r hp => ?_) (fun f cdv A outer s H E hr => ⟨_, (pss_cons (ps_asg (pe_ix (ixK K) (pe_ix (ixK K) (pv 0) pe_int (fun _ _ => rfl)) (pv 1) (fun _ _ => rfl)) (pg_tupK K rfl (pgs_cons (pg_name (i := 4) sc_is_over.nd rfl (Or.inl rfl)) (pgs_cons (pg_name (i := 5) sc_is_over.nd rfl (Or.inl rfl)) (pgs_cons (pg_name (i := 6) sc_is_over.nd rfl (Or.inl rfl)) (pgs_cons (pg_name (i := 7) sc_is_over.nd rfl (Or.inl rfl)) pgs_nil))))))
  (pss_cons (ps_set (i := 8) sc_is_over.nd rfl (Or.inl rfl) (pe_callB (lenK K) (by rfl) T.len bb_len (pa_cons (pe_ix (ixK K) (pv 0) pe_int (fun _ _ => rfl)) pa_nil)))
  (pss_cons (ps_set (i := 9) sc_is_over.nd rfl (Or.inl rfl) (pe_cmpR op_lt (pe_op op_mod (pe_op op_sub (pv 3) (pv 5)) (pv 8)) (pe_op op_mod (pe_op op_sub (pv 6) (pv 5)) (pv 8)) (nomark _)))
  (pss_one (ps_ret (pe_cmpR (eqK K hr.units) (pv 9) (pe_cmpR (eqK K hr.units) (pv 2) (pe_gstr (by rfl) T.g_ON) (nomark _)) (nomark _))))))), ?_⟩)
  · rcases hp with ⟨_, _, _, rfl, _⟩
    rfl
  rintro ds r ⟨R, k, i, rfl, hk, hi, ok, rfl⟩
  obtain ⟨o1, o2, o3, _⟩ := ok.ask k hk
  have n0 : 0 < R.n := by omega
  refine qu (is := [4, 5, 6, 7]) (ds := [.str ⟨(R.at k).name⟩, .int ((R.at k).one : Nat), .int ((R.at k).other : Nat), eQ (R.at k).size]) (.cons (.cons (.cons (.cons .nil)))) (ed_ask (ed_var rfl) (ed_var rfl) hk) ?_
  refine qd (d := eN R.n) (ed_n (ed_var rfl)) ?_
  refine qd (d := .bool (Nw.on R.n (R.at k) i)) (ed_is (ed_opB (ed_opC (i := (i : Int) - ((R.at k).one : Int)) (j := (R.n : Nat)) (ed_opI (ed_var rfl) (ed_var rfl)) (ed_var rfl) (by show (0 : Int) < (R.n : Nat); omega)) (ed_opC (i := ((R.at k).other : Int) - ((R.at k).one : Int)) (j := (R.n : Nat)) (ed_opI (ed_var rfl) (ed_var rfl)) (ed_var rfl) (by show (0 : Int) < (R.n : Nat); omega))) ?_) ?_
  · rw [sub_mod n0 hi o1, sub_mod n0 o2 o1]
    unfold Nw.on
    exact congrArg PyData.bool (decide_eq_decide.mpr (by omega))
  · refine sg_ret (ed_eqB (j := true) (ed_var rfl) (ed_is (ed_eqS (i := wS true) (j := "on") (ed_var rfl) ed_str) (by rw [way_on]))) ?_
    exact congrArg (fun b => Rs.dat (.bool b)) (by cases Nw.on R.n (R.at k) i <;> rfl)
theorem sc_do_cross : FnScope ["ring", "k", "l", "name", "one", "other", "size", "places", "low", "high", "place"] ["ring", "k", "l"] (defScope s_do_cross) := ⟨rfl, rfl, rfl, by decide +kernel, rfl, by decide +kernel, by decide +kernel⟩
theorem has_do_cross (T : Tx K mg) : Has P w K mg base 1 "do_cross" 3 P_do_cross := by
  refine has_mk (N := ["ring", "k", "l", "name", "one", "other", "size", "places", "low", "high", "place"]) (ps := ["ring", "k", "l"]) (k := 0) T.d_do_cross sc_do_cross (fun _ _ _ _ _ _ us hl => match us, hl with | [_, _, _], _ => rfl) (fun ds r hp => ?_) (fun f cdv A outer s H E hr => ⟨_, (pss_cons (ps_asg (pe_ix (ixK K) (pe_ix (ixK K) (pv 0) pe_int (fun _ _ => rfl)) (pv 1) (fun _ _ => rfl)) (pg_tupK K rfl (pgs_cons (pg_name (i := 3) sc_do_cross.nd rfl (Or.inl rfl)) (pgs_cons (pg_name (i := 4) sc_do_cross.nd rfl (Or.inl rfl)) (pgs_cons (pg_name (i := 5) sc_do_cross.nd rfl (Or.inl rfl)) (pgs_cons (pg_name (i := 6) sc_do_cross.nd rfl (Or.inl rfl)) pgs_nil))))))
  (pss_cons (ps_set (i := 7) sc_do_cross.nd rfl (Or.inl rfl) (pe_slice (slTK K) (pe_ix (ixK K) (pe_ix (ixK K) (pv 0) pe_int (fun _ _ => rfl)) (pv 2) (fun _ _ => rfl)) (po_some pe_int) (po_some pe_int)))
  (pss_cons (ps_if (PW.pt (pw_or (pt_cmpR (inK K) (pv 4) (pv 7) (by rfl)) (pw_or1 (pt_cmpR (inK K) (pv 5) (pv 7) (by rfl))))) (pss_one (ps_ret pe_bl)) pss_nil)
  (pss_cons (ps_set (i := 8) sc_do_cross.nd rfl (Or.inr rfl) (pe_callB (call_min2 rfl) (by rfl) T.min bb_min (pa_cons (pv 4) (pa_cons (pv 5) pa_nil))))
  (pss_cons (ps_set (i := 9) sc_do_cross.nd rfl (Or.inr rfl) (pe_callB (call_max2 rfl) (by rfl) T.max bb_max (pa_cons (pv 4) (pa_cons (pv 5) pa_nil))))
  (pss_one (ps_ret (pe_cmpR (eqK K hr.units) (pe_callB (lenK K) (by rfl) T.len bb_len (pa_cons (pe_lc (own := [("place", 10)]) (g := gName 10) rfl sc_do_cross.nd (pi_tupK K (pv 7)) (blkOk_by (own := [("place", 10)]) (N := ["ring", "k", "l", "name", "one", "other", "size", "places", "low", "high", "place"]) (sc := (defScope s_do_cross)) (by decide +kernel)) (fun _ _ _ _ _ => pg_name (i := 10) sc_do_cross.nd rfl (Or.inl rfl)) (fun _ _ _ _ _ => by exact (pts_one (pt_chain op_lt op_lt (pv 8) (pv 10) (pv 9)))) (fun _ _ _ _ _ => by exact (pv 10))) pa_nil)) pe_int (nomark _))))))))), ?_⟩)
  · rcases hp with ⟨_, _, _, rfl, _⟩
    rfl
  rintro ds r ⟨R, k, l, rfl, hk, hl, rfl⟩
  refine qu (is := [3, 4, 5, 6]) (ds := [.str ⟨(R.at k).name⟩, .int ((R.at k).one : Nat), .int ((R.at k).other : Nat), eQ (R.at k).size]) (.cons (.cons (.cons (.cons .nil)))) (ed_ask (ed_var rfl) (ed_var rfl) hk) ?_
  refine qd (d := .tuple [eN (R.at l).one, eN (R.at l).other]) (ed_sliceT (lo := some 1) (hi := some 3) (ed_ask (ed_var rfl) (ed_var rfl) hl) (eo_some ed_int) (eo_some ed_int) (by rintro ⟨z, _⟩; exact absurd (show (1 : Nat) = 0 from z) (by decide))) ?_
  have mem : ∀ {te : TE} {Γ : List Sl} {x : Nat} {ta : TE}, ED J0 K Γ ta (eN x) → ED J0 K Γ te (.tuple [eN (R.at l).one, eN (R.at l).other]) → ED J0 K Γ (tOp (rIn K false) ta te) (.bool (decide (x = (R.at l).one ∨ x = (R.at l).other))) := fun {te Γ x ta} h1 h2 => ed_is (ed_inT (ns := [((R.at l).one : Int), ((R.at l).other : Int)]) h1 h2) (congrArg PyData.bool (decide_eq_decide.mpr (by simp only [List.mem_cons, List.not_mem_nil, or_false]; omega)))
  refine q2 (b := decide ((R.at k).one = (R.at l).one ∨ (R.at k).one = (R.at l).other) || decide ((R.at k).other = (R.at l).one ∨ (R.at k).other = (R.at l).other)) (eb_or (eb_test (mem (ed_var rfl) (ed_var rfl))) fun _ => eb_test (mem (ed_var rfl) (ed_var rfl))) (fun h => ?_) fun h => ?_
  · refine sg_ret ed_bl ?_
    have h' : ((R.at k).one = (R.at l).one ∨ (R.at k).one = (R.at l).other) ∨ (R.at k).other = (R.at l).one ∨ (R.at k).other = (R.at l).other := by simpa using h
    unfold Nw.cross
    rw [if_pos (by omega)]
  · refine qd (d := eN (min (R.at k).one (R.at k).other)) (ed_is (ed_min2 (ed_var rfl) (ed_var rfl)) (by show PyData.int _ = PyData.int _; congr 1; omega)) ?_
    refine qd (d := eN (max (R.at k).one (R.at k).other)) (ed_is (ed_max2 (ed_var rfl) (ed_var rfl)) (by show PyData.int _ = PyData.int _; congr 1; omega)) ?_
    have hc : ((R.at k).one ≠ (R.at l).one ∧ (R.at k).one ≠ (R.at l).other) ∧ (R.at k).other ≠ (R.at l).one ∧ (R.at k).other ≠ (R.at l).other := by simpa using h
    refine sg_ret (ed_is (ed_eqI (j := 1) (ed_lenL (el_dat (ed_of_own (lc_T (vs := [10]) (ds := [eN (R.at l).one, eN (R.at l).other]) (fun i => decide (min (R.at k).one (R.at k).other < [(R.at l).one, (R.at l).other].getD i 0) && decide ([(R.at l).one, (R.at l).other].getD i 0 < max (R.at k).one (R.at k).other)) (fun i => eN ([(R.at l).one, (R.at l).other].getD i 0)) (fun i hi => by rw [List.mem_singleton.mp hi]; rfl) (by decide) (ed_var rfl) (by show 2 ≤ 40000; omega) ?_ ?_)))) ed_int) ?_) rfl
    · intro i d hd
      obtain ⟨x, e1, e2⟩ : ∃ x : Nat, d = eN x ∧ [(R.at l).one, (R.at l).other].getD i 0 = x := by
        match i, hd with
        | 0, hd => cases hd; exact ⟨_, rfl, rfl⟩
        | 1, hd => cases hd; exact ⟨_, rfl, rfl⟩
      subst e1
      rw [e2]
      exact eb_is (eb_test (ed_chain (ed_var rfl) (ed_var rfl) fun _ => ed_var rfl)) (congr (congrArg and (decide_eq_decide.mpr (by omega))) (decide_eq_decide.mpr (by omega)))
    · intro i d hd _
      match i, hd with
      | 0, hd => cases hd; exact ed_var rfl
      | 1, hd => cases hd; exact ed_var rfl
    · unfold Nw.cross
      rw [if_neg (by omega)]
      refine congrArg PyData.bool (decide_eq_decide.mpr ?_)
      unfold told
      rw [List.length_map]
      show (((List.filter _ [0, 1]).length : Nat) : Int) = 1 ↔ _
      rw [List.filter_cons, List.filter_cons, List.filter_nil, List.filter_cons, List.filter_cons, List.filter_nil]
      show _ ↔ _
      by_cases c1 : min (R.at k).one (R.at k).other < (R.at l).one <;> by_cases c2 : (R.at l).one < max (R.at k).one (R.at k).other <;> by_cases c3 : min (R.at k).one (R.at k).other < (R.at l).other <;> by_cases c4 : (R.at l).other < max (R.at k).one (R.at k).other <;> simp [c1, c2, c3, c4]
theorem sc_is_parted : FnScope ["ring", "sending", "k"] ["ring", "sending", "k"] (defScope s_is_parted) := ⟨rfl, rfl, rfl, by decide +kernel, rfl, by decide +kernel, by decide +kernel⟩
theorem has_is_parted (T : Tx K mg) (h_under : Has P w K mg base 1 "under" 2 P_under) : Has P w K mg base 2 "is_parted" 3 P_is_parted := by
  refine has_mk (N := ["ring", "sending", "k"]) (ps := ["ring", "sending", "k"]) (k := 1) T.d_is_parted sc_is_parted (fun _ _ _ _ _ _ us hl => match us, hl with | [_, _, _], _ => rfl) (fun ds r hp => ?_) (fun f cdv A outer s H E hr => ⟨_, (pss_one (ps_ret (pe_and (pe_hasK h_under (hr.mono (by decide)) (by rfl) (pa_cons (pe_glob (v := .ref 80) (by rfl) T.g_NOUGHT rfl) (pa_cons (pe_ix (ixK K) (pv 1) (pv 2) (fun _ _ => rfl)) pa_nil))) (pe_one (pe_hasK h_under (hr.mono (by decide)) (by rfl) (pa_cons (pe_ix (ixK K) (pv 1) (pv 2) (fun _ _ => rfl)) (pa_cons (pe_ix (ixK K) (pe_ix (ixK K) (pe_ix (ixK K) (pv 0) pe_int (fun _ _ => rfl)) (pv 2) (fun _ _ => rfl)) pe_int (fun _ _ => rfl)) pa_nil))))))), ?_⟩)
  · rcases hp with ⟨_, _, _, rfl, _⟩
    rfl
  rintro ds r ⟨R, s, k, rfl, ⟨D, g, ws⟩, hk, rfl⟩
  have hk' : k < s.length := by rw [ws.ok.len]; exact hk
  refine sg_ret (ed_andV (ed_under (ed_nought T) (ed_pt (ed_var rfl) (ed_var rfl) hk') Z.zero (g.z (ws.bd g hk))) fun _ => ed_under (ed_pt (ed_var rfl) (ed_var rfl) hk') (ed_size (ed_var rfl) (ed_var rfl) hk) (g.z (ws.bd g hk)) (g.z (g.size k hk))) rfl
theorem sc_parted_in : FnScope ["ring", "sending", "k"] ["ring", "sending"] (defScope s_parted_in) := ⟨rfl, rfl, rfl, by decide +kernel, rfl, by decide +kernel, by decide +kernel⟩
theorem has_parted_in (T : Tx K mg) (h_is_parted : Has P w K mg base 2 "is_parted" 3 P_is_parted) : Has P w K mg base 3 "parted_in" 2 P_parted_in := by
  refine has_mk (N := ["ring", "sending", "k"]) (ps := ["ring", "sending"]) (k := 2) T.d_parted_in sc_parted_in (fun _ _ _ _ _ _ us hl => match us, hl with | [_, _], _ => rfl) (fun ds r hp => ?_) (fun f cdv A outer s H E hr => ⟨_, (pss_one (ps_ret (pe_lc (own := [("k", 2)]) (g := gName 2) rfl sc_parted_in.nd (pi_range1 rfl T.range (pa_cons (pe_callB (lenK K) (by rfl) T.len bb_len (pa_cons (pe_ix (ixK K) (pv 0) pe_int (fun _ _ => rfl)) pa_nil)) pa_nil)) (blkOk_by (own := [("k", 2)]) (N := ["ring", "sending", "k"]) (sc := (defScope s_parted_in)) (by decide +kernel)) (fun _ _ _ _ _ => pg_name (i := 2) sc_parted_in.nd rfl (Or.inl rfl)) (fun _ _ _ _ _ => by exact (pts_one (pt_val (pe_hasK h_is_parted (hr.mono (by decide)) (by rfl) (pa_cons (pv 0) (pa_cons (pv 1) (pa_cons (pv 2) pa_nil))))))) (fun _ _ _ _ _ => by exact (pv 2))))), ?_⟩)
  · rcases hp with ⟨_, _, rfl, _⟩
    rfl
  rintro ds r ⟨R, s, rfl, ⟨D, g, ws⟩, rfl⟩
  refine sg_ret (own_is (lc_R (vs := [2]) (n := R.m) (fun k => Nw.parted R s k) eN (fun i hi => by rw [List.mem_singleton.mp hi]; rfl) (by decide) (ea_cons (ed_m (ed_var rfl)) ea_nil) (by have := g.m8; omega) (fun k hk => eb_B (eg_call (ea_cons (ed_var rfl) (ea_cons (ed_var rfl) (ea_cons (ed_var rfl) ea_nil))) ⟨R, s, k, rfl, ⟨D, g, ws⟩, hk, rfl⟩)) (fun k hk _ => ed_var rfl)) (d' := (Nw.partedL R s).map eN) rfl) rfl
theorem sc_all_cross : FnScope ["ring", "some", "k", "l"] ["ring", "some"] (defScope s_all_cross) := ⟨rfl, rfl, rfl, by decide +kernel, rfl, by decide +kernel, by decide +kernel⟩
theorem has_all_cross (T : Tx K mg) (h_do_cross : Has P w K mg base 1 "do_cross" 3 P_do_cross) : Has P w K mg base 2 "all_cross" 2 P_all_cross := by
  refine has_mk (N := ["ring", "some", "k", "l"]) (ps := ["ring", "some"]) (k := 1) T.d_all_cross sc_all_cross (fun _ _ _ _ _ _ us hl => match us, hl with | [_, _], _ => rfl) (fun ds r hp => ?_) (fun f cdv A outer s H E hr => ⟨_, (pss_cons (ps_for PassesOwn.never rfl (pi_listK K (pv 1)) (pg_name (i := 2) sc_all_cross.nd rfl (Or.inl rfl))
  (pss_one (ps_for PassesOwn.never rfl (pi_listK K (pv 1)) (pg_name (i := 3) sc_all_cross.nd rfl (Or.inl rfl))
  (pss_one (ps_if (PW.pt (pw_and (pt_cmpR op_lt (pv 2) (pv 3) (nomark _)) (pw_and1 (pt_not (pt_val (pe_hasK h_do_cross (hr.mono (by decide)) (by rfl) (pa_cons (pv 0) (pa_cons (pv 2) (pa_cons (pv 3) pa_nil))))))))) (pss_one (ps_ret pe_bl)) pss_nil)))))
  (pss_one (ps_ret pe_bl))), ?_⟩)
  · rcases hp with ⟨_, _, rfl, _⟩
    rfl
  rintro ds r ⟨R, l, rfl, hm, hc, rfl⟩
  refine sg_seq (N' := fun Γ' => Γ' = [.dat (eRing R), .dat (eNs l), .un, .un]) (sg_forL (fun i Γ' => Γ' = [.dat (eRing R), .dat (eNs l), .un, .un]) (ed_var rfl) ⟨_, .same (.same (.un (.un .nil))), rfl⟩ ?_ fun Γ' e => lq_refl e) ?_
  · rintro i d Γ' hd rfl
    obtain ⟨x, hx, rfl⟩ := map_at hd
    have hx := List.mem_of_getElem? hx
    refine sg_forL (fun j Γ' => Γ' = [.dat (eRing R), .dat (eNs l), .dat (eN x), .un]) (ed_var rfl) ⟨_, .same (.same (.same (.un .nil))), rfl⟩ ?_ fun Γ' e => ?_
    · rintro j d Γ' hd rfl
      obtain ⟨y, hy, rfl⟩ := map_at hd
      have hy := List.mem_of_getElem? hy
      refine sg_if (b := false) (eb_is (eb_and (eb_test (ed_opB (ed_var rfl) (ed_var rfl))) fun h => eb_not (b := true) (eb_B (ed_is (eg_call (ea_cons (ed_var rfl) (ea_cons (ed_var rfl) (ea_cons (ed_var rfl) ea_nil))) ⟨R, x, y, rfl, hm x hx, hm y hy, rfl⟩) ?_))) (Bool.and_false _)) (fun z => by cases z) fun _ => sg_next ⟨_, .same (.same (.same (.un .nil))), lq_refl rfl⟩
      rw [hc x hx y hy (by have := of_decide_eq_true h; omega)]
    · subst e
      exact ⟨_, .same (.same (.un (.un .nil))), lq_refl rfl⟩
  · rintro Γ' rfl
    exact sg_ret ed_bl rfl
end
end NwB
end NwB2_
section NwB3_
set_option Elab.async false
set_option linter.all false
set_option maxRecDepth 100000
set_option maxHeartbeats 4000000
namespace NwB
open PySem PySem.Spec PyProof.Rows L2 NwT
open Evl (Ex)
def P_loads_of : Pd := fun ds r => ∃ (R : Nw.Ring) (s : List Rat), ds = [eRing R, eS s] ∧ (∃ D, Rg R D ∧ Ws R D s) ∧ r = .own ((List.range R.n).map fun i => eQ (Nw.load R s i))
def P_strains_of : Pd := fun ds r => ∃ (R : Nw.Ring) (s : List Rat), ds = [eRing R, eS s] ∧ (∃ D, Rg R D ∧ Ws R D s) ∧ r = .own ((List.range R.n).map fun i => eQ (Nw.strain R s i))
def P_top_of : Pd := fun ds r => ∃ (R : Nw.Ring) (s : List Rat), ds = [eRing R, eS s] ∧ (∃ D, Rg R D ∧ Ws R D s) ∧ r = .dat (.tuple [eQ (Nw.topOf R s).1, eN (Nw.topOf R s).2])
def P_cut_above : Pd := fun ds r => ∃ (R : Nw.Ring) (top : Rat), ds = [eRing R, eQ top] ∧ (∃ D, Rg R D) ∧ Z top ∧ (∀ c : Nat × Nat, c.1 ≤ c.2 → c.2 < R.n → Nw.shown R c ≤ top) ∧ r = .dat .none
def P_first_broken : Pd := fun ds r => ∃ (R : Nw.Ring) (s : List Rat), ds = [eRing R, eS s, .none] ∧ (∃ D, Rg R D ∧ Ws R D s) ∧ r = .dat .none
def P_are_ways : Pd := fun ds r => ∃ (R : Nw.Ring) (ws : List Bool), ds = [eRing R, eWs ws] ∧ ws.length = R.m ∧ R.m ≤ 8 ∧ r = .dat (.bool true)
def P_sent_by : Pd := fun ds r => ∃ (R : Nw.Ring) (ws : List Bool), ds = [eRing R, eWs ws] ∧ ws.length = R.m ∧ R.m ≤ 8 ∧ r = .own ((Nw.sent R ws).map eQ)
def P_is_number : Pd := fun ds r => ∃ (k m : Nat), ds = [eN k, eN m] ∧ k < m ∧ r = .dat (.bool true)
def P_is_way : Pd := fun ds r => ∃ (b : Bool), ds = [eW b] ∧ r = .dat (.bool true)
section
variable {P : Program} {w : World} {J : Ji} {K : PySem.W.Frag} {mg : Str → Option Value} {base : Heap}
/-- the loads behind k asks, the first j ties of the next one's too -/
def ldAt (R : Nw.Ring) (s : List Rat) (k i : Nat) : Rat := Nw.S k fun k => Nw.over R.n (R.at k) (Nw.pt s k) i
def lds (R : Nw.Ring) (s : List Rat) (k j : Nat) : List PyData := (List.range R.n).map fun i => eQ (if i < j then ldAt R s (k + 1) i else ldAt R s k i)
theorem lds_len {R : Nw.Ring} {s : List Rat} {k j : Nat} : (lds R s k j).length = R.n := by unfold lds; rw [List.length_map, List.length_range]
theorem lds_at {R : Nw.Ring} {s : List Rat} {k j i : Nat} (h : i < R.n) : (lds R s k j)[i]? = some (eQ (if i < j then ldAt R s (k + 1) i else ldAt R s k i)) := by
  unfold lds
  rw [List.getElem?_map, List.getElem?_range h]
  rfl
theorem lds_set {R : Nw.Ring} {s : List Rat} {k j : Nat} (h : j < R.n) : (lds R s k j).set j (eQ (ldAt R s (k + 1) j)) = lds R s k (j + 1) := by
  refine List.ext_getElem? fun i => ?_
  rw [List.getElem?_set, lds_len]
  by_cases hi : i < R.n
  · rw [lds_at hi, lds_at hi]
    by_cases e : j = i
    · subst e
      rw [if_pos rfl, if_pos h, if_pos (by omega)]
    · rw [if_neg e]
      by_cases c : i < j
      · rw [if_pos c, if_pos (by omega)]
      · rw [if_neg c, if_neg (by omega)]
  · rw [if_neg (by omega), List.getElem?_eq_none (by rw [lds_len]; omega), List.getElem?_eq_none (by rw [lds_len]; omega)]
theorem lds_full {R : Nw.Ring} {s : List Rat} {k : Nat} : lds R s k R.n = lds R s (k + 1) 0 := by
  unfold lds
  refine List.map_congr_left fun i hi => ?_
  rw [if_pos (List.mem_range.mp hi), if_neg (by omega)]
theorem sc_loads_of : FnScope ["ring", "sending", "loads", "k", "part", "rest", "tie"] ["ring", "sending"] (defScope s_loads_of) := ⟨rfl, rfl, rfl, by decide +kernel, rfl, by decide +kernel, by decide +kernel⟩
theorem has_loads_of (T : Tx K mg) (h_is_over : Has P w K mg base 1 "is_over" 4 P_is_over) (h_minus : Has P w K mg base 3 "minus" 2 P_minus) (h_plus : Has P w K mg base 3 "plus" 2 P_plus) : Has P w K mg base 4 "loads_of" 2 P_loads_of := by
  refine has_mk (N := ["ring", "sending", "loads", "k", "part", "rest", "tie"]) (ps := ["ring", "sending"]) (k := 3) T.d_loads_of sc_loads_of (fun _ _ _ _ _ _ us hl => match us, hl with | [_, _], _ => rfl) (fun ds r hp => ?_) (fun f cdv A outer s H E hr => ⟨_, (pss_cons (ps_set (i := 2) sc_loads_of.nd rfl (Or.inl rfl) (pe_op op_rep (pe_lst (pa_cons (pe_glob (v := .ref 80) (by rfl) T.g_NOUGHT rfl) pa_nil)) (pe_callB (lenK K) (by rfl) T.len bb_len (pa_cons (pe_ix (ixK K) (pv 0) pe_int (fun _ _ => rfl)) pa_nil))))
  (pss_cons (ps_for PassesOwn.never rfl (pi_enumK K (by rfl) T.enumerate (pa_cons (pv 1) pa_nil)) (pg_tupK K rfl (pgs_cons (pg_name (i := 3) sc_loads_of.nd rfl (Or.inl rfl)) (pgs_cons (pg_name (i := 4) sc_loads_of.nd rfl (Or.inl rfl)) pgs_nil)))
  (pss_cons (ps_set (i := 5) sc_loads_of.nd rfl (Or.inl rfl) (pe_hasK h_minus (hr.mono (by decide)) (by rfl) (pa_cons (pe_ix (ixK K) (pe_ix (ixK K) (pe_ix (ixK K) (pv 0) pe_int (fun _ _ => rfl)) (pv 3) (fun _ _ => rfl)) pe_int (fun _ _ => rfl)) (pa_cons (pv 4) pa_nil))))
  (pss_one (ps_for PassesOwn.never rfl (pi_range1 rfl T.range (pa_cons (pe_callB (lenK K) (by rfl) T.len bb_len (pa_cons (pv 2) pa_nil)) pa_nil)) (pg_name (i := 6) sc_loads_of.nd rfl (Or.inl rfl))
  (pss_one (ps_asg (pe_hasK h_plus (hr.mono (by decide)) (by rfl) (pa_cons (pe_ix (ixK K) (pv 2) (pv 6) (fun _ _ => rfl)) (pa_cons (pe_ifExp (pt_val (pe_hasK h_is_over (hr.mono (by decide)) (by rfl) (pa_cons (pv 0) (pa_cons (pv 3) (pa_cons (pe_gstr (by rfl) T.g_ON) (pa_cons (pv 6) pa_nil)))))) (pv 4) (pv 5)) pa_nil))) (pg_sub (pv 2) (pv 6) set_list)))))))
  (pss_one (ps_ret (pv 2))))), ?_⟩)
  · rcases hp with ⟨_, _, rfl, _⟩
    rfl
  rintro ds r ⟨R, s, rfl, ⟨D, g, ws⟩, rfl⟩
  have sl : s.length = R.m := ws.ok.len
  refine qo (ds := List.replicate R.n (eQ 0)) (own_rep (own_lst (ea_cons (ed_nought T) ea_nil)) (ed_n (ed_var rfl)) (by have := g.n8; omega)) ?_
  have e0 : List.replicate R.n (eQ 0) = lds R s 0 0 := by
    refine List.ext_getElem? fun i => ?_
    by_cases hi : i < R.n
    · rw [lds_at hi, List.getElem?_replicate, if_pos hi, if_neg (by omega)]
      rfl
    · rw [List.getElem?_eq_none (by rw [List.length_replicate]; omega), List.getElem?_eq_none (by rw [lds_len]; omega)]
  rw [e0]
  refine sg_seq (N' := fun Γ' => Γ' = [.dat (eRing R), .dat (eS s), .own (lds R s R.m 0), .un, .un, .un, .un]) (sg_forE (fun k Γ' => Γ' = [.dat (eRing R), .dat (eS s), .own (lds R s k 0), .un, .un, .un, .un]) (ed_var rfl) ⟨_, .same (.same (.same (.un (.un (.un (.un .nil)))))), rfl⟩ ?_ ?_) ?_
  · rintro k d Γ' hd rfl
    obtain ⟨hk, rfl⟩ := pt_at hd
    have hk : k < R.m := by omega
    refine qd (d := eQ ((R.at k).size - Nw.pt s k)) (ed_minus (ed_size (ed_var rfl) (ed_var rfl) hk) (ed_var rfl) (g.z (g.size k hk)) (g.z (ws.bd g hk))) ?_
    refine sg_forR (n := R.n) (fun j Γ' => Γ' = [.dat (eRing R), .dat (eS s), .own (lds R s k j), .dat (eN k), .dat (eQ (Nw.pt s k)), .dat (eQ ((R.at k).size - Nw.pt s k)), .un]) (ea_cons (ed_is (ed_lenL (el_own rfl)) (by rw [lds_len])) ea_nil) (by have := g.n8; omega) ⟨_, .same (.same (.same (.same (.same (.same (.un .nil)))))), rfl⟩ ?_ ?_
    · rintro j Γ' hj rfl
      refine sg_put (j := j) (d := eQ (ldAt R s (k + 1) j)) (ed_is (ed_plus (a := ldAt R s k j) (b := Nw.over R.n (R.at k) (Nw.pt s k) j) (ed_ixL (el_own rfl) (ed_var rfl) (atI_at (by rw [lds_at hj, if_neg (by omega)]))) (ed_if (eb_B (eg_call (ea_cons (ed_var rfl) (ea_cons (ed_var rfl) (ea_cons ed_str (ea_cons (ed_var rfl) ea_nil)))) ⟨R, k, j, rfl, hk, hj, g.ok, rfl⟩)) (fun h => ed_is (ed_var rfl) ?_) fun h => ed_is (ed_var rfl) ?_) (g.z (ws.load g (show k ≤ R.m by omega) j)) (g.z (ws.over g hk j))) rfl) rfl (ed_var rfl) (by rw [lds_len]; exact hj) ⟨_, .same (.same (.same (.same (.same (.same (.un .nil)))))), lq_refl ?_⟩
      · show eQ (Nw.pt s k) = _
        unfold Nw.over
        rw [if_pos h]
      · show eQ ((R.at k).size - Nw.pt s k) = _
        unfold Nw.over
        rw [if_neg (by rw [h]; decide)]
      · rw [← lds_set hj]
    · rintro Γ' rfl
      refine ⟨_, .same (.same (.same (.un (.un (.un (.un .nil)))))), lq_refl ?_⟩
      rw [lds_full]
  · rintro Γ' rfl
    refine lq_refl ?_
    rw [List.length_map, sl]
  · rintro Γ' rfl
    refine sg_retO rfl ?_
    refine congrArg Rs.own ?_
    unfold lds
    refine List.map_congr_left fun i hi => ?_
    rw [if_neg (by omega)]
    rfl
theorem load_bd {R : Nw.Ring} {D : Nat} {s : List Rat} (g : Rg R D) (ws : Ws R D s) (i : Nat) : Bd D (2 ^ 44) (Nw.load R s i) := ws.load g (Nat.le_refl _) i
theorem strain_z {R : Nw.Ring} {D : Nat} {s : List Rat} (g : Rg R D) (ws : Ws R D s) {i : Nat} (hi : i < R.n) : Z (Nw.strain R s i) := g.zdiv (load_bd g ws i) (g.room i hi) (g.ok.room i hi)
theorem map_range_at {n i : Nat} {f : Nat → PyData} {d : PyData} (h : ((List.range n).map f)[i]? = some d) : i < n ∧ d = f i := by
  have hi := (List.getElem?_eq_some_iff.mp h).1
  rw [List.length_map, List.length_range] at hi
  rw [List.getElem?_map, List.getElem?_range hi] at h
  exact ⟨hi, (Option.some.inj h).symm⟩
theorem at_map_range {n i : Nat} {f : Nat → PyData} (h : i < n) : ((List.range n).map f)[i]? = some (f i) := by
  rw [List.getElem?_map, List.getElem?_range h]
  rfl
theorem sc_strains_of : FnScope ["ring", "sending", "load", "room"] ["ring", "sending"] (defScope s_strains_of) := ⟨rfl, rfl, rfl, by decide +kernel, rfl, by decide +kernel, by decide +kernel⟩
theorem has_strains_of (T : Tx K mg) (h_loads_of : Has P w K mg base 4 "loads_of" 2 P_loads_of) (h_over : Has P w K mg base 3 "over" 2 P_over) : Has P w K mg base 5 "strains_of" 2 P_strains_of := by
  refine has_mk (N := ["ring", "sending", "load", "room"]) (ps := ["ring", "sending"]) (k := 4) T.d_strains_of sc_strains_of (fun _ _ _ _ _ _ us hl => match us, hl with | [_, _], _ => rfl) (fun ds r hp => ?_) (fun f cdv A outer s H E hr => ⟨_, (pss_one (ps_ret (pe_lc (own := [("load", 2), ("room", 3)]) (g := gTup K 2 (gCons (gName 2) (gCons (gName 3) gNil))) rfl sc_strains_of.nd (pi_zipK K (by rfl) T.zip (pa_cons (pe_hasK h_loads_of (hr.mono (by decide)) (by rfl) (pa_cons (pv 0) (pa_cons (pv 1) pa_nil))) (pa_cons (pe_ix (ixK K) (pv 0) pe_int (fun _ _ => rfl)) pa_nil))) (blkOk_by (own := [("load", 2), ("room", 3)]) (N := ["ring", "sending", "load", "room"]) (sc := (defScope s_strains_of)) (by decide +kernel)) (fun _ _ _ _ _ => pg_tupK K rfl (pgs_cons (pg_name (i := 2) sc_strains_of.nd rfl (Or.inl rfl)) (pgs_cons (pg_name (i := 3) sc_strains_of.nd rfl (Or.inl rfl)) pgs_nil))) (fun _ _ _ _ _ => pts_nil) (fun _ _ _ _ _ => by exact (pe_hasK h_over (hr.mono (by decide)) (by rfl) (pa_cons (pv 2) (pa_cons (pv 3) pa_nil))))))), ?_⟩)
  · rcases hp with ⟨_, _, rfl, _⟩
    rfl
  rintro ds r ⟨R, s, rfl, ⟨D, g, ws⟩, rfl⟩
  refine sg_ret (own_is (lc_Z (a := 2) (c := 3) (vs := [2, 3]) (es := R.rooms.map eQ) (fun _ => true) (fun i => eQ (Nw.strain R s i)) ?_ (by decide) (by decide) (by decide) (ed_of_own (eg_call (ea_cons (ed_var rfl) (ea_cons (ed_var rfl) ea_nil)) ⟨R, s, rfl, ⟨D, g, ws⟩, rfl⟩)) (ed_rooms (ed_var rfl)) (by rw [List.length_map, List.length_range, List.length_map]) (by rw [List.length_map, List.length_range]; have := g.n8; omega) (fun _ _ _ _ _ => eb_yes) (fun i d e hd he _ => ?_)) (by rw [told_all, List.length_map, List.length_range])) rfl
  · intro i hi
    rcases List.mem_cons.mp hi with rfl | hi
    · rfl
    · rw [List.mem_singleton.mp hi]
      rfl
  · obtain ⟨hi, rfl⟩ := map_range_at hd
    obtain ⟨_, rfl⟩ := room_at he
    exact ed_over (ed_var rfl) (ed_var rfl) (g.z (load_bd g ws i)) (g.z (g.room i hi)) (g.ok.room i hi)
theorem sc_top_of : FnScope ["ring", "sending", "strains", "best", "tie"] ["ring", "sending"] (defScope s_top_of) := ⟨rfl, rfl, rfl, by decide +kernel, rfl, by decide +kernel, by decide +kernel⟩
theorem has_top_of (T : Tx K mg) (h_strains_of : Has P w K mg base 5 "strains_of" 2 P_strains_of) (h_under : Has P w K mg base 1 "under" 2 P_under) : Has P w K mg base 6 "top_of" 2 P_top_of := by
  refine has_mk (N := ["ring", "sending", "strains", "best", "tie"]) (ps := ["ring", "sending"]) (k := 5) T.d_top_of sc_top_of (fun _ _ _ _ _ _ us hl => match us, hl with | [_, _], _ => rfl) (fun ds r hp => ?_) (fun f cdv A outer s H E hr => ⟨_, (pss_cons (ps_set (i := 2) sc_top_of.nd rfl (Or.inl rfl) (pe_hasK h_strains_of (hr.mono (by decide)) (by rfl) (pa_cons (pv 0) (pa_cons (pv 1) pa_nil))))
  (pss_cons (ps_set (i := 3) sc_top_of.nd rfl (Or.inl rfl) pe_int)
  (pss_cons (ps_for PassesOwn.never rfl (pi_range2 rfl T.range (pa_cons pe_int (pa_cons (pe_callB (lenK K) (by rfl) T.len bb_len (pa_cons (pv 2) pa_nil)) pa_nil))) (pg_name (i := 4) sc_top_of.nd rfl (Or.inl rfl))
  (pss_one (ps_if (pt_val (pe_hasK h_under (hr.mono (by decide)) (by rfl) (pa_cons (pe_ix (ixK K) (pv 2) (pv 3) (fun _ _ => rfl)) (pa_cons (pe_ix (ixK K) (pv 2) (pv 4) (fun _ _ => rfl)) pa_nil)))) (pss_one (ps_set (i := 3) sc_top_of.nd rfl (Or.inl rfl) (pv 4))) pss_nil)))
  (pss_one (ps_ret (pe_tup (pa_cons (pe_ix (ixK K) (pv 2) (pv 3) (fun _ _ => rfl)) (pa_cons (pv 3) pa_nil)))))))), ?_⟩)
  · rcases hp with ⟨_, _, rfl, _⟩
    rfl
  rintro ds r ⟨R, s, rfl, ⟨D, g, ws⟩, rfl⟩
  have two := g.ok.two
  have n8 := g.n8
  have st : ∀ {Γ : List Sl} {te ta : TE} {i : Nat}, ED J0 K Γ te (.list ((List.range R.n).map fun i => eQ (Nw.strain R s i))) → ED J0 K Γ ta (eN i) → i < R.n → ED J0 K Γ (tOp (rIx K) te ta) (eQ (Nw.strain R s i)) := fun h1 h2 hi => ed_ixL (el_dat h1) h2 (atI_at (at_map_range hi))
  refine qd (ed_of_own (eg_call (ea_cons (ed_var rfl) (ea_cons (ed_var rfl) ea_nil)) ⟨R, s, rfl, ⟨D, g, ws⟩, rfl⟩)) ?_
  refine qd ed_int ?_
  refine sg_seq (N' := fun Γ' => Γ' = [.dat (eRing R), .dat (eS s), .dat (.list ((List.range R.n).map fun i => eQ (Nw.strain R s i))), .dat (eN (Nw.bestIx (Nw.strain R s) (R.n - 1))), .un]) (sg_forR2 (lo := 1) (hi := R.n) (n := R.n - 1) (fun i Γ' => Γ' = [.dat (eRing R), .dat (eS s), .dat (.list ((List.range R.n).map fun i => eQ (Nw.strain R s i))), .dat (eN (Nw.bestIx (Nw.strain R s) i)), .un]) (ea_cons ed_int (ea_cons (ed_is (ed_lenL (el_dat (ed_var rfl))) (by rw [List.length_map, List.length_range])) ea_nil)) rfl ⟨by omega, by omega⟩ ⟨_, .same (.same (.same (.same (.un .nil)))), rfl⟩ ?_ fun Γ' e => lq_refl e) ?_
  · rintro i Γ' hi rfl
    have hb := Nw.bestIx_le (Nw.strain R s) i
    have e1 : 1 + i = i + 1 := by omega
    rw [e1]
    refine sg_if (eb_B (ed_under (st (ed_var rfl) (ed_var rfl) (show Nw.bestIx (Nw.strain R s) i < R.n by omega)) (st (ed_var rfl) (ed_var rfl) (show i + 1 < R.n by omega)) (strain_z g ws (by omega)) (strain_z g ws (by omega)))) (fun h => ?_) fun h => ?_
    · refine sg_asg (ed_var rfl) ⟨_, .same (.same (.same (.same (.un .nil)))), lq_refl ?_⟩
      have e : Nw.bestIx (Nw.strain R s) (i + 1) = i + 1 := by
        show (if _ then _ else _) = _
        rw [if_pos (of_decide_eq_true h)]
      rw [e]
      rfl
    · refine sg_next ⟨_, .same (.same (.same (.same (.un .nil)))), lq_refl ?_⟩
      have e : Nw.bestIx (Nw.strain R s) (i + 1) = Nw.bestIx (Nw.strain R s) i := by
        show (if _ then _ else _) = _
        rw [if_neg (of_decide_eq_false h)]
      rw [e]
  · rintro Γ' rfl
    have hb := Nw.bestIx_le (Nw.strain R s) (R.n - 1)
    exact sg_ret (ed_tup (ea_cons (st (ed_var rfl) (ed_var rfl) (show Nw.bestIx (Nw.strain R s) (R.n - 1) < R.n by omega)) (ea_cons (ed_var rfl) ea_nil))) rfl
theorem sc_cut_above : FnScope ["ring", "top", "cut"] ["ring", "top"] (defScope s_cut_above) := ⟨rfl, rfl, rfl, by decide +kernel, rfl, by decide +kernel, by decide +kernel⟩
theorem has_cut_above (T : Tx K mg) (h_all_cuts : Has P w K mg base 1 "all_cuts" 1 P_all_cuts) (h_shown_by : Has P w K mg base 6 "shown_by" 2 P_shown_by) (h_under : Has P w K mg base 1 "under" 2 P_under) : Has P w K mg base 7 "cut_above" 2 P_cut_above := by
  refine has_mk (N := ["ring", "top", "cut"]) (ps := ["ring", "top"]) (k := 6) T.d_cut_above sc_cut_above (fun _ _ _ _ _ _ us hl => match us, hl with | [_, _], _ => rfl) (fun ds r hp => ?_) (fun f cdv A outer s H E hr => ⟨_, (pss_cons (ps_for PassesOwn.never rfl (pi_listK K (pe_hasK h_all_cuts (hr.mono (by decide)) (by rfl) (pa_cons (pv 0) pa_nil))) (pg_name (i := 2) sc_cut_above.nd rfl (Or.inl rfl))
  (pss_one (ps_if (pt_val (pe_hasK h_under (hr.mono (by decide)) (by rfl) (pa_cons (pv 1) (pa_cons (pe_hasK h_shown_by (hr.mono (by decide)) (by rfl) (pa_cons (pv 0) (pa_cons (pv 2) pa_nil))) pa_nil)))) (pss_one (ps_ret (pv 2))) pss_nil)))
  (pss_one (ps_ret pe_non))), ?_⟩)
  · rcases hp with ⟨_, _, rfl, _⟩
    rfl
  rintro ds r ⟨R, top, rfl, ⟨D, g⟩, zt, hc, rfl⟩
  refine sg_seq (N' := fun Γ' => Γ' = [.dat (eRing R), .dat (eQ top), .un]) (sg_forL (fun i Γ' => Γ' = [.dat (eRing R), .dat (eQ top), .un]) (ed_of_own (eg_call (ea_cons (ed_var rfl) ea_nil) ⟨R, rfl, g.n8, rfl⟩)) ⟨_, .same (.same (.un .nil)), rfl⟩ ?_ fun Γ' e => lq_refl e) ?_
  · rintro i d Γ' hd rfl
    obtain ⟨c, _, rfl, c1, c2⟩ := cut_at hd
    refine sg_if (b := false) (eb_is (eb_B (ed_under (b := Nw.shown R c) (ed_var rfl) (eg_call (ea_cons (ed_var rfl) (ea_cons (ed_var rfl) ea_nil)) ⟨R, c, rfl, ⟨D, g⟩, by omega, c2, rfl⟩) zt (shown_z g (by omega) c2))) (decide_eq_false (Rat.not_lt.mpr (hc c c1 c2)))) (fun z => by cases z) fun _ => sg_next ⟨_, .same (.same (.un .nil)), lq_refl rfl⟩
  · rintro Γ' rfl
    exact sg_ret ed_non rfl
theorem sc_first_broken : FnScope ["ring", "some", "top", "k", "part", "tie", "load"] ["ring", "some", "top"] (defScope s_first_broken) := ⟨rfl, rfl, rfl, by decide +kernel, rfl, by decide +kernel, by decide +kernel⟩
theorem has_first_broken (T : Tx K mg) (h_loads_of : Has P w K mg base 4 "loads_of" 2 P_loads_of) (h_times : Has P w K mg base 3 "times" 2 P_times) (h_under : Has P w K mg base 1 "under" 2 P_under) : Has P w K mg base 5 "first_broken" 3 P_first_broken := by
  refine has_mk (N := ["ring", "some", "top", "k", "part", "tie", "load"]) (ps := ["ring", "some", "top"]) (k := 4) T.d_first_broken sc_first_broken (fun _ _ _ _ _ _ us hl => match us, hl with | [_, _, _], _ => rfl) (fun ds r hp => ?_) (fun f cdv A outer s H E hr => ⟨_, (pss_cons (ps_for PassesOwn.never rfl (pi_enumK K (by rfl) T.enumerate (pa_cons (pv 1) pa_nil)) (pg_tupK K rfl (pgs_cons (pg_name (i := 3) sc_first_broken.nd rfl (Or.inl rfl)) (pgs_cons (pg_name (i := 4) sc_first_broken.nd rfl (Or.inl rfl)) pgs_nil)))
  (pss_one (ps_if (PW.pt (pw_or (pt_val (pe_hasK h_under (hr.mono (by decide)) (by rfl) (pa_cons (pv 4) (pa_cons (pe_glob (v := .ref 80) (by rfl) T.g_NOUGHT rfl) pa_nil)))) (pw_or1 (pt_val (pe_hasK h_under (hr.mono (by decide)) (by rfl) (pa_cons (pe_ix (ixK K) (pe_ix (ixK K) (pe_ix (ixK K) (pv 0) pe_int (fun _ _ => rfl)) (pv 3) (fun _ _ => rfl)) pe_int (fun _ _ => rfl)) (pa_cons (pv 4) pa_nil))))))) (pss_one (ps_ret (pe_tup (pa_cons pe_str (pa_cons (pv 3) pa_nil))))) pss_nil)))
  (pss_cons (ps_if (pt_cmp (pc_isN (pv 2)) rfl) (pss_one (ps_ret pe_non)) pss_nil)
  (pss_cons (ps_for PassesOwn.never rfl (pi_enumK K (by rfl) T.enumerate (pa_cons (pe_hasK h_loads_of (hr.mono (by decide)) (by rfl) (pa_cons (pv 0) (pa_cons (pv 1) pa_nil))) pa_nil)) (pg_tupK K rfl (pgs_cons (pg_name (i := 5) sc_first_broken.nd rfl (Or.inl rfl)) (pgs_cons (pg_name (i := 6) sc_first_broken.nd rfl (Or.inl rfl)) pgs_nil)))
  (pss_one (ps_if (pt_val (pe_hasK h_under (hr.mono (by decide)) (by rfl) (pa_cons (pe_hasK h_times (hr.mono (by decide)) (by rfl) (pa_cons (pv 2) (pa_cons (pe_ix (ixK K) (pe_ix (ixK K) (pv 0) pe_int (fun _ _ => rfl)) (pv 5) (fun _ _ => rfl)) pa_nil))) (pa_cons (pv 6) pa_nil)))) (pss_one (ps_ret (pe_tup (pa_cons pe_str (pa_cons (pv 5) pa_nil))))) pss_nil)))
  (pss_one (ps_ret pe_non))))), ?_⟩)
  · rcases hp with ⟨_, _, rfl, _⟩
    rfl
  rintro ds r ⟨R, s, rfl, ⟨D, g, ws⟩, rfl⟩
  have sl : s.length = R.m := ws.ok.len
  refine sg_seq (N' := fun Γ' => Γ' = [.dat (eRing R), .dat (eS s), .dat .none, .un, .un, .un, .un]) (sg_forE (fun i Γ' => Γ' = [.dat (eRing R), .dat (eS s), .dat .none, .un, .un, .un, .un]) (ed_var rfl) ⟨_, .same (.same (.same (.un (.un (.un (.un .nil)))))), rfl⟩ ?_ fun Γ' e => lq_refl e) ?_
  · rintro k d Γ' hd rfl
    obtain ⟨hk, rfl⟩ := pt_at hd
    have hk : k < R.m := by omega
    obtain ⟨p1, p2⟩ := ws.ok.part k hk
    refine sg_if (b := false) (eb_or (a := false) (b := false) (eb_is (eb_B (ed_under (ed_var rfl) (ed_nought T) (g.z (ws.bd g hk)) Z.zero)) (decide_eq_false (Rat.not_lt.mpr p1))) fun _ => eb_is (eb_B (ed_under (ed_size (ed_var rfl) (ed_var rfl) hk) (ed_var rfl) (g.z (g.size k hk)) (g.z (ws.bd g hk)))) (decide_eq_false (Rat.not_lt.mpr p2))) (fun z => by cases z) fun _ => sg_next ⟨_, .same (.same (.same (.un (.un (.un (.un .nil)))))), lq_refl rfl⟩
  · rintro Γ' rfl
    exact q1 (eb_B (ed_isN (x := .none) (ed_var rfl))) (sg_ret ed_non rfl)
theorem ws_at {ws : List Bool} {i : Nat} {d : PyData} (h : (ws.map eW)[i]? = some d) : i < ws.length ∧ d = eW (Nw.wt ws i) := by
  have hi := (List.getElem?_eq_some_iff.mp h).1
  rw [List.length_map] at hi
  rw [List.getElem?_map, List.getElem?_eq_getElem hi] at h
  unfold Nw.wt
  rw [List.getD_eq_getElem?_getD, List.getElem?_eq_getElem hi]
  exact ⟨hi, (Option.some.inj h).symm⟩
theorem at_ws {ws : List Bool} {i : Nat} (h : i < ws.length) : (ws.map eW)[i]? = some (eW (Nw.wt ws i)) := by
  rw [List.getElem?_map, List.getElem?_eq_getElem h]
  unfold Nw.wt
  rw [List.getD_eq_getElem?_getD, List.getElem?_eq_getElem h]
  rfl
theorem way_in (b : Bool) : decide (wS b ∈ [("on" : Str), "back"]) = true := by cases b <;> decide
theorem ed_isway {Γ : List Sl} {ta tb : TE} {b : Bool} (h1 : ED J K Γ ta (eW b)) (h2 : ED J K Γ tb (.tuple [.str "on", .str "back"])) : ED J K Γ (tOp (rIn K false) ta tb) (.bool true) := ed_is (ed_inTS (ns := ["on", "back"]) h1 h2) (congrArg PyData.bool (way_in b))
theorem ed_both (T : Tx K mg) {Γ : List Sl} : ED J K Γ (tC (.ref 366)) (.tuple [.str "on", .str "back"]) := ed_const fun H => .tup (T.t_BOTH H) (.cons (.str _) (.cons (.str _) .nil))
theorem sc_is_way : FnScope ["thing"] ["thing"] (defScope s_is_way) := ⟨rfl, rfl, rfl, by decide +kernel, rfl, by decide +kernel, by decide +kernel⟩
theorem has_is_way (T : Tx K mg) : Has P w K mg base 1 "is_way" 1 P_is_way := by
  refine has_mk (N := ["thing"]) (ps := ["thing"]) (k := 0) T.d_is_way sc_is_way (fun _ _ _ _ _ _ us hl => match us, hl with | [_], _ => rfl) (fun ds r hp => ?_) (fun f cdv A outer s H E hr => ⟨_, (pss_one (ps_ret (pe_and (pe_callB (isiK K) (by rfl) T.isinstance bb_isinstance (pa_cons (pv 0) (pa_cons (pe_bltn (v := .ty "str") (by rfl) T.str bb_str rfl) pa_nil))) (pe_one (pe_cmpR (inK K) (pv 0) (pe_glob (v := .ref 366) (by rfl) T.g_BOTH rfl) (by rfl)))))), ?_⟩)
  · rcases hp with ⟨_, rfl, _⟩
    rfl
  rintro ds r ⟨b, rfl, rfl⟩
  exact sg_ret (ed_andV (a := true) (b := true) (ed_isi (ed_var rfl) k_ss) fun _ => ed_isway (b := b) (ed_var rfl) (ed_both T)) rfl
theorem sc_is_number : FnScope ["thing", "many"] ["thing", "many"] (defScope s_is_number) := ⟨rfl, rfl, rfl, by decide +kernel, rfl, by decide +kernel, by decide +kernel⟩
theorem has_is_number (T : Tx K mg) (h_is_whole : Has P w K mg base 1 "is_whole" 1 P_is_whole) : Has P w K mg base 2 "is_number" 2 P_is_number := by
  refine has_mk (N := ["thing", "many"]) (ps := ["thing", "many"]) (k := 1) T.d_is_number sc_is_number (fun _ _ _ _ _ _ us hl => match us, hl with | [_, _], _ => rfl) (fun ds r hp => ?_) (fun f cdv A outer s H E hr => ⟨_, (pss_one (ps_ret (pe_and (pe_hasK h_is_whole (hr.mono (by decide)) (by rfl) (pa_cons (pv 0) pa_nil)) (pe_one (pe_chain op_le op_lt pe_int (pv 0) (pv 1)))))), ?_⟩)
  · rcases hp with ⟨_, _, rfl, _⟩
    rfl
  rintro ds r ⟨k, m, rfl, h, rfl⟩
  refine sg_ret (ed_andV (a := true) (eg_call (ea_cons (ed_var rfl) ea_nil) ⟨_, rfl, rfl⟩) fun _ => ed_chain ed_int (ed_var rfl) fun _ => ed_var rfl) ?_
  have h1 : (0 : Int) ≤ (k : Nat) := by omega
  have h2 : ((k : Nat) : Int) < (m : Nat) := by omega
  rw [decide_eq_true h1, decide_eq_true h2]
  rfl
theorem sc_are_ways : FnScope ["ring", "thing", "way"] ["ring", "thing"] (defScope s_are_ways) := ⟨rfl, rfl, rfl, by decide +kernel, rfl, by decide +kernel, by decide +kernel⟩
theorem has_are_ways (T : Tx K mg) : Has P w K mg base 1 "are_ways" 2 P_are_ways := by
  refine has_mk (N := ["ring", "thing", "way"]) (ps := ["ring", "thing"]) (k := 0) T.d_are_ways sc_are_ways (fun _ _ _ _ _ _ us hl => match us, hl with | [_, _], _ => rfl) (fun ds r hp => ?_) (fun f cdv A outer s H E hr => ⟨_, (pss_cons (ps_if (PW.pt (pw_or (pt_not (pt_val (pe_callB (isiK K) (by rfl) T.isinstance bb_isinstance (pa_cons (pv 1) (pa_cons (pe_bltn (v := .ty "list") (by rfl) T.list bb_list rfl) pa_nil))))) (pw_or1 (pt_cmpR (neK K hr.units) (pe_callB (lenK K) (by rfl) T.len bb_len (pa_cons (pv 1) pa_nil)) (pe_callB (lenK K) (by rfl) T.len bb_len (pa_cons (pe_ix (ixK K) (pv 0) pe_int (fun _ _ => rfl)) pa_nil)) (nomark _))))) (pss_one (ps_ret pe_bl)) pss_nil)
  (pss_one (ps_ret (pe_callB (allK K) (by rfl) T.all bb_all (pa_cons (pe_lc (own := [("way", 2)]) (g := gName 2) rfl sc_are_ways.nd (pi_listK K (pv 1)) (blkOk_by (own := [("way", 2)]) (N := ["ring", "thing", "way"]) (sc := (defScope s_are_ways)) (by decide +kernel)) (fun _ _ _ _ _ => pg_name (i := 2) sc_are_ways.nd rfl (Or.inl rfl)) (fun _ _ _ _ _ => pts_nil) (fun _ _ _ _ _ => by exact (pe_and (pe_callB (isiK K) (by rfl) T.isinstance bb_isinstance (pa_cons (pv 2) (pa_cons (pe_bltn (v := .ty "str") (by rfl) T.str bb_str rfl) pa_nil))) (pe_one (pe_cmpR (inK K) (pv 2) (pe_tup (pa_cons (pe_gstr (by rfl) T.g_ON) (pa_cons (pe_gstr (by rfl) T.g_BACK) pa_nil))) (by rfl)))))) pa_nil))))), ?_⟩)
  · rcases hp with ⟨_, _, rfl, _⟩
    rfl
  rintro ds r ⟨R, ws, rfl, hl, m8, rfl⟩
  refine q0 (eb_or (a := false) (b := false) (eb_not (b := true) (eb_B (ed_isi (ed_var rfl) k_ll))) fun _ => eb_is (eb_test (ed_neI (ed_lenL (el_dat (ed_var rfl))) (ed_m (ed_var rfl)))) ?_) ?_
  · rw [List.length_map, hl]
    simp
  · refine sg_ret (ed_is (ed_all (bs := (List.range ws.length).map fun _ => true) (el_dat (ed_of_own (own_is (lc_L (vs := [2]) (fun _ => true) (fun _ => .bool true) (fun i hi => by rw [List.mem_singleton.mp hi]; rfl) (by decide) (ed_var rfl) (by rw [List.length_map]; omega) (fun _ _ _ => eb_yes) (fun i d hd _ => ?_)) ?_)))) ?_) rfl
    · obtain ⟨_, rfl⟩ := ws_at hd
      exact ed_andV (a := true) (b := true) (ed_isi (ed_var rfl) k_ss) fun _ => ed_isway (b := Nw.wt ws i) (ed_var rfl) (ed_tup (ea_cons ed_str (ea_cons ed_str ea_nil)))
    · rw [told_all, List.length_map, List.map_map]
      rfl
    · refine congrArg PyData.bool ?_
      rw [List.all_eq_true]
      intro x hx
      obtain ⟨_, _, rfl⟩ := List.mem_map.mp hx
      rfl
theorem sc_sent_by : FnScope ["ring", "ways", "ask", "way"] ["ring", "ways"] (defScope s_sent_by) := ⟨rfl, rfl, rfl, by decide +kernel, rfl, by decide +kernel, by decide +kernel⟩
theorem has_sent_by (T : Tx K mg) : Has P w K mg base 1 "sent_by" 2 P_sent_by := by
  refine has_mk (N := ["ring", "ways", "ask", "way"]) (ps := ["ring", "ways"]) (k := 0) T.d_sent_by sc_sent_by (fun _ _ _ _ _ _ us hl => match us, hl with | [_, _], _ => rfl) (fun ds r hp => ?_) (fun f cdv A outer s H E hr => ⟨_, (pss_one (ps_ret (pe_lc (own := [("ask", 2), ("way", 3)]) (g := gTup K 2 (gCons (gName 2) (gCons (gName 3) gNil))) rfl sc_sent_by.nd (pi_zipK K (by rfl) T.zip (pa_cons (pe_ix (ixK K) (pv 0) pe_int (fun _ _ => rfl)) (pa_cons (pv 1) pa_nil))) (blkOk_by (own := [("ask", 2), ("way", 3)]) (N := ["ring", "ways", "ask", "way"]) (sc := (defScope s_sent_by)) (by decide +kernel)) (fun _ _ _ _ _ => pg_tupK K rfl (pgs_cons (pg_name (i := 2) sc_sent_by.nd rfl (Or.inl rfl)) (pgs_cons (pg_name (i := 3) sc_sent_by.nd rfl (Or.inl rfl)) pgs_nil))) (fun _ _ _ _ _ => pts_nil) (fun _ _ _ _ _ => by exact (pe_ifExp (pt_cmpR (eqK K hr.units) (pv 3) (pe_gstr (by rfl) T.g_ON) (nomark _)) (pe_ix (ixK K) (pv 2) pe_int (fun _ _ => rfl)) (pe_glob (v := .ref 80) (by rfl) T.g_NOUGHT rfl)))))), ?_⟩)
  · rcases hp with ⟨_, _, rfl, _⟩
    rfl
  rintro ds r ⟨R, ws, rfl, hl, m8, rfl⟩
  refine sg_ret (own_is (lc_Z (a := 2) (c := 3) (vs := [2, 3]) (es := ws.map eW) (fun _ => true) (fun i => eQ (if Nw.wt ws i then (R.at i).size else 0)) ?_ (by decide) (by decide) (by decide) (ed_asks (ed_var rfl)) (ed_var rfl) (by rw [List.length_map, List.length_map]; exact hl.symm) (by rw [List.length_map]; have : R.asks.length ≤ 8 := m8; omega) (fun _ _ _ _ _ => eb_yes) (fun i d e hd he _ => ?_)) ?_) rfl
  · intro i hi
    rcases List.mem_cons.mp hi with rfl | hi
    · rfl
    · rw [List.mem_singleton.mp hi]
      rfl
  · obtain ⟨hi, rfl⟩ := ask_at hd
    obtain ⟨_, rfl⟩ := ws_at he
    refine ed_if (eb_is (eb_test (ed_eqS (i := wS (Nw.wt ws i)) (j := "on") (ed_var rfl) ed_str)) (way_on _)) (fun h => ?_) fun h => ?_
    · rw [if_pos h]
      exact ed_ixT (ed_var rfl) ed_int rfl
    · rw [if_neg (by rw [h]; decide)]
      exact ed_nought T
  · rw [told_all, List.length_map]
    unfold Nw.sent
    rw [List.map_map]
    rfl
end
end NwB
end NwB3_
section NwC1_
set_option Elab.async false
set_option linter.all false
set_option maxRecDepth 100000
set_option maxHeartbeats 4000000
namespace NwB
open PySem PySem.Spec PyProof.Rows L2 NwT
open Evl (Ex)
def zD : Option Nw.Slide → PyData
  | none => .none
  | some z => eZ z
def wD : Option (Bool × Bool) → PyData
  | none => .none
  | some w => .tuple [eW w.1, eW w.2]
def Am (D : Nat) (z : Nw.Slide) : Prop := ∃ i : Int, z.amt * (D : Rat) = i
def P_gone_by : Pd := fun ds r => ∃ (R : Nw.Ring) (s : List Rat) (k : Nat) (b : Bool), ds = [eRing R, eS s, eN k, eW b] ∧ (∃ D, Rg R D ∧ Ws R D s) ∧ k < R.m ∧ r = .dat (eQ (Nw.gone R s k b))
def P_are_apart : Pd := fun ds r => ∃ (R : Nw.Ring) (k : Nat) (w : Bool) (l : Nat) (o : Bool), ds = [eRing R, eN k, eW w, eN l, eW o] ∧ k < R.m ∧ l < R.m ∧ Nw.RingOk R ∧ R.n ≤ 8 ∧ r = .dat (.bool (Nw.aprt R k w l o))
def P_is_slide : Pd := fun ds r => ∃ (R : Nw.Ring) (s : List Rat) (z : Nw.Slide), ds = [eRing R, eS s, eZ z] ∧ (∃ D, Rg R D ∧ Ws R D s ∧ Am D z) ∧ Nw.SlideOk R s z ∧ r = .dat (.bool true)
def P_moved : Pd := fun ds r => ∃ (s : List Rat) (k : Nat) (w : Bool) (x : Rat), ds = [eS s, eN k, eW w, eQ x] ∧ k < s.length ∧ s.length ≤ 8 ∧ Z (Nw.pt s k) ∧ Z x ∧ r = .own ((Nw.moved s k w x).map eQ)
def P_slid : Pd := fun ds r => ∃ (s : List Rat) (z : Nw.Slide), ds = [eS s, eZ z] ∧ (z.k < s.length ∧ z.l < s.length ∧ z.k ≠ z.l ∧ s.length ≤ 8) ∧ Z (Nw.pt s z.k) ∧ Z (Nw.pt s z.l) ∧ Z z.amt ∧ r = .own ((Nw.slid s z).map eQ)
def P_slid_by : Pd := fun ds r => ∃ (R : Nw.Ring) (s : List Rat) (zs : List Nw.Slide), ds = [eRing R, eS s, eZs zs] ∧ (∃ D, Rg R D ∧ Ws R D s ∧ ∀ z ∈ zs, Am D z) ∧ Nw.SlidesOk R s zs ∧ r = .dat (eS (Nw.behind s zs))
def P_ways_apart : Pd := fun ds r => ∃ (R : Nw.Ring) (k l : Nat), ds = [eRing R, eN k, eN l] ∧ k < R.m ∧ l < R.m ∧ Nw.RingOk R ∧ R.n ≤ 8 ∧ r = .dat (wD (Nw.waysApart R k l))
def P_next_slide : Pd := fun ds r => ∃ (R : Nw.Ring) (s : List Rat), ds = [eRing R, eS s] ∧ (∃ D, Rg R D ∧ Ws R D s) ∧ r = .dat (zD (Nw.nextSlide R s))
def P_slides_for : Pd := fun ds r => ∃ (R : Nw.Ring) (s : List Rat), ds = [eRing R, eS s] ∧ (∃ D, Rg R D ∧ Ws R D s) ∧ r = .own ((Nw.slidesFor R s).map eZ)
section
variable {R : Nw.Ring} {D : Nat} {s : List Rat} {z : Nw.Slide}
theorem int_sub {a b : Rat} (h1 : ∃ i : Int, a * (D : Rat) = i) (h2 : ∃ i : Int, b * (D : Rat) = i) : ∃ i : Int, (a - b) * (D : Rat) = i := by
  obtain ⟨x, hx⟩ := h1
  obtain ⟨y, hy⟩ := h2
  refine ⟨x - y, ?_⟩
  rw [Rat.intCast_sub, ← hx, ← hy]
  grind
theorem int_add {a b : Rat} (h1 : ∃ i : Int, a * (D : Rat) = i) (h2 : ∃ i : Int, b * (D : Rat) = i) : ∃ i : Int, (a + b) * (D : Rat) = i := by
  obtain ⟨x, hx⟩ := h1
  obtain ⟨y, hy⟩ := h2
  refine ⟨x + y, ?_⟩
  rw [Rat.intCast_add, ← hx, ← hy]
  grind
theorem gone_bd (g : Rg R D) (ws : Ws R D s) {k : Nat} (hk : k < R.m) (w : Bool) : Bd D (2 ^ 41) (Nw.gone R s k w) := by
  unfold Nw.gone
  split
  · exact ws.bd g hk
  · exact ws.rest g hk
theorem slide_bd (g : Rg R D) (ws : Ws R D s) (ok : Nw.SlideOk R s z) (a : Am D z) : Bd D (2 ^ 41) z.amt := (gone_bd g ws ok.k (!z.way)).btw a (by have := ok.pos; grind) ok.le1
theorem ws_slid (ws : Ws R D s) (ok : Nw.SlideOk R s z) (a : Am D z) : Ws R D (Nw.slid s z) := by
  refine ⟨Nw.slid_ok ws.ok ok, fun j hj => ?_⟩
  rw [Nw.pt_slid (by rw [ws.ok.len]; exact ok.k) (by rw [ws.ok.len]; exact ok.l) ok.ne]
  have z0 : ∃ i : Int, (0 : Rat) * (D : Rat) = i := ⟨0, by rw [Rat.zero_mul]; rfl⟩
  have key : ∀ (b : Bool), ∃ i : Int, (if b then z.amt else 0 - z.amt) * (D : Rat) = i := fun b => by
    cases b
    · exact int_sub z0 a
    · exact a
  refine int_add (int_add (ws.int j hj) ?_) ?_
  · split
    · exact key _
    · exact z0
  · split
    · exact key _
    · exact z0
theorem slideAt_am (ws : Ws R D s) (g : Rg R D) {k l : Nat} (hk : k < R.m) (hl : l < R.m) : Am D (Nw.slideAt R s k l) := by
  unfold Am Nw.slideAt Nw.lesser
  simp only
  split
  · exact (gone_bd g ws hl _).int
  · exact (gone_bd g ws hk _).int
theorem am_slid {zs : List Nw.Slide} (ws : Ws R D s) (ok : Nw.SlidesOk R s zs) (a : ∀ z ∈ zs, Am D z) : ∀ i, Ws R D (Nw.behind s (zs.take i)) ∧ ∀ z, zs[i]? = some z → Nw.SlideOk R (Nw.behind s (zs.take i)) z := by
  induction zs generalizing s with
  | nil => exact fun i => ⟨by cases i <;> exact ws, fun z h => by simp at h⟩
  | cons y zs ih =>
    intro i
    cases i with
    | zero =>
      refine ⟨ws, fun z h => ?_⟩
      cases (show some y = some z from h)
      exact ok.1
    | succ i => exact ih (ws_slid ws ok.1 (a y (List.mem_cons_self ..))) ok.2 (fun z hz => a z (List.mem_cons_of_mem _ hz)) i
theorem fs_at {α β : Type} (f : α → Option β) : ∀ (l : List α) (i : Nat) {x : α} {y : β}, (∀ a ∈ l.take i, f a = none) → l[i]? = some x → f x = some y → l.findSome? f = some y
  | [], i, x, y, _, h, _ => by simp at h
  | a :: l, 0, x, y, _, h, e => by
    cases (show some a = some x from h)
    rw [List.findSome?_cons, e]
  | a :: l, i + 1, x, y, h0, h, e => by
    rw [List.findSome?_cons, h0 a (by simp)]
    exact fs_at f l i (fun b hb => h0 b (by rw [List.take_succ_cons]; exact List.mem_cons_of_mem _ hb)) h e
theorem fs_no {α β : Type} {f : α → Option β} {l : List α} (h : ∀ a ∈ l.take l.length, f a = none) : l.findSome? f = none := by
  rw [List.take_length] at h
  exact List.findSome?_eq_none_iff.mpr h
theorem fs_next {α β : Type} {f : α → Option β} {l : List α} {i : Nat} {x : α} (h : ∀ a ∈ l.take i, f a = none) (hx : l[i]? = some x) (e : f x = none) : ∀ a ∈ l.take (i + 1), f a = none := by
  rw [take_next hx]
  intro a ha
  rcases List.mem_append.mp ha with ha | ha
  · exact h a ha
  · rw [List.mem_singleton.mp ha]
    exact e
def bw : List Bool := [true, false]
theorem waysApart_eq {k l : Nat} : Nw.waysApart R k l = bw.findSome? fun a => bw.findSome? fun b => if Nw.aprt R k a l b = true then some (a, b) else none := by
  unfold Nw.waysApart Nw.bothWays bw
  simp only [List.find?_cons, List.findSome?_cons, List.find?_nil, List.findSome?_nil]
  cases Nw.aprt R k true l true <;> cases Nw.aprt R k true l false <;> cases Nw.aprt R k false l true <;> cases Nw.aprt R k false l false <;> simp
end
section
variable {P : Program} {w : World} {J : Ji} {K : PySem.W.Frag} {mg : Str → Option Value} {base : Heap}
theorem sh_Q (q : Rat) : SeqAt.shaped (eQ q) = true := by
  unfold SeqAt.shaped eQ
  simp [PyData.canLay0, PyData.canLayAll0, PyData.depth, PyData.depthAll]
theorem lays_all {ds : List PyData} (h : ∀ d ∈ ds, d.canLay0 = true ∧ d.depth ≤ 10) : PyData.canLayAll0 ds = true ∧ PyData.depthAll ds ≤ 10 := by
  induction ds with
  | nil => exact ⟨by simp [PyData.canLayAll0], by simp [PyData.depthAll]⟩
  | cons d ds ih =>
    obtain ⟨a, b⟩ := ih fun x hx => h x (List.mem_cons_of_mem _ hx)
    obtain ⟨c, e⟩ := h d (List.mem_cons_self ..)
    refine ⟨by simp [PyData.canLayAll0, a, c], ?_⟩
    simp only [PyData.depthAll]
    omega
theorem sh_L {ds : List PyData} (h : ∀ d ∈ ds, d.canLay0 = true ∧ d.depth ≤ 10) : SeqAt.shaped (.list ds) = true := by
  obtain ⟨a, b⟩ := lays_all h
  unfold SeqAt.shaped
  simp only [PyData.canLay0, PyData.depth, a, Bool.true_and]
  exact decide_eq_true (by omega)
theorem sh_Ns (l : List Nat) : SeqAt.shaped (eNs l) = true := sh_L fun d hd => by
  obtain ⟨n, _, rfl⟩ := List.mem_map.mp hd
  exact ⟨by simp [eN, PyData.canLay0], by simp [eN, PyData.depth]⟩
theorem eqv_Q (a b : Rat) : PyData.eqv (eQ a) (eQ b) = decide (a = b) := by
  unfold eQ
  simp only [PyData.eqv, PyData.eqvAll, Bool.and_true]
  rw [Bool.eq_iff_iff, Bool.and_eq_true, beq_iff_eq, beq_iff_eq, decide_eq_true_iff]
  constructor
  · rintro ⟨h1, h2⟩
    exact Rat.ext h1 (by omega)
  · rintro rfl
    exact ⟨rfl, rfl⟩
theorem eqv_nil {ds : List PyData} : PyData.eqv (.list ds) (.list []) = ds.isEmpty := by
  cases ds <;> simp [PyData.eqv, PyData.eqvAll]
theorem ed_inN {Γ : List Sl} {ta tb : TE} {i : Nat} {ns : List Nat} (ha : ED J K Γ ta (eN i)) (hb : EL J K Γ tb (ns.map eN)) : ED J K Γ (tOp (rIn K false) ta tb) (.bool (decide (i ∈ ns))) := by
  have e : ns.map eN = (ns.map fun n : Nat => (n : Int)).map .int := by rw [List.map_map]; rfl
  rw [e] at hb
  refine ed_is (ed_inL ha hb) (congrArg PyData.bool (decide_eq_decide.mpr ?_))
  rw [List.mem_map]
  constructor
  · rintro ⟨n, hn, e⟩
    have : n = i := by omega
    rw [← this]
    exact hn
  · exact fun h => ⟨i, h, rfl⟩
theorem ed_ninN {Γ : List Sl} {ta tb : TE} {i : Nat} {ns : List Nat} (ha : ED J K Γ ta (eN i)) (hb : EL J K Γ tb (ns.map eN)) : ED J K Γ (tOp (rIn K true) ta tb) (.bool (!decide (i ∈ ns))) := by
  have e : ns.map eN = (ns.map fun n : Nat => (n : Int)).map .int := by rw [List.map_map]; rfl
  rw [e] at hb
  refine ed_is (ed_ninL ha hb) (congrArg PyData.bool (congrArg not (decide_eq_decide.mpr ?_)))
  rw [List.mem_map]
  constructor
  · rintro ⟨n, hn, e⟩
    have : n = i := by omega
    rw [← this]
    exact hn
  · exact fun h => ⟨i, h, rfl⟩
theorem eb_on {Γ : List Sl} {te : TE} {b : Bool} (h : ED J K Γ te (eW b)) : EB J K Γ (tTest (tOp (rEqA K) te (tC (.str "on")))) b := eb_is (eb_test (ed_eqS (i := wS b) (j := "on") h ed_str)) (way_on b)
theorem sc_gone_by : FnScope ["ring", "sending", "k", "way"] ["ring", "sending", "k", "way"] (defScope s_gone_by) := ⟨rfl, rfl, rfl, by decide +kernel, rfl, by decide +kernel, by decide +kernel⟩
theorem has_gone_by (T : Tx K mg) (h_minus : Has P w K mg base 3 "minus" 2 P_minus) : Has P w K mg base 4 "gone_by" 4 P_gone_by := by
  refine has_mk (N := ["ring", "sending", "k", "way"]) (ps := ["ring", "sending", "k", "way"]) (k := 3) T.d_gone_by sc_gone_by (fun _ _ _ _ _ _ us hl => match us, hl with | [_, _, _, _], _ => rfl) (fun ds r hp => ?_) (fun f cdv A outer s H E hr => ⟨_, (pss_cons (ps_if (pt_cmpR (eqK K hr.units) (pv 3) (pe_gstr (by rfl) T.g_ON) (nomark _)) (pss_one (ps_ret (pe_ix (ixK K) (pv 1) (pv 2) (fun _ _ => rfl)))) pss_nil)
  (pss_one (ps_ret (pe_hasK h_minus (hr.mono (by decide)) (by rfl) (pa_cons (pe_ix (ixK K) (pe_ix (ixK K) (pe_ix (ixK K) (pv 0) pe_int (fun _ _ => rfl)) (pv 2) (fun _ _ => rfl)) pe_int (fun _ _ => rfl)) (pa_cons (pe_ix (ixK K) (pv 1) (pv 2) (fun _ _ => rfl)) pa_nil)))))), ?_⟩)
  · rcases hp with ⟨_, _, _, _, rfl, _⟩
    rfl
  rintro ds r ⟨R, s, k, b, rfl, ⟨D, g, ws⟩, hk, rfl⟩
  have hk' : k < s.length := by rw [ws.ok.len]; exact hk
  refine q2 (b := b) (eb_on (ed_var rfl)) (fun h => ?_) fun h => ?_
  · subst h
    exact sg_ret (ed_pt (ed_var rfl) (ed_var rfl) hk') rfl
  · subst h
    exact sg_ret (ed_minus (ed_size (ed_var rfl) (ed_var rfl) hk) (ed_pt (ed_var rfl) (ed_var rfl) hk') (g.z (g.size k hk)) (g.z (ws.bd g hk))) rfl
theorem sc_are_apart : FnScope ["ring", "k", "way", "l", "other", "ties", "tie"] ["ring", "k", "way", "l", "other"] (defScope s_are_apart) := ⟨rfl, rfl, rfl, by decide +kernel, rfl, by decide +kernel, by decide +kernel⟩
theorem has_are_apart (T : Tx K mg) (h_ties_of : Has P w K mg base 1 "ties_of" 3 P_ties_of) : Has P w K mg base 2 "are_apart" 5 P_are_apart := by
  refine has_mk (N := ["ring", "k", "way", "l", "other", "ties", "tie"]) (ps := ["ring", "k", "way", "l", "other"]) (k := 1) T.d_are_apart sc_are_apart (fun _ _ _ _ _ _ us hl => match us, hl with | [_, _, _, _, _], _ => rfl) (fun ds r hp => ?_) (fun f cdv A outer s H E hr => ⟨_, (pss_cons (ps_set (i := 5) sc_are_apart.nd rfl (Or.inr rfl) (pe_hasK h_ties_of (hr.mono (by decide)) (by rfl) (pa_cons (pv 0) (pa_cons (pv 3) (pa_cons (pv 4) pa_nil)))))
  (pss_one (ps_ret (pe_cmpR (eqK K hr.units) (pe_lc (own := [("tie", 6)]) (g := gName 6) rfl sc_are_apart.nd (pi_listK K (pe_hasK h_ties_of (hr.mono (by decide)) (by rfl) (pa_cons (pv 0) (pa_cons (pv 1) (pa_cons (pv 2) pa_nil))))) (blkOk_by (own := [("tie", 6)]) (N := ["ring", "k", "way", "l", "other", "ties", "tie"]) (sc := (defScope s_are_apart)) (by decide +kernel)) (fun _ _ _ _ _ => pg_name (i := 6) sc_are_apart.nd rfl (Or.inl rfl)) (fun _ _ _ _ _ => by exact (pts_one (pt_cmpR (inK K) (pv 6) (pv 5) (by rfl)))) (fun _ _ _ _ _ => by exact (pv 6))) (pe_lst pa_nil) (nomark _))))), ?_⟩)
  · rcases hp with ⟨_, _, _, _, _, rfl, _⟩
    rfl
  rintro ds r ⟨R, k, w, l, o, rfl, hk, hl, ok, n8, rfl⟩
  have ln : ∀ {k : Nat} {w : Bool}, k < R.m → (Nw.tiesOf R.n (R.at k) w).length ≤ 8 := fun {k w} hk => by
    have n0 : 0 < R.n := by have := ok.two; omega
    cases w with
    | true =>
      show (Nw.tiesOn R.n (R.at k)).length ≤ 8
      unfold Nw.tiesOn
      rw [List.length_map, List.length_range]
      have := Nat.mod_lt ((R.at k).other + R.n - (R.at k).one) n0
      omega
    | false =>
      show (Nw.tiesBack R.n (R.at k)).length ≤ 8
      unfold Nw.tiesBack
      rw [List.length_map, List.length_range]
      have := Nat.mod_lt ((R.at k).one + R.n - (R.at k).other) n0
      omega
  refine qd (ed_of_own (eg_call (ea_cons (ed_var rfl) (ea_cons (ed_var rfl) (ea_cons (ed_var rfl) ea_nil))) ⟨R, l, o, rfl, hl, ok, n8, rfl⟩)) ?_
  refine sg_ret (ed_is (ed_eqD (x := eNs ((Nw.tiesOf R.n (R.at k) w).filter fun i => decide (i ∈ Nw.tiesOf R.n (R.at l) o))) (y := .list []) (ed_of_own (own_is (lc_L (vs := [6]) (ds := (Nw.tiesOf R.n (R.at k) w).map eN) (fun i => decide ((Nw.tiesOf R.n (R.at k) w).getD i 0 ∈ Nw.tiesOf R.n (R.at l) o)) (fun i => eN ((Nw.tiesOf R.n (R.at k) w).getD i 0)) (fun i hi => by rw [List.mem_singleton.mp hi]; rfl) (by decide) (ed_of_own (eg_call (ea_cons (ed_var rfl) (ea_cons (ed_var rfl) (ea_cons (ed_var rfl) ea_nil))) ⟨R, k, w, rfl, hk, ok, n8, rfl⟩)) (by rw [List.length_map]; have := ln (w := w) hk; omega) (fun i d hd => ?_) (fun i d hd _ => ?_)) ?_)) (ed_of_own (own_lst ea_nil)) (sh_Ns _) (sh_L fun d hd => by simp at hd)) ?_) rfl
  · obtain ⟨t, e, rfl⟩ := map_at hd
    rw [List.getD_eq_getElem?_getD, e]
    exact eb_B (ed_inN (ed_var rfl) (el_dat (ed_var rfl)))
  · obtain ⟨t, e, rfl⟩ := map_at hd
    rw [List.getD_eq_getElem?_getD, e]
    exact ed_var rfl
  · rw [List.length_map]
    generalize Nw.tiesOf R.n (R.at k) w = l1
    generalize Nw.tiesOf R.n (R.at l) o = l2
    have e : l1 = (List.range l1.length).map fun i => l1.getD i 0 := by
      refine List.ext_getElem? fun i => ?_
      by_cases hi : i < l1.length
      · rw [List.getElem?_map, List.getElem?_range hi, List.getElem?_eq_getElem hi]
        show _ = some (l1.getD i 0)
        rw [List.getD_eq_getElem?_getD, List.getElem?_eq_getElem hi]
        rfl
      · rw [List.getElem?_eq_none (by omega), List.getElem?_eq_none (by rw [List.length_map, List.length_range]; omega)]
    unfold told
    conv => rhs; rw [e]
    rw [List.filter_map, List.map_map]
    rfl
  · unfold eNs
    rw [eqv_nil, List.isEmpty_map]
    rfl
theorem sc_is_slide : FnScope ["ring", "sending", "thing", "k", "way", "l", "other", "amount", "many"] ["ring", "sending", "thing"] (defScope s_is_slide) := ⟨rfl, rfl, rfl, by decide +kernel, rfl, by decide +kernel, by decide +kernel⟩
theorem has_is_slide (T : Tx K mg) (h_are_apart : Has P w K mg base 2 "are_apart" 5 P_are_apart) (h_gone_by : Has P w K mg base 4 "gone_by" 4 P_gone_by) (h_is_number : Has P w K mg base 2 "is_number" 2 P_is_number) (h_is_ratio : Has P w K mg base 2 "is_ratio" 1 P_is_ratio) (h_is_way : Has P w K mg base 1 "is_way" 1 P_is_way) (h_other_way : Has P w K mg base 1 "other_way" 1 P_other_way) (h_under : Has P w K mg base 1 "under" 2 P_under) : Has P w K mg base 5 "is_slide" 3 P_is_slide := by
  refine has_mk (N := ["ring", "sending", "thing", "k", "way", "l", "other", "amount", "many"]) (ps := ["ring", "sending", "thing"]) (k := 4) T.d_is_slide sc_is_slide (fun _ _ _ _ _ _ us hl => match us, hl with | [_, _, _], _ => rfl) (fun ds r hp => ?_) (fun f cdv A outer s H E hr => ⟨_, (pss_cons (ps_if (PW.pt (pw_or (pt_not (pt_val (pe_callB (isiK K) (by rfl) T.isinstance bb_isinstance (pa_cons (pv 2) (pa_cons (pe_bltn (v := .ty "tuple") (by rfl) T.tuple bb_tuple rfl) pa_nil))))) (pw_or1 (pt_cmpR (neK K hr.units) (pe_callB (lenK K) (by rfl) T.len bb_len (pa_cons (pv 2) pa_nil)) pe_int (nomark _))))) (pss_one (ps_ret pe_bl)) pss_nil)
  (pss_cons (ps_asg (pv 2) (pg_tupK K rfl (pgs_cons (pg_name (i := 3) sc_is_slide.nd rfl (Or.inl rfl)) (pgs_cons (pg_name (i := 4) sc_is_slide.nd rfl (Or.inl rfl)) (pgs_cons (pg_name (i := 5) sc_is_slide.nd rfl (Or.inl rfl)) (pgs_cons (pg_name (i := 6) sc_is_slide.nd rfl (Or.inl rfl)) (pgs_cons (pg_name (i := 7) sc_is_slide.nd rfl (Or.inl rfl)) pgs_nil)))))))
  (pss_cons (ps_set (i := 8) sc_is_slide.nd rfl (Or.inl rfl) (pe_callB (lenK K) (by rfl) T.len bb_len (pa_cons (pe_ix (ixK K) (pv 0) pe_int (fun _ _ => rfl)) pa_nil)))
  (pss_cons (ps_if (PW.pt (pw_or (pt_not (pt_val (pe_hasK h_is_number (hr.mono (by decide)) (by rfl) (pa_cons (pv 3) (pa_cons (pv 8) pa_nil))))) (pw_or (pt_not (pt_val (pe_hasK h_is_number (hr.mono (by decide)) (by rfl) (pa_cons (pv 5) (pa_cons (pv 8) pa_nil))))) (pw_or (pt_cmpR (eqK K hr.units) (pv 3) (pv 5) (nomark _)) (pw_or (pt_not (pt_val (pe_hasK h_is_way (hr.mono (by decide)) (by rfl) (pa_cons (pv 4) pa_nil)))) (pw_or1 (pt_not (pt_val (pe_hasK h_is_way (hr.mono (by decide)) (by rfl) (pa_cons (pv 6) pa_nil)))))))))) (pss_one (ps_ret pe_bl)) pss_nil)
  (pss_cons (ps_if (PW.pt (pw_or (pt_not (pt_val (pe_hasK h_is_ratio (hr.mono (by decide)) (by rfl) (pa_cons (pv 7) pa_nil)))) (pw_or1 (pt_not (pt_val (pe_hasK h_under (hr.mono (by decide)) (by rfl) (pa_cons (pe_glob (v := .ref 80) (by rfl) T.g_NOUGHT rfl) (pa_cons (pv 7) pa_nil)))))))) (pss_one (ps_ret pe_bl)) pss_nil)
  (pss_cons (ps_if (pt_val (pe_hasK h_under (hr.mono (by decide)) (by rfl) (pa_cons (pe_hasK h_gone_by (hr.mono (by decide)) (by rfl) (pa_cons (pv 0) (pa_cons (pv 1) (pa_cons (pv 3) (pa_cons (pe_hasK h_other_way (hr.mono (by decide)) (by rfl) (pa_cons (pv 4) pa_nil)) pa_nil))))) (pa_cons (pv 7) pa_nil)))) (pss_one (ps_ret pe_bl)) pss_nil)
  (pss_cons (ps_if (pt_val (pe_hasK h_under (hr.mono (by decide)) (by rfl) (pa_cons (pe_hasK h_gone_by (hr.mono (by decide)) (by rfl) (pa_cons (pv 0) (pa_cons (pv 1) (pa_cons (pv 5) (pa_cons (pe_hasK h_other_way (hr.mono (by decide)) (by rfl) (pa_cons (pv 6) pa_nil)) pa_nil))))) (pa_cons (pv 7) pa_nil)))) (pss_one (ps_ret pe_bl)) pss_nil)
  (pss_one (ps_ret (pe_hasK h_are_apart (hr.mono (by decide)) (by rfl) (pa_cons (pv 0) (pa_cons (pv 3) (pa_cons (pv 4) (pa_cons (pv 5) (pa_cons (pv 6) pa_nil))))))))))))))), ?_⟩)
  · rcases hp with ⟨_, _, _, rfl, _⟩
    rfl
  rintro ds r ⟨R, s, z, rfl, ⟨D, g, ws, am⟩, ok, rfl⟩
  have m8 := g.m8
  refine q0 (eb_or (a := false) (b := false) (eb_not (b := true) (eb_B (ed_isi (ed_var rfl) k_tt))) fun _ => eb_is (eb_test (ed_neI (ed_lenT (ed_var rfl)) ed_int)) (by simp)) ?_
  refine qu (is := [3, 4, 5, 6, 7]) (ds := [eN z.k, eW z.way, eN z.l, eW z.other, eQ z.amt]) (.cons (.cons (.cons (.cons (.cons .nil))))) (ed_var rfl) ?_
  refine qd (d := eN R.m) (ed_m (ed_var rfl)) ?_
  have zg : ∀ (k : Nat) (w : Bool), k < R.m → Z (Nw.gone R s k w) := fun k w hk => g.z (gone_bd g ws hk w)
  have za : Z z.amt := g.z (slide_bd g ws ok am)
  refine q0 (eb_or (a := false) (b := false) (eb_not (b := true) (eb_B (eg_call (ea_cons (ed_var rfl) (ea_cons (ed_var rfl) ea_nil)) ⟨z.k, R.m, rfl, ok.k, rfl⟩))) fun _ => eb_or (a := false) (b := false) (eb_not (b := true) (eb_B (eg_call (ea_cons (ed_var rfl) (ea_cons (ed_var rfl) ea_nil)) ⟨z.l, R.m, rfl, ok.l, rfl⟩))) fun _ => eb_or (a := false) (b := false) (eb_is (eb_test (ed_eqI (ed_var rfl) (ed_var rfl))) (decide_eq_false (by have := ok.ne; omega))) fun _ => eb_or (a := false) (b := false) (eb_not (b := true) (eb_B (eg_call (ea_cons (ed_var rfl) ea_nil) ⟨z.way, rfl, rfl⟩))) fun _ => eb_not (b := true) (eb_B (eg_call (ea_cons (ed_var rfl) ea_nil) ⟨z.other, rfl, rfl⟩))) ?_
  refine q0 (eb_or (a := false) (b := false) (eb_not (b := true) (eb_B (eg_call (ea_cons (ed_var rfl) ea_nil) ⟨z.amt, rfl, rfl⟩))) fun _ => eb_is (eb_not (eb_B (ed_under (ed_nought T) (ed_var rfl) Z.zero za))) (by rw [decide_eq_true ok.pos]; rfl)) ?_
  refine q0 (eb_is (eb_B (ed_under (a := Nw.gone R s z.k (!z.way)) (eg_call (ea_cons (ed_var rfl) (ea_cons (ed_var rfl) (ea_cons (ed_var rfl) (ea_cons (eg_call (ea_cons (ed_var rfl) ea_nil) ⟨z.way, rfl, rfl⟩) ea_nil)))) ⟨R, s, z.k, !z.way, rfl, ⟨D, g, ws⟩, ok.k, rfl⟩) (ed_var rfl) (zg _ _ ok.k) za)) (decide_eq_false (Rat.not_lt.mpr ok.le1))) ?_
  refine q0 (eb_is (eb_B (ed_under (a := Nw.gone R s z.l (!z.other)) (eg_call (ea_cons (ed_var rfl) (ea_cons (ed_var rfl) (ea_cons (ed_var rfl) (ea_cons (eg_call (ea_cons (ed_var rfl) ea_nil) ⟨z.other, rfl, rfl⟩) ea_nil)))) ⟨R, s, z.l, !z.other, rfl, ⟨D, g, ws⟩, ok.l, rfl⟩) (ed_var rfl) (zg _ _ ok.l) za)) (decide_eq_false (Rat.not_lt.mpr ok.le2))) ?_
  refine sg_ret (eg_call (ea_cons (ed_var rfl) (ea_cons (ed_var rfl) (ea_cons (ed_var rfl) (ea_cons (ed_var rfl) (ea_cons (ed_var rfl) ea_nil))))) ⟨R, z.k, z.way, z.l, z.other, rfl, ok.k, ok.l, g.ok, g.n8, rfl⟩) ?_
  rw [ok.ap]
theorem sc_moved : FnScope ["sending", "k", "way", "amount", "found"] ["sending", "k", "way", "amount"] (defScope s_moved) := ⟨rfl, rfl, rfl, by decide +kernel, rfl, by decide +kernel, by decide +kernel⟩
theorem has_moved (T : Tx K mg) (h_minus : Has P w K mg base 3 "minus" 2 P_minus) (h_plus : Has P w K mg base 3 "plus" 2 P_plus) : Has P w K mg base 4 "moved" 4 P_moved := by
  refine has_mk (N := ["sending", "k", "way", "amount", "found"]) (ps := ["sending", "k", "way", "amount"]) (k := 3) T.d_moved sc_moved (fun _ _ _ _ _ _ us hl => match us, hl with | [_, _, _, _], _ => rfl) (fun ds r hp => ?_) (fun f cdv A outer s H E hr => ⟨_, (pss_cons (ps_set (i := 4) sc_moved.nd rfl (Or.inl rfl) (pe_callTy (listK K) (by rfl) T.list bb_list (pa_cons (pv 0) pa_nil)))
  (pss_cons (ps_if (pt_cmpR (eqK K hr.units) (pv 2) (pe_gstr (by rfl) T.g_ON) (nomark _)) (pss_one (ps_asg (pe_hasK h_plus (hr.mono (by decide)) (by rfl) (pa_cons (pe_ix (ixK K) (pv 4) (pv 1) (fun _ _ => rfl)) (pa_cons (pv 3) pa_nil))) (pg_sub (pv 4) (pv 1) set_list))) (pss_one (ps_asg (pe_hasK h_minus (hr.mono (by decide)) (by rfl) (pa_cons (pe_ix (ixK K) (pv 4) (pv 1) (fun _ _ => rfl)) (pa_cons (pv 3) pa_nil))) (pg_sub (pv 4) (pv 1) set_list))))
  (pss_one (ps_ret (pv 4))))), ?_⟩)
  · rcases hp with ⟨_, _, _, _, rfl, _⟩
    rfl
  rintro ds r ⟨s, k, w, x, rfl, hk, s8, z1, z2, rfl⟩
  refine qo (own_listOf (el_dat (ed_var rfl))) ?_
  have rd : ∀ {Γ : List Sl}, Γ[4]? = some (.own (s.map eQ)) → Γ[1]? = some (.dat (eN k)) → ED J0 K Γ (tOp (rIx K) (tVar 4) (tVar 1)) (eQ (Nw.pt s k)) := fun h1 h2 => ed_ixL (el_own h1) (ed_var h2) (atI_at (at_pt hk))
  refine sg_seq (N' := fun Γ' => Γ' = [.dat (eS s), .dat (eN k), .dat (eW w), .dat (eQ x), .own ((Nw.moved s k w x).map eQ)]) (sg_if (b := w) (eb_on (ed_var rfl)) (fun h => ?_) fun h => ?_) ?_
  · subst h
    refine sg_put (j := k) (ed_plus (rd rfl rfl) (ed_var rfl) z1 z2) rfl (ed_var rfl) (by rw [List.length_map]; exact hk) ⟨_, Le.refl _, ?_⟩
    unfold Nw.moved
    rw [← List.map_set]
    rfl
  · subst h
    refine sg_put (j := k) (ed_minus (rd rfl rfl) (ed_var rfl) z1 z2) rfl (ed_var rfl) (by rw [List.length_map]; exact hk) ⟨_, Le.refl _, ?_⟩
    unfold Nw.moved
    rw [← List.map_set]
    rfl
  · rintro Γ' rfl
    exact sg_retO rfl rfl
theorem pt_moved_ne {s : List Rat} {k l : Nat} {w : Bool} {x : Rat} (hk : k < s.length) (ne : k ≠ l) : Nw.pt (Nw.moved s k w x) l = Nw.pt s l := by
  unfold Nw.moved
  rw [Nw.pt_set hk, if_neg fun z => ne z.symm]
theorem sc_slid : FnScope ["sending", "slide", "k", "way", "l", "other", "amount"] ["sending", "slide"] (defScope s_slid) := ⟨rfl, rfl, rfl, by decide +kernel, rfl, by decide +kernel, by decide +kernel⟩
theorem has_slid (T : Tx K mg) (h_moved : Has P w K mg base 4 "moved" 4 P_moved) : Has P w K mg base 5 "slid" 2 P_slid := by
  refine has_mk (N := ["sending", "slide", "k", "way", "l", "other", "amount"]) (ps := ["sending", "slide"]) (k := 4) T.d_slid sc_slid (fun _ _ _ _ _ _ us hl => match us, hl with | [_, _], _ => rfl) (fun ds r hp => ?_) (fun f cdv A outer s H E hr => ⟨_, (pss_cons (ps_asg (pv 1) (pg_tupK K rfl (pgs_cons (pg_name (i := 2) sc_slid.nd rfl (Or.inl rfl)) (pgs_cons (pg_name (i := 3) sc_slid.nd rfl (Or.inl rfl)) (pgs_cons (pg_name (i := 4) sc_slid.nd rfl (Or.inl rfl)) (pgs_cons (pg_name (i := 5) sc_slid.nd rfl (Or.inl rfl)) (pgs_cons (pg_name (i := 6) sc_slid.nd rfl (Or.inl rfl)) pgs_nil)))))))
  (pss_one (ps_ret (pe_hasK h_moved (hr.mono (by decide)) (by rfl) (pa_cons (pe_hasK h_moved (hr.mono (by decide)) (by rfl) (pa_cons (pv 0) (pa_cons (pv 2) (pa_cons (pv 3) (pa_cons (pv 6) pa_nil))))) (pa_cons (pv 4) (pa_cons (pv 5) (pa_cons (pv 6) pa_nil)))))))), ?_⟩)
  · rcases hp with ⟨_, _, rfl, _⟩
    rfl
  rintro ds r ⟨s, z, rfl, ⟨h1, h2, h3, h4⟩, z1, z2, z3, rfl⟩
  refine qu (is := [2, 3, 4, 5, 6]) (ds := [eN z.k, eW z.way, eN z.l, eW z.other, eQ z.amt]) (.cons (.cons (.cons (.cons (.cons .nil))))) (ed_var rfl) ?_
  exact sg_ret (eg_call (ea_cons (ed_of_own (eg_call (ea_cons (ed_var rfl) (ea_cons (ed_var rfl) (ea_cons (ed_var rfl) (ea_cons (ed_var rfl) ea_nil)))) ⟨s, z.k, z.way, z.amt, rfl, h1, h4, z1, z3, rfl⟩)) (ea_cons (ed_var rfl) (ea_cons (ed_var rfl) (ea_cons (ed_var rfl) ea_nil)))) ⟨Nw.moved s z.k z.way z.amt, z.l, z.other, z.amt, rfl, by rw [Nw.moved_len]; exact h2, by rw [Nw.moved_len]; exact h4, by rw [pt_moved_ne h1 h3]; exact z2, z3, rfl⟩) rfl
theorem p_slid {R : Nw.Ring} {D : Nat} {s : List Rat} {z : Nw.Slide} (g : Rg R D) (ws : Ws R D s) (ok : Nw.SlideOk R s z) (am : Am D z) : P_slid [eS s, eZ z] (.own ((Nw.slid s z).map eQ)) :=
  ⟨s, z, rfl, ⟨by rw [ws.ok.len]; exact ok.k, by rw [ws.ok.len]; exact ok.l, ok.ne, by rw [ws.ok.len]; exact g.m8⟩, g.z (ws.bd g ok.k), g.z (ws.bd g ok.l), g.z (slide_bd g ws ok am), rfl⟩
theorem sc_slid_by : FnScope ["ring", "sending", "thing", "found", "number", "one"] ["ring", "sending", "thing"] (defScope s_slid_by) := ⟨rfl, rfl, rfl, by decide +kernel, rfl, by decide +kernel, by decide +kernel⟩
theorem has_slid_by (T : Tx K mg) (h_is_slide : Has P w K mg base 5 "is_slide" 3 P_is_slide) (h_slid : Has P w K mg base 5 "slid" 2 P_slid) : Has P w K mg base 6 "slid_by" 3 P_slid_by := by
  refine has_mk (N := ["ring", "sending", "thing", "found", "number", "one"]) (ps := ["ring", "sending", "thing"]) (k := 5) T.d_slid_by sc_slid_by (fun _ _ _ _ _ _ us hl => match us, hl with | [_, _, _], _ => rfl) (fun ds r hp => ?_) (fun f cdv A outer s H E hr => ⟨_, (pss_cons (ps_if (pt_not (pt_val (pe_callB (isiK K) (by rfl) T.isinstance bb_isinstance (pa_cons (pv 2) (pa_cons (pe_bltn (v := .ty "list") (by rfl) T.list bb_list rfl) pa_nil))))) (pss_one ps_never) pss_nil)
  (pss_cons (ps_set (i := 3) sc_slid_by.nd rfl (Or.inl rfl) (pe_callTy (listK K) (by rfl) T.list bb_list (pa_cons (pv 1) pa_nil)))
  (pss_cons (ps_for PassesOwn.never rfl (pi_enumK K (by rfl) T.enumerate (pa_cons (pv 2) pa_nil)) (pg_tupK K rfl (pgs_cons (pg_name (i := 4) sc_slid_by.nd rfl (Or.inl rfl)) (pgs_cons (pg_name (i := 5) sc_slid_by.nd rfl (Or.inl rfl)) pgs_nil)))
  (pss_cons (ps_if (pt_not (pt_val (pe_hasK h_is_slide (hr.mono (by decide)) (by rfl) (pa_cons (pv 0) (pa_cons (pv 3) (pa_cons (pv 5) pa_nil)))))) (pss_one ps_never) pss_nil)
  (pss_one (ps_set (i := 3) sc_slid_by.nd rfl (Or.inl rfl) (pe_hasK h_slid (hr.mono (by decide)) (by rfl) (pa_cons (pv 3) (pa_cons (pv 5) pa_nil)))))))
  (pss_one (ps_ret (pv 3)))))), ?_⟩)
  · rcases hp with ⟨_, _, _, rfl, _⟩
    rfl
  rintro ds r ⟨R, s, zs, rfl, ⟨D, g, ws, am⟩, ok, rfl⟩
  refine q0 (eb_not (b := true) (eb_B (ed_isi (ed_var rfl) k_ll))) ?_
  refine qd (d := eS s) (ed_of_own (own_listOf (el_dat (ed_var rfl)))) ?_
  have key := am_slid ws ok am
  refine sg_seq (N' := fun Γ' => Γ' = [.dat (eRing R), .dat (eS s), .dat (eZs zs), .dat (eS (Nw.behind s zs)), .un, .un]) (sg_forE (fun i Γ' => Γ' = [.dat (eRing R), .dat (eS s), .dat (eZs zs), .dat (eS (Nw.behind s (zs.take i))), .un, .un]) (ed_var rfl) ⟨_, .same (.same (.same (.same (.un (.un .nil))))), rfl⟩ ?_ ?_) ?_
  · rintro i d Γ' hd rfl
    obtain ⟨z, hz, rfl⟩ := map_at hd
    obtain ⟨w1, w2⟩ := key i
    have zo := w2 z hz
    have za := am z (List.mem_of_getElem? hz)
    refine q0 (eb_not (b := true) (eb_B (eg_call (ea_cons (ed_var rfl) (ea_cons (ed_var rfl) (ea_cons (ed_var rfl) ea_nil))) ⟨R, _, z, rfl, ⟨D, g, w1, za⟩, zo, rfl⟩))) ?_
    refine sg_asg (ed_of_own (eg_call (ea_cons (ed_var rfl) (ea_cons (ed_var rfl) ea_nil)) (p_slid g w1 zo za))) ⟨_, .same (.same (.same (.same (.un (.un .nil))))), lq_refl ?_⟩
    rw [take_next hz]
    unfold Nw.behind
    rw [List.foldl_append]
    rfl
  · rintro Γ' rfl
    refine lq_refl ?_
    rw [List.length_map, List.take_length]
  · rintro Γ' rfl
    exact sg_ret (ed_var rfl) rfl
theorem sc_ways_apart : FnScope ["ring", "k", "l", "way", "other"] ["ring", "k", "l"] (defScope s_ways_apart) := ⟨rfl, rfl, rfl, by decide +kernel, rfl, by decide +kernel, by decide +kernel⟩
theorem has_ways_apart (T : Tx K mg) (h_are_apart : Has P w K mg base 2 "are_apart" 5 P_are_apart) : Has P w K mg base 3 "ways_apart" 3 P_ways_apart := by
  refine has_mk (N := ["ring", "k", "l", "way", "other"]) (ps := ["ring", "k", "l"]) (k := 2) T.d_ways_apart sc_ways_apart (fun _ _ _ _ _ _ us hl => match us, hl with | [_, _, _], _ => rfl) (fun ds r hp => ?_) (fun f cdv A outer s H E hr => ⟨_, (pss_cons (ps_for PassesOwn.never rfl (pi_tupK K (pe_glob (v := .ref 366) (by rfl) T.g_BOTH rfl)) (pg_name (i := 3) sc_ways_apart.nd rfl (Or.inl rfl))
  (pss_one (ps_for PassesOwn.never rfl (pi_tupK K (pe_glob (v := .ref 366) (by rfl) T.g_BOTH rfl)) (pg_name (i := 4) sc_ways_apart.nd rfl (Or.inl rfl))
  (pss_one (ps_if (pt_val (pe_hasK h_are_apart (hr.mono (by decide)) (by rfl) (pa_cons (pv 0) (pa_cons (pv 1) (pa_cons (pv 3) (pa_cons (pv 2) (pa_cons (pv 4) pa_nil))))))) (pss_one (ps_ret (pe_tup (pa_cons (pv 3) (pa_cons (pv 4) pa_nil))))) pss_nil)))))
  (pss_one (ps_ret pe_non))), ?_⟩)
  · rcases hp with ⟨_, _, _, rfl, _⟩
    rfl
  rintro ds r ⟨R, k, l, rfl, hk, hl, ok, n8, rfl⟩
  refine sg_seq (N' := fun Γ' => Γ' = [.dat (eRing R), .dat (eN k), .dat (eN l), .un, .un] ∧ Nw.waysApart R k l = none) (sg_forT (ds := bw.map eW) (fun i Γ' => Γ' = [.dat (eRing R), .dat (eN k), .dat (eN l), .un, .un] ∧ ∀ a ∈ bw.take i, (bw.findSome? fun b => if Nw.aprt R k a l b = true then some (a, b) else none) = none) (ed_both T) ⟨_, .same (.same (.same (.un (.un .nil)))), rfl, fun a ha => by simp at ha⟩ ?_ ?_) ?_
  · rintro i d Γ' hd ⟨rfl, pre⟩
    obtain ⟨a, ha, rfl⟩ := map_at hd
    refine sg_forT (ds := bw.map eW) (fun j Γ' => Γ' = [.dat (eRing R), .dat (eN k), .dat (eN l), .dat (eW a), .un] ∧ ∀ b ∈ bw.take j, (if Nw.aprt R k a l b = true then some (a, b) else none) = none) (ed_both T) ⟨_, .same (.same (.same (.same (.un .nil)))), rfl, fun a ha => by simp at ha⟩ ?_ ?_
    · rintro j d Γ' hd ⟨rfl, pre2⟩
      obtain ⟨b, hb, rfl⟩ := map_at hd
      refine sg_if (b := Nw.aprt R k a l b) (eb_B (eg_call (ea_cons (ed_var rfl) (ea_cons (ed_var rfl) (ea_cons (ed_var rfl) (ea_cons (ed_var rfl) (ea_cons (ed_var rfl) ea_nil))))) ⟨R, k, a, l, b, rfl, hk, hl, ok, n8, rfl⟩)) (fun h => ?_) fun h => ?_
      · refine sg_ret (ed_tup (ea_cons (ed_var rfl) (ea_cons (ed_var rfl) ea_nil))) ?_
        rw [waysApart_eq, fs_at _ bw i pre ha (fs_at _ bw j pre2 hb (if_pos h))]
        rfl
      · refine sg_next ⟨_, .same (.same (.same (.same (.un .nil)))), lq_refl ⟨rfl, fs_next pre2 hb (if_neg (by rw [h]; decide))⟩⟩
    · rintro Γ' ⟨rfl, pre2⟩
      refine ⟨_, .same (.same (.same (.un (.un .nil)))), lq_refl ⟨rfl, fs_next pre ha (fs_no pre2)⟩⟩
  · rintro Γ' ⟨rfl, pre⟩
    refine lq_refl ⟨rfl, ?_⟩
    rw [waysApart_eq]
    exact fs_no pre
  · rintro Γ' ⟨rfl, e⟩
    refine sg_ret ed_non ?_
    rw [e]
    rfl
theorem sc_next_slide : FnScope ["ring", "sending", "parted", "k", "l", "way", "other", "first", "second"] ["ring", "sending"] (defScope s_next_slide) := ⟨rfl, rfl, rfl, by decide +kernel, rfl, by decide +kernel, by decide +kernel⟩
theorem has_next_slide (T : Tx K mg) (h_do_cross : Has P w K mg base 1 "do_cross" 3 P_do_cross) (h_gone_by : Has P w K mg base 4 "gone_by" 4 P_gone_by) (h_lesser : Has P w K mg base 2 "lesser" 2 P_lesser) (h_other_way : Has P w K mg base 1 "other_way" 1 P_other_way) (h_parted_in : Has P w K mg base 3 "parted_in" 2 P_parted_in) (h_ways_apart : Has P w K mg base 3 "ways_apart" 3 P_ways_apart) : Has P w K mg base 5 "next_slide" 2 P_next_slide := by
  refine has_mk (N := ["ring", "sending", "parted", "k", "l", "way", "other", "first", "second"]) (ps := ["ring", "sending"]) (k := 4) T.d_next_slide sc_next_slide (fun _ _ _ _ _ _ us hl => match us, hl with | [_, _], _ => rfl) (fun ds r hp => ?_) (fun f cdv A outer s H E hr => ⟨_, (pss_cons (ps_set (i := 2) sc_next_slide.nd rfl (Or.inl rfl) (pe_hasK h_parted_in (hr.mono (by decide)) (by rfl) (pa_cons (pv 0) (pa_cons (pv 1) pa_nil))))
  (pss_cons (ps_for PassesOwn.never rfl (pi_listK K (pv 2)) (pg_name (i := 3) sc_next_slide.nd rfl (Or.inl rfl))
  (pss_one (ps_for PassesOwn.never rfl (pi_listK K (pv 2)) (pg_name (i := 4) sc_next_slide.nd rfl (Or.inl rfl))
  (pss_one (ps_if (PW.pt (pw_and (pt_cmpR op_lt (pv 3) (pv 4) (nomark _)) (pw_and1 (pt_not (pt_val (pe_hasK h_do_cross (hr.mono (by decide)) (by rfl) (pa_cons (pv 0) (pa_cons (pv 3) (pa_cons (pv 4) pa_nil))))))))) (pss_cons (ps_asg (pe_hasK h_ways_apart (hr.mono (by decide)) (by rfl) (pa_cons (pv 0) (pa_cons (pv 3) (pa_cons (pv 4) pa_nil)))) (pg_tupK K rfl (pgs_cons (pg_name (i := 5) sc_next_slide.nd rfl (Or.inl rfl)) (pgs_cons (pg_name (i := 6) sc_next_slide.nd rfl (Or.inl rfl)) pgs_nil))))
  (pss_cons (ps_set (i := 7) sc_next_slide.nd rfl (Or.inl rfl) (pe_hasK h_gone_by (hr.mono (by decide)) (by rfl) (pa_cons (pv 0) (pa_cons (pv 1) (pa_cons (pv 3) (pa_cons (pe_hasK h_other_way (hr.mono (by decide)) (by rfl) (pa_cons (pv 5) pa_nil)) pa_nil))))))
  (pss_cons (ps_set (i := 8) sc_next_slide.nd rfl (Or.inl rfl) (pe_hasK h_gone_by (hr.mono (by decide)) (by rfl) (pa_cons (pv 0) (pa_cons (pv 1) (pa_cons (pv 4) (pa_cons (pe_hasK h_other_way (hr.mono (by decide)) (by rfl) (pa_cons (pv 6) pa_nil)) pa_nil))))))
  (pss_one (ps_ret (pe_tup (pa_cons (pv 3) (pa_cons (pv 5) (pa_cons (pv 4) (pa_cons (pv 6) (pa_cons (pe_hasK h_lesser (hr.mono (by decide)) (by rfl) (pa_cons (pv 7) (pa_cons (pv 8) pa_nil))) pa_nil))))))))))) pss_nil)))))
  (pss_one (ps_ret pe_non)))), ?_⟩)
  · rcases hp with ⟨_, _, rfl, _⟩
    rfl
  rintro ds r ⟨R, s, rfl, ⟨D, g, ws⟩, rfl⟩
  refine qd (d := eNs (Nw.partedL R s)) (ed_of_own (eg_call (ea_cons (ed_var rfl) (ea_cons (ed_var rfl) ea_nil)) ⟨R, s, rfl, ⟨D, g, ws⟩, rfl⟩)) ?_
  refine sg_seq (N' := fun Γ' => Γ' = [.dat (eRing R), .dat (eS s), .dat (eNs (Nw.partedL R s)), .un, .un, .un, .un, .un, .un] ∧ Nw.nextSlide R s = none) (sg_forL (fun i Γ' => Γ' = [.dat (eRing R), .dat (eS s), .dat (eNs (Nw.partedL R s)), .un, .un, .un, .un, .un, .un] ∧ ∀ a ∈ (Nw.partedL R s).take i, ((Nw.partedL R s).findSome? fun l => if a < l ∧ Nw.cross (R.at a) (R.at l) = false then some (Nw.slideAt R s a l) else none) = none) (ed_var rfl) ⟨_, Le.refl _, rfl, fun a ha => by simp at ha⟩ ?_ ?_) ?_
  · rintro i d Γ' hd ⟨rfl, pre⟩
    obtain ⟨k, hk, rfl⟩ := map_at hd
    have km := (Nw.mem_partedL.mp (List.mem_of_getElem? hk)).1
    refine sg_forL (fun j Γ' => Γ' = [.dat (eRing R), .dat (eS s), .dat (eNs (Nw.partedL R s)), .dat (eN k), .un, .un, .un, .un, .un] ∧ ∀ l ∈ (Nw.partedL R s).take j, (if k < l ∧ Nw.cross (R.at k) (R.at l) = false then some (Nw.slideAt R s k l) else none) = none) (ed_var rfl) ⟨_, Le.refl _, rfl, fun a ha => by simp at ha⟩ ?_ ?_
    · rintro j d Γ' hd ⟨rfl, pre2⟩
      obtain ⟨l, hl, rfl⟩ := map_at hd
      have lm := (Nw.mem_partedL.mp (List.mem_of_getElem? hl)).1
      refine sg_if (b := decide (k < l) && !Nw.cross (R.at k) (R.at l)) (eb_and (eb_is (eb_test (ed_opB (ed_var rfl) (ed_var rfl))) (decide_eq_decide.mpr (by omega))) fun h => eb_not (eb_B (eg_call (ea_cons (ed_var rfl) (ea_cons (ed_var rfl) (ea_cons (ed_var rfl) ea_nil))) ⟨R, k, l, rfl, km, lm, rfl⟩))) (fun h => ?_) fun h => ?_
      · have h' : k < l ∧ Nw.cross (R.at k) (R.at l) = false := by simpa using h
        obtain ⟨w, e1, e2⟩ := Nw.exists_apart g.ok km lm h'.2
        have esl : Nw.slideAt R s k l = ⟨k, w.1, l, w.2, Nw.lesser (Nw.gone R s k (!w.1)) (Nw.gone R s l (!w.2))⟩ := by
          unfold Nw.slideAt
          rw [e1]
          rfl
        refine qu (is := [5, 6]) (ds := [eW w.1, eW w.2]) (.cons (.cons .nil)) (ed_is (eg_call (ea_cons (ed_var rfl) (ea_cons (ed_var rfl) (ea_cons (ed_var rfl) ea_nil))) ⟨R, k, l, rfl, km, lm, g.ok, g.n8, rfl⟩) (by rw [e1]; rfl)) ?_
        refine qd (d := eQ (Nw.gone R s k (!w.1))) (eg_call (ea_cons (ed_var rfl) (ea_cons (ed_var rfl) (ea_cons (ed_var rfl) (ea_cons (eg_call (ea_cons (ed_var rfl) ea_nil) ⟨w.1, rfl, rfl⟩) ea_nil)))) ⟨R, s, k, !w.1, rfl, ⟨D, g, ws⟩, km, rfl⟩) ?_
        refine qd (d := eQ (Nw.gone R s l (!w.2))) (eg_call (ea_cons (ed_var rfl) (ea_cons (ed_var rfl) (ea_cons (ed_var rfl) (ea_cons (eg_call (ea_cons (ed_var rfl) ea_nil) ⟨w.2, rfl, rfl⟩) ea_nil)))) ⟨R, s, l, !w.2, rfl, ⟨D, g, ws⟩, lm, rfl⟩) ?_
        refine sg_ret (ed_tup (ea_cons (ed_var rfl) (ea_cons (ed_var rfl) (ea_cons (ed_var rfl) (ea_cons (ed_var rfl) (ea_cons (ed_lesser (ed_var rfl) (ed_var rfl) (g.z (gone_bd g ws km _)) (g.z (gone_bd g ws lm _))) ea_nil)))))) ?_
        have e3 : Nw.nextSlide R s = some (Nw.slideAt R s k l) := fs_at _ _ i pre hk (fs_at _ _ j pre2 hl (if_pos h'))
        rw [e3, esl]
        rfl
      · have h' : ¬ (k < l ∧ Nw.cross (R.at k) (R.at l) = false) := by simpa using h
        exact sg_next ⟨_, .same (.same (.same (.same (.un (.un (.un (.un (.un .nil)))))))), lq_refl ⟨rfl, fs_next pre2 hl (if_neg h')⟩⟩
    · rintro Γ' ⟨rfl, pre2⟩
      rw [List.length_map] at pre2
      exact ⟨_, .same (.same (.same (.un (.un (.un (.un (.un (.un .nil)))))))), lq_refl ⟨rfl, fs_next pre hk (fs_no pre2)⟩⟩
  · rintro Γ' ⟨rfl, pre⟩
    rw [List.length_map] at pre
    exact lq_refl ⟨rfl, fs_no pre⟩
  · rintro Γ' ⟨rfl, e⟩
    refine sg_ret ed_non ?_
    rw [e]
    rfl
theorem sc_slides_for : FnScope ["ring", "sending", "found", "here", "slide"] ["ring", "sending"] (defScope s_slides_for) := ⟨rfl, rfl, rfl, by decide +kernel, rfl, by decide +kernel, by decide +kernel⟩
theorem has_slides_for (T : Tx K mg) (h_next_slide : Has P w K mg base 5 "next_slide" 2 P_next_slide) (h_slid : Has P w K mg base 5 "slid" 2 P_slid) : Has P w K mg base 6 "slides_for" 2 P_slides_for := by
  refine has_mk (N := ["ring", "sending", "found", "here", "slide"]) (ps := ["ring", "sending"]) (k := 5) T.d_slides_for sc_slides_for (fun _ _ _ _ _ _ us hl => match us, hl with | [_, _], _ => rfl) (fun ds r hp => ?_) (fun f cdv A outer s H E hr => ⟨_, (pss_cons (ps_set (i := 2) sc_slides_for.nd rfl (Or.inl rfl) (pe_lst pa_nil))
  (pss_cons (ps_set (i := 3) sc_slides_for.nd rfl (Or.inl rfl) (pe_callTy (listK K) (by rfl) T.list bb_list (pa_cons (pv 1) pa_nil)))
  (pss_cons (ps_set (i := 4) sc_slides_for.nd rfl (Or.inl rfl) (pe_hasK h_next_slide (hr.mono (by decide)) (by rfl) (pa_cons (pv 0) (pa_cons (pv 3) pa_nil))))
  (pss_cons (ps_while PassesOwn.never (pt_cmp (pc_notN (pv 4)) rfl)
  (pss_cons (ps_expr (pe_bm PySem.F.plainAttrs_list PySem.F.slot_list_append PySem.F.type_list_append mt_append (pv 2) (pa_cons (pv 4) pa_nil)))
  (pss_cons (ps_set (i := 3) sc_slides_for.nd rfl (Or.inl rfl) (pe_hasK h_slid (hr.mono (by decide)) (by rfl) (pa_cons (pv 3) (pa_cons (pv 4) pa_nil))))
  (pss_one (ps_set (i := 4) sc_slides_for.nd rfl (Or.inl rfl) (pe_hasK h_next_slide (hr.mono (by decide)) (by rfl) (pa_cons (pv 0) (pa_cons (pv 3) pa_nil))))))))
  (pss_one (ps_ret (pv 2))))))), ?_⟩)
  · rcases hp with ⟨_, _, rfl, _⟩
    rfl
  rintro ds r ⟨R, s, rfl, ⟨D, g, ws⟩, rfl⟩
  have m8 := g.m8
  refine qo (own_lst ea_nil) ?_
  refine qd (d := eS s) (ed_of_own (own_listOf (el_dat (ed_var rfl)))) ?_
  refine qd (d := zD (Nw.nextSlide R s)) (eg_call (ea_cons (ed_var rfl) (ea_cons (ed_var rfl) ea_nil)) ⟨R, s, rfl, ⟨D, g, ws⟩, rfl⟩) ?_
  refine sg_seq (N' := fun Γ' => ∃ x y, Γ' = [.dat (eRing R), .dat (eS s), .own ((Nw.slidesFor R s).map eZ), x, y]) (sg_while (fun m Γ' => ∃ pre here, Γ' = [.dat (eRing R), .dat (eS s), .own (List.map eZ pre), .dat (eS here), .dat (zD (Nw.nextSlide R here))] ∧ Nw.slidesFor R s = pre ++ Nw.slidesGo R m here ∧ (Nw.partedL R here).length < m ∧ Ws R D here ∧ pre.length + m ≤ R.m + 1) (R.m + 1) ⟨_, Le.refl _, [], s, rfl, rfl, by have := Nw.partedL_len (R := R) (s := s); omega, ws, by simp⟩ ?_) ?_
  · rintro m Γ' ⟨pre, here, rfl, e1, e2, wh, e3⟩
    obtain ⟨m, rfl⟩ : ∃ m', m = m' + 1 := ⟨m - 1, by omega⟩
    cases e : Nw.nextSlide R here with
    | none =>
      refine ⟨false, eb_is (eb_B (ed_notN (x := .none) (ed_var rfl))) rfl, fun z => (by cases z), fun _ => lq_refl ?_⟩
      unfold Nw.slidesGo at e1
      rw [e] at e1
      simp only [List.append_nil] at e1
      exact ⟨_, _, by rw [e1]⟩
    | some z =>
      obtain ⟨k, l, hk, hl, kl, nc, rfl⟩ := Nw.nextSlide_some e
      have zo := Nw.slideAt_ok g.ok hk hl kl nc
      have za := slideAt_am wh g (Nw.mem_partedL.mp hk).1 (Nw.mem_partedL.mp hl).1
      have ls := Nw.slide_less g.ok wh.ok hk hl kl nc
      have w2 := ws_slid wh zo za
      refine ⟨true, eb_is (eb_B (ed_notN (x := eZ (Nw.slideAt R here k l)) (ed_var rfl))) rfl, fun _ => ?_, fun z => by cases z⟩
      refine sg_seq (N' := fun Γ' => Γ' = [.dat (eRing R), .dat (eS s), .own (List.map eZ pre ++ [eZ (Nw.slideAt R here k l)]), .dat (eS here), .dat (eZ (Nw.slideAt R here k l))]) (sg_app rfl (ed_var rfl) (by rw [List.length_map]; omega) (lq_refl rfl)) ?_
      rintro Γ' rfl
      refine qd (d := eS (Nw.slid here (Nw.slideAt R here k l))) (ed_of_own (eg_call (ea_cons (ed_var rfl) (ea_cons (ed_var rfl) ea_nil)) (p_slid g wh zo za))) ?_
      refine sg_asg (d := zD (Nw.nextSlide R (Nw.slid here (Nw.slideAt R here k l)))) (eg_call (ea_cons (ed_var rfl) (ea_cons (ed_var rfl) ea_nil)) ⟨R, _, rfl, ⟨D, g, w2⟩, rfl⟩) (lq_refl (lq_refl ⟨m, by omega, pre ++ [Nw.slideAt R here k l], Nw.slid here (Nw.slideAt R here k l), ?_, ?_, by omega, w2, by rw [List.length_append]; show pre.length + 1 + m ≤ _; omega⟩))
      · rw [List.map_append]
        rfl
      · rw [e1]
        conv => lhs; unfold Nw.slidesGo
        rw [e, List.append_assoc]
        rfl
  · rintro Γ' ⟨x, y, rfl⟩
    exact sg_retO rfl rfl
end
end NwB
end NwC1_
section NwK_
set_option Elab.async false
set_option linter.all false
set_option maxRecDepth 100000
set_option maxHeartbeats 4000000
namespace NwB
open PySem PySem.Spec PyProof.Rows L2 NwT
open Evl (Ex)
/-! ### min of a tuple of ints -/
section
variable {prog : Program} {w : World} {A : Around} {E : Value → Shared → Prop} {s : Shared} {l : Addr}
theorem min_tup {xs : Array (Int × Tok)} {Q : Value → Shared → Prop} (hh : A.handled = none) (hT : s.heap.IsTuple l (intItems xs)) (hne : 0 < xs.size)
    (h : ∀ v h' tk, (intItems xs)[argBest (fun i j => decide (numAt xs i < numAt xs j)) (xs.size - 1)]? = some v → (∀ b o, s.heap.get? b = some o → h'.get? b = some o) → Q v { s with heap := h', toks := tk }) :
    wpAny (model prog w) A (call (.builtin "min") [.ref l]) Q E s := by
  have hlt : l < s.heap.objs.size := by obtain ⟨_, e, _⟩ := hT; exact Heap.lt_size e
  refine call_min_walk (wpAny_pyIter_tuple hT ?_)
  refine ⟨_, [_, l], [_], _, _, _, _, rfl, Walks.tuple (A := A.in1) hh _ l (Nat.ne_of_lt hlt) (intItems xs),
    ⟨⟨_, Heap.get?_push_size _ rfl, rfl, rfl⟩, hT.push _⟩, fun c hc => ?_, by simpa [intItems] using hne, CmpOf.ints_lt (numAt xs) (fun _ _ => intItems_at), fun v h' tk hP hk => ?_⟩
  · show c < (s.heap.push _).objs.size
    rw [Heap.size_push]
    rcases List.mem_cons.mp hc with rfl | hc
    · exact Nat.lt_succ_self _
    · rcases List.mem_cons.mp hc with rfl | hc
      · exact Nat.lt_succ_of_lt hlt
      · cases hc
  · refine h v h' tk (by simpa [intItems] using hP) fun c o e => hk c o (fun hm => ?_) (Heap.get?_push_of_some _ e)
    rcases List.mem_cons.mp hm with e1 | hm
    · have := Heap.lt_size e
      rw [e1] at this
      exact Nat.lt_irrefl _ this
    · cases hm
theorem min_rawT {its : List Value} {ns : List Int} {Q : Value → Shared → Prop} (hh : A.handled = none) (hl : s.heap.IsTuple l its.toArray) (hi : IntsAre its ns) (hne : 0 < ns.length)
    (h : ∀ h' tk M t', (∀ b o, s.heap.get? b = some o → h'.get? b = some o) → M ∈ ns → (∀ a, a ∈ ns → M ≤ a) → Q (.int M t') { s with heap := h', toks := tk }) : wpAny (model prog w) A (call (.builtin "min") [.ref l]) Q E s := by
  obtain ⟨xs, e⟩ := hi.allInts.items
  have hn : numsOf (intItems xs).toList = ns := by rw [← e]; exact hi.numsOf
  rw [nums_intItems] at hn
  subst hn
  rw [e] at hl
  have hsz : 0 < xs.size := by simpa using hne
  refine min_tup hh hl hsz fun v h' tk hv hk => ?_
  obtain ⟨t, rfl⟩ := intItems_at hv
  obtain ⟨h1, h2⟩ := argBest_lt (numAt xs) (xs.size - 1)
  refine h h' tk _ t hk ?_ fun a ha => ?_
  · rw [numAt_eq]
    exact PySem.getD_mem (by rw [List.length_map, Array.length_toList]; omega)
  · obtain ⟨j, hj, rfl⟩ := mem_getD ha
    rw [List.length_map, Array.length_toList] at hj
    rw [← numAt_eq]
    exact h2 j (by omega)
end
def rMinT (K : PySem.W.Frag) : List V → Hp → VK → Prop := fun vs H Q => ∃ (a : Addr) (ns : List Int), vs = [V.ref a] ∧ SqT K H a (ns.map V.int) ∧ 0 < ns.length ∧ ∀ m, m ∈ ns → (∀ y, y ∈ ns → m ≤ y) → Q (.int m) H
section
variable {X : Cx}
theorem cr_minT (hc : X.calm = true) : CallR X (.builtin "min") (rMinT X.K) := by
  intro pins s σ H vs us Q I r h
  obtain ⟨a, ns, rfl, hs, hne, q⟩ := h
  obtain ⟨its, rv, hl, _⟩ := I.tuple hs
  rw [Vals.ref1 r]
  exact min_rawT (I.ok.hd hc) (show s.heap.IsTuple a its.toArray from hl) rv.ints hne fun h' tk m t' hk h1 h2 => ⟨.int _, H, I.kept hk, ⟨_, rfl⟩, q m h1 h2⟩
theorem minTK (K : PySem.W.Frag) (hc : X.calm = true := by rfl) (e : X.K = K := by rfl) : CallR X (.builtin "min") (rMinT K) := by subst e; exact cr_minT hc
/-! ### sorted of pairs that are data -/
def ivOf : Option Value → Int
  | some (.int i _) => i
  | _ => 0
def kOf (h : Heap) : V → Int × Int
  | .ref t => match h.get? t with
    | some o => match o.data with
      | .seq its _ => (ivOf its[0]?, ivOf its[1]?)
      | _ => (0, 0)
    | none => (0, 0)
  | _ => (0, 0)
def rSortedQ (K : PySem.W.Frag) : List V → Hp → VK → Prop := fun vs H Q => ∃ (a : Addr) (xs : List V) (ps : List (Nat × Nat)) (O : List Addr), vs = [V.ref a] ∧ SqL K H a xs ∧ DpAll K (hide H O) xs (ps.map eC) ∧
  ∀ ys p, DpAll K (hide H O) ys ((Nw.sort2 ps).map eC) → H p = none → Q (.ref p) (upd H p (.lst ys))
theorem dp_perm {K : PySem.W.Frag} {H : Hp} {xs ys : List V} (h : ys.Perm xs) : ∀ {qs : List (Nat × Nat)}, DpAll K H ys (qs.map eC) → ∃ ps : List (Nat × Nat), qs.Perm ps ∧ DpAll K H xs (ps.map eC) := by
  induction h with
  | nil => exact fun {qs} h => ⟨qs, List.Perm.refl _, h⟩
  | cons x _ ih =>
    intro qs h
    cases qs with
    | nil => cases h
    | cons q qs =>
      cases h with
      | cons h1 h2 =>
        obtain ⟨ps, a, b⟩ := ih h2
        exact ⟨q :: ps, a.cons q, .cons h1 b⟩
  | swap x y l =>
    intro qs h
    cases qs with
    | nil => cases h
    | cons q qs =>
      cases qs with
      | nil =>
        cases h with
        | cons _ h => cases h
      | cons q2 qs =>
        cases h with
        | cons h1 h =>
          cases h with
          | cons h2 h3 => exact ⟨q2 :: q :: qs, List.Perm.swap _ _ _, .cons h2 (.cons h1 h3)⟩
  | trans _ _ ih1 ih2 =>
    intro qs h
    obtain ⟨ps, a, b⟩ := ih1 h
    obtain ⟨ps2, a2, b2⟩ := ih2 b
    exact ⟨ps2, a.trans a2, b2⟩
theorem pair_heap {pins : List (Addr × Obj)} {s : Shared} {σ : L2.St} {H : Hp} (I : L2.Inv X pins σ H s) {v : V} {c : Nat × Nat} (h : Dp X.K H v (eC c)) : ∃ t o t1 t2 n, v = .ref t ∧ s.heap.get? t = some o ∧ o.cls = .type "tuple" ∧ o.data = .seq #[.int (c.1 : Nat) t1, .int (c.2 : Nat) t2] n ∧ kOf s.heap v = (((c.1 : Nat) : Int), ((c.2 : Nat) : Int)) := by
  obtain ⟨t, vs, rfl, h1, h2⟩ := dp_tup h
  obtain ⟨x, y, rfl, hx, hy⟩ := dpall2 h2
  rw [dp_int hx, dp_int hy] at h1
  obtain ⟨its, r2, ⟨o, ho, hc, n, hd⟩, _⟩ := I.tuple h1
  obtain ⟨u1, u2, rfl, ri, rj⟩ := vals2 r2
  obtain ⟨t1, rfl⟩ := ri
  obtain ⟨t2, rfl⟩ := rj
  refine ⟨t, o, t1, t2, n, rfl, ho, hc, hd, ?_⟩
  simp only [kOf, ho, hd]
  rfl
theorem dpall_has {K : PySem.W.Frag} {H : Hp} {ps : List (Nat × Nat)} : ∀ {xs : List V}, DpAll K H xs (ps.map eC) → ∀ x ∈ xs, ∃ c ∈ ps, Dp K H x (eC c) := by
  induction ps with
  | nil =>
    intro xs h x hx
    cases h
    simp at hx
  | cons p ps ih =>
    intro xs h x hx
    cases h with
    | cons h1 h2 =>
      rcases List.mem_cons.mp hx with rfl | hx
      · exact ⟨p, List.mem_cons_self .., h1⟩
      · obtain ⟨c, a, b⟩ := ih h2 x hx
        exact ⟨c, List.mem_cons_of_mem _ a, b⟩
theorem srt_le {pins : List (Addr × Obj)} {s : Shared} {σ : L2.St} {H : Hp} (I : L2.Inv X pins σ H s) {qs : List (Nat × Nat)} : ∀ {ys : List V}, DpAll X.K H ys (qs.map eC) → SrtO.Srtd (ltP (kOf s.heap)) ys → qs.Pairwise (fun a b => Nw.le2 a b = true) := by
  induction qs with
  | nil => exact fun _ _ => List.Pairwise.nil
  | cons q qs ih =>
    intro ys h hs
    cases h with
    | @cons y ys _ _ h1 h2 =>
      obtain ⟨a, b⟩ := List.pairwise_cons.mp hs
      refine List.pairwise_cons.mpr ⟨fun c hc => ?_, ih h2 b⟩
      obtain ⟨i, hi⟩ := List.mem_iff_getElem?.mp hc
      obtain ⟨v, hv, dv⟩ := h2.get (i := i) (d := eC c) (by rw [List.getElem?_map, hi]; rfl)
      have e := a v (List.mem_of_getElem? hv)
      obtain ⟨_, _, _, _, _, _, _, _, _, e1⟩ := pair_heap I h1
      obtain ⟨_, _, _, _, _, _, _, _, _, e2⟩ := pair_heap I dv
      have e3 := SrtO.lexB_no.mp (show SrtO.lexB (kOf s.heap v) (kOf s.heap y) = false from e)
      rw [e1, e2] at e3
      refine Nw.le2_iff.mpr ?_
      simp only at e3
      omega
theorem cr_sortedQ : CallR X (.builtin "sorted") (rSortedQ X.K) := by
  intro pins s σ H vs us Q I r h
  obtain ⟨a, xs, ps, O, rfl, hs, hx0, q⟩ := h
  have hx : DpAll X.K H xs (ps.map eC) := DpAll.ex hx0 hide_le
  obtain ⟨its, rv, hl, hz⟩ := I.list hs
  obtain ⟨u, rfl, ru⟩ := vals1 r
  obtain rfl : u = Value.ref a := ru
  obtain ⟨e1, e2⟩ := refs_back rv fun x m => by
    obtain ⟨c, _, d⟩ := dpall_has hx x m
    obtain ⟨t, _, _, _, _, e, _⟩ := pair_heap I d
    exact ⟨t, e⟩
  refine SrtO.sorted_pairsO (k := fun u => kOf s.heap (backV u)) hl.isList (by rw [← rv.length]; exact hz) (fun v hv => ?_) fun h' d out h1 h2 kp hd hn => ?_
  · obtain ⟨t, rfl⟩ := e2 v hv
    have hm : V.ref t ∈ xs := by rw [e1]; exact List.mem_map.mpr ⟨_, hv, rfl⟩
    obtain ⟨c, _, dc⟩ := dpall_has hx _ hm
    obtain ⟨t', o, t1, t2, n, e, ho, hc, hd, ek⟩ := pair_heap I dc
    cases e
    have ek' : kOf s.heap (backV (Value.ref t)) = (((c.1 : Nat) : Int), ((c.2 : Nat) : Int)) := ek
    rw [ek']
    exact ⟨t, o, t1, t2, n, rfl, ho, hc, hd⟩
  · have h3 : ∀ u ∈ out, ∃ a, u = Value.ref a := fun u hu => e2 u (h2.perm.mem_iff.mp hu)
    obtain ⟨n, hn⟩ := hn
    have hb : SrtO.Stb (ltP (kOf s.heap)) (out.map backV) xs := by
      rw [e1]
      exact SrtO.Stb.map (ltP_swo (kOf s.heap)) backV h2
    obtain ⟨qs, p1, p2⟩ := dp_perm hb.perm.symm hx0
    have p3 := srt_le I (DpAll.ex p2 hide_le) (SrtO.srtd_map h1)
    have p4 : qs = Nw.sort2 ps := Nw.sorted_unique _ _ (p1.symm.trans (Nw.sort2_perm ps).symm) p3 (Nw.sort2_sorted ps)
    rw [p4] at p2
    refine ⟨.ref d, upd H d (.lst (out.map backV)), I.laid (t' := s.toks) kp hd ⟨?_, out, n, vals_back h3, hn⟩, rfl, q _ d p2 (I.hok.fresh hd)⟩
    rw [hb.len]
    exact hz
theorem sortedK (K : PySem.W.Frag) (e : X.K = K := by rfl) : CallR X (.builtin "sorted") (rSortedQ K) := by subst e; exact cr_sortedQ
end
section
variable {J : Ji} {K : PySem.W.Frag} {Γ : List Sl} {te ta tl : TE} {tt : TT}
theorem ed_minT {i j : Int} (ha : ED J K Γ ta (.tuple [.int i, .int j])) : ED J K Γ (tCB (rMinT K) (tCons ta tNil)) (.int (min i j)) := fun O σ H e Q q =>
  ha O σ H e _ fun v H1 x1 r1 => by
    obtain ⟨a, vs, rfl, h1, h2⟩ := dp_tup r1
    obtain ⟨x, y, rfl, hx, hy⟩ := dpall2 h2
    rw [dp_int hx, dp_int hy] at h1
    refine ⟨a, [i, j], rfl, Evl.ex_t hide_le h1, by show 0 < 2; decide, fun m hm hl => ?_⟩
    have h3 := hl i (by simp)
    have h4 := hl j (by simp)
    have h5 : m = i ∨ m = j := by simpa using hm
    have e : m = min i j := by omega
    rw [e]
    exact q _ H1 x1 (.int _)
theorem own_sorted {ps : List (Nat × Nat)} (ha : EG J K Γ ta (.own (ps.map eC))) : EG J K Γ (tCB (rSortedQ K) (tCons ta tNil)) (.own ((Nw.sort2 ps).map eC)) := fun O σ H e Q q =>
  ha O σ H e _ fun v H1 x1 r1 => by
    obtain ⟨p, vs, rfl, h1, h2, h3⟩ := r1
    have h3' : DpAll K (hide H1 (ows σ Γ ++ O)) vs (ps.map eC) := DpAll.ex h3 (hide_sub fun a ha => List.mem_cons_of_mem _ ha)
    refine ⟨p, vs, ps, _, rfl, SqL.of h2, h3', fun ys l hy hl => ?_⟩
    obtain ⟨a, b⟩ := own_mk x1 hl hy
    exact q _ _ a b
/-- over a list of pairs -/
theorem lc_P {a c : Nat} {vs : List Nat} {ds : List PyData} (x y : Nat → PyData) (hd : ∀ (i : Nat) (d : PyData), ds[i]? = some d → d = .tuple [x i, y i]) (b : Nat → Bool) (f : Nat → PyData) (hv : ∀ i ∈ vs, Γ[i]? = some .un) (ha : a ∈ vs) (hc : c ∈ vs) (hac : a ≠ c) (hl : ED J K Γ tl (.list ds)) (hz : ds.length ≤ 40000)
    (ht : ∀ i, i < ds.length → EB J K ((Γ.set a (.dat (x i))).set c (.dat (y i))) tt (b i)) (he : ∀ i, i < ds.length → b i = true → ED J K ((Γ.set a (.dat (x i))).set c (.dat (y i))) te (f i)) :
    EG J K Γ (tLc (iList K tl) (gTup K 2 (gCons (gName a) (gCons (gName c) gNil))) tt te vs) (.own (told ds.length b f)) := fun O σ H e Q q =>
  hl O σ H e _ fun v H1 x1 r1 => by
    obtain ⟨p, ws, rfl, a1, a2⟩ := dp_lst r1
    refine ⟨p, rfl, ⟨ws, Evl.ex_l hide_le a1⟩, fun D hD => ?_⟩
    have e1 := e.mono x1
    obtain ⟨w1, w2⟩ := env_wipe hv e1
    refine lc_list (xs := ws) (fun i H' => Cv K H1 (ows σ Γ ++ O) D (told i b f) H') (cv_start hD) (fun i H' _ c => Evl.ex_l c.choose_spec.2.2 (Evl.ex_l hide_le a1)) (fun i u H' hx cv => ?_) (fun H' cv => ?_)
    · obtain ⟨d, d1, d2⟩ := a2.get' hx
      obtain rfl := hd i d d1
      obtain ⟨T, us, rfl, t1, t2⟩ := dp_tup d2
      obtain ⟨u1, u2, rfl, dx, dy⟩ := dpall2 t2
      have c3 := cv.choose_spec.2.2
      have s := cv_env w1 hD cv
      have hi : i < ds.length := (List.getElem?_eq_some_iff.mp d1).1
      have mk : ∀ {v : V} {d : PyData}, Dp K (hide H1 (ows σ Γ ++ O)) v d → Dp K (hide H' (ows (wipe σ vs) Γ ++ D :: O)) v d := fun {v d} h => by
        have h1 : Dp K (hide H1 (D :: (ows σ Γ ++ O))) v d := by rw [hide_new hD]; exact h
        rw [hide_cong (fun a => (eW_of w2 a).symm)]
        exact Dp.ex h1 (hide_ex c3)
      refine ⟨T, [u1, u2], rfl, Evl.ex_t c3 (Evl.ex_t hide_le t1), rfl, u1, [u2], rfl, u2, [], rfl, rfl, ?_⟩
      obtain ⟨s1, m1⟩ := s.setD (mk dx) a
      have hu1 := ows_set_un (σ := wipe σ vs) (v := some u1) (d := x i) (hv a ha)
      obtain ⟨s2, _⟩ := s1.setD (v := u2) (d := y i) (by rw [hu1]; exact mk dy) c
      have hu2 := ows_set_un (σ := (wipe σ vs).set a (some u1)) (Γ := Γ.set a (.dat (x i))) (v := some u2) (d := y i) (j := c) (by rw [List.getElem?_set_ne hac]; exact hv c hc)
      refine ⟨?_, ?_⟩
      · refine wipe_set hc _ (by rw [List.length_set, wipe_length]) fun i hi hn => ?_
        rw [List.getElem?_set_ne fun z => hn (by rw [← z]; exact ha)]
        exact wipe_off hi hn
      · rw [told_succ]
        exact cv_turn (eW_of ((hu2.trans hu1).trans w2)) s2 hD cv (by have := told_len (n := i) (b := b) (f := f); omega) (ht i hi) (he i hi)
    · rw [a2.len] at cv
      exact cv_done hD x1 cv q
end
end NwB
end NwK_
section NwC2_
set_option Elab.async false
set_option linter.all false
set_option maxRecDepth 100000
set_option maxHeartbeats 4000000
namespace NwB
open PySem PySem.Spec PyProof.Rows L2 NwT
open Evl (Ex)
def P_rising_way : Pd := fun ds r => ∃ (R : Nw.Ring) (k : Nat), ds = [eRing R, eN k] ∧ k < R.m ∧ r = .dat (eW (Nw.dir (R.at k)))
def P_gain_by : Pd := fun ds r => ∃ (R : Nw.Ring) (s : List Rat) (k : Nat) (b : Bool), ds = [eRing R, eS s, eN k, eW b] ∧ (∃ D, Rg R D ∧ Ws R D s) ∧ k < R.m ∧ r = .dat (eQ (Nw.gain R s k b))
def P_in_order : Pd := fun ds r => ∃ (R : Nw.Ring) (l : List Nat), ds = [eRing R, eNs l] ∧ (∀ k ∈ l, k < R.m) ∧ l.length ≤ 8 ∧ r = .own ((Nw.inOrder R l).map eN)
def P_half_of_greatest : Pd := fun ds r => ∃ (R : Nw.Ring) (l : List Nat), ds = [eRing R, eNs l] ∧ (∃ D, Rg R D) ∧ (∀ k ∈ l, k < R.m) ∧ r = .dat (eQ (Nw.most R l))
def P_goes_whole : Pd := fun ds r => ∃ (R : Nw.Ring) (s : List Rat) (k : Nat) (b : Bool), ds = [eRing R, eS s, eN k, eW b] ∧ (∃ D, Rg R D ∧ Ws R D s) ∧ k < R.m ∧ r = .dat (.bool (decide (Nw.gone R s k b = (R.at k).size)))
def P_are_rounded : Pd := fun ds r => ∃ (R : Nw.Ring) (b : List Rat) (ws : List Bool), ds = [eRing R, eS b, eWs ws] ∧ (∃ D, Rg R D ∧ Ws R D b) ∧ Nw.Rounded R b ws ∧ r = .dat (.bool true)
def P_behind_or_none : Pd := P_slid_by
def P_lets_rounding : Pd := fun ds r => ∃ (R : Nw.Ring) (s : List Rat) (zs : List Nw.Slide) (ws : List Bool), ds = [eRing R, eS s, .tuple [eZs zs, eWs ws]] ∧ (∃ D, Rg R D ∧ Ws R D s ∧ ∀ z ∈ zs, Am D z) ∧ Nw.SlidesOk R s zs ∧ (∀ k ∈ Nw.partedL R (Nw.behind s zs), ∀ j ∈ Nw.partedL R (Nw.behind s zs), k < j → Nw.cross (R.at k) (R.at j) = true) ∧ Nw.Rounded R (Nw.behind s zs) ws ∧ r = .dat (.bool true)
def P_whole_ways : Pd := fun ds r => ∃ (R : Nw.Ring) (b : List Rat), ds = [eRing R, eS b] ∧ (∃ D, Rg R D ∧ Ws R D b) ∧ r = .own ((Nw.wholeWays R b).map eW)
section
variable {R : Nw.Ring} {D : Nat} {s : List Rat} {z : Nw.Slide}
theorem gain_bd (g : Rg R D) (ws : Ws R D s) {k : Nat} (hk : k < R.m) (w : Bool) : Bd D (2 ^ 42) (Nw.gain R s k w) := by
  have h := gone_bd g ws hk (Nw.dir (R.at k))
  unfold Nw.gain
  split
  · exact ((g.size k hk).sub h).mono (by decide)
  · exact (Bd.zero (M := 2 ^ 41).sub h).mono (by decide)
theorem greatest_bd (g : Rg R D) : ∀ (l : List Nat) (x : Rat), (∀ k ∈ l, k < R.m) → Bd D (2 ^ 41) x → Bd D (2 ^ 41) (l.foldl (fun x k => Nw.greater x (R.at k).size) x)
  | [], x, _, h => h
  | a :: l, x, hl, h => by
    rw [List.foldl_cons]
    refine greatest_bd g l _ (fun k hk => hl k (List.mem_cons_of_mem _ hk)) ?_
    unfold Nw.greater
    split
    · exact g.size a (hl a (List.mem_cons_self ..))
    · exact h
theorem list_getD {α : Type} (l : List α) (d : α) : (List.range l.length).map (fun i => l.getD i d) = l := by
  refine List.ext_getElem? fun i => ?_
  by_cases hi : i < l.length
  · rw [List.getElem?_map, List.getElem?_range hi, List.getElem?_eq_getElem hi]
    show some (l.getD i d) = _
    rw [List.getD_eq_getElem?_getD, List.getElem?_eq_getElem hi]
    rfl
  · rw [List.getElem?_eq_none (by rw [List.length_map, List.length_range]; omega), List.getElem?_eq_none (by omega)]
theorem told_list {α : Type} (l : List α) (d : α) (g : α → PyData) : told l.length (fun _ => true) (fun i => g (l.getD i d)) = l.map g := by
  rw [told_all]
  conv => rhs; rw [← list_getD l d, List.map_map]
  rfl
theorem parted_m {k : Nat} (h : k ∈ Nw.partedL R s) : k < R.m := (Nw.mem_partedL.mp h).1
theorem half_num : (1 / 2 : Rat).num = 1 := by decide +kernel
theorem half_den : (1 / 2 : Rat).den = 2 := by decide +kernel
theorem half_z : Z (1 / 2) := ⟨by rw [half_num]; decide, by rw [half_den]; decide⟩
theorem inOrder_len {P : List Nat} : (Nw.inOrder R P).length = P.length := Nw.inOrder_perm.length_eq
end
section
variable {P : Program} {w : World} {J : Ji} {K : PySem.W.Frag} {mg : Str → Option Value} {base : Heap}
theorem eb_ways {Γ : List Sl} {ta tb : TE} {a b : Bool} (h1 : ED J K Γ ta (eW a)) (h2 : ED J K Γ tb (eW b)) : EB J K Γ (tTest (tOp (rEqA K) ta tb)) (decide (a = b)) := eb_is (eb_test (ed_eqS (i := wS a) (j := wS b) h1 h2)) (by cases a <;> cases b <;> decide)
theorem sc_rising_way : FnScope ["ring", "k", "name", "one", "other", "size"] ["ring", "k"] (defScope s_rising_way) := ⟨rfl, rfl, rfl, by decide +kernel, rfl, by decide +kernel, by decide +kernel⟩
theorem has_rising_way (T : Tx K mg) : Has P w K mg base 1 "rising_way" 2 P_rising_way := by
  refine has_mk (N := ["ring", "k", "name", "one", "other", "size"]) (ps := ["ring", "k"]) (k := 0) T.d_rising_way sc_rising_way (fun _ _ _ _ _ _ us hl => match us, hl with | [_, _], _ => rfl) (fun ds r hp => ?_) (fun f cdv A outer s H E hr => ⟨_, (pss_cons (ps_asg (pe_ix (ixK K) (pe_ix (ixK K) (pv 0) pe_int (fun _ _ => rfl)) (pv 1) (fun _ _ => rfl)) (pg_tupK K rfl (pgs_cons (pg_name (i := 2) sc_rising_way.nd rfl (Or.inl rfl)) (pgs_cons (pg_name (i := 3) sc_rising_way.nd rfl (Or.inl rfl)) (pgs_cons (pg_name (i := 4) sc_rising_way.nd rfl (Or.inl rfl)) (pgs_cons (pg_name (i := 5) sc_rising_way.nd rfl (Or.inl rfl)) pgs_nil))))))
  (pss_cons (ps_if (pt_cmpR op_lt (pv 3) (pv 4) (nomark _)) (pss_one (ps_ret (pe_gstr (by rfl) T.g_ON))) pss_nil)
  (pss_one (ps_ret (pe_gstr (by rfl) T.g_BACK))))), ?_⟩)
  · rcases hp with ⟨_, _, rfl, _⟩
    rfl
  rintro ds r ⟨R, k, rfl, hk, rfl⟩
  refine qu (is := [2, 3, 4, 5]) (ds := [.str ⟨(R.at k).name⟩, .int ((R.at k).one : Nat), .int ((R.at k).other : Nat), eQ (R.at k).size]) (.cons (.cons (.cons (.cons .nil)))) (ed_ask (ed_var rfl) (ed_var rfl) hk) ?_
  refine q2 (b := Nw.dir (R.at k)) (eb_is (eb_test (ed_opB (ed_var rfl) (ed_var rfl))) (decide_eq_decide.mpr (by omega))) (fun h => ?_) fun h => ?_
  · rw [h]
    exact sg_ret ed_str rfl
  · rw [h]
    exact sg_ret ed_str rfl
theorem sc_gain_by : FnScope ["ring", "sending", "k", "way", "gone"] ["ring", "sending", "k", "way"] (defScope s_gain_by) := ⟨rfl, rfl, rfl, by decide +kernel, rfl, by decide +kernel, by decide +kernel⟩
theorem has_gain_by (T : Tx K mg) (h_gone_by : Has P w K mg base 4 "gone_by" 4 P_gone_by) (h_minus : Has P w K mg base 3 "minus" 2 P_minus) (h_rising_way : Has P w K mg base 1 "rising_way" 2 P_rising_way) : Has P w K mg base 5 "gain_by" 4 P_gain_by := by
  refine has_mk (N := ["ring", "sending", "k", "way", "gone"]) (ps := ["ring", "sending", "k", "way"]) (k := 4) T.d_gain_by sc_gain_by (fun _ _ _ _ _ _ us hl => match us, hl with | [_, _, _, _], _ => rfl) (fun ds r hp => ?_) (fun f cdv A outer s H E hr => ⟨_, (pss_cons (ps_set (i := 4) sc_gain_by.nd rfl (Or.inl rfl) (pe_hasK h_gone_by (hr.mono (by decide)) (by rfl) (pa_cons (pv 0) (pa_cons (pv 1) (pa_cons (pv 2) (pa_cons (pe_hasK h_rising_way (hr.mono (by decide)) (by rfl) (pa_cons (pv 0) (pa_cons (pv 2) pa_nil))) pa_nil))))))
  (pss_cons (ps_if (pt_cmpR (eqK K hr.units) (pv 3) (pe_hasK h_rising_way (hr.mono (by decide)) (by rfl) (pa_cons (pv 0) (pa_cons (pv 2) pa_nil))) (nomark _)) (pss_one (ps_ret (pe_hasK h_minus (hr.mono (by decide)) (by rfl) (pa_cons (pe_ix (ixK K) (pe_ix (ixK K) (pe_ix (ixK K) (pv 0) pe_int (fun _ _ => rfl)) (pv 2) (fun _ _ => rfl)) pe_int (fun _ _ => rfl)) (pa_cons (pv 4) pa_nil))))) pss_nil)
  (pss_one (ps_ret (pe_hasK h_minus (hr.mono (by decide)) (by rfl) (pa_cons (pe_glob (v := .ref 80) (by rfl) T.g_NOUGHT rfl) (pa_cons (pv 4) pa_nil))))))), ?_⟩)
  · rcases hp with ⟨_, _, _, _, rfl, _⟩
    rfl
  rintro ds r ⟨R, s, k, b, rfl, ⟨D, g, ws⟩, hk, rfl⟩
  have rw1 : ∀ {Γ : List Sl}, Γ[0]? = some (.dat (eRing R)) → Γ[2]? = some (.dat (eN k)) → ED J0 K Γ (tCall (spF K P_rising_way) [] E0 (tCons (tVar 0) (tCons (tVar 2) tNil))) (eW (Nw.dir (R.at k))) := fun h1 h2 => eg_call (ea_cons (ed_var h1) (ea_cons (ed_var h2) ea_nil)) ⟨R, k, rfl, hk, rfl⟩
  have zg := g.z (gone_bd g ws hk (Nw.dir (R.at k)))
  refine qd (d := eQ (Nw.gone R s k (Nw.dir (R.at k)))) (eg_call (ea_cons (ed_var rfl) (ea_cons (ed_var rfl) (ea_cons (ed_var rfl) (ea_cons (rw1 rfl rfl) ea_nil)))) ⟨R, s, k, _, rfl, ⟨D, g, ws⟩, hk, rfl⟩) ?_
  refine q2 (b := decide (b = Nw.dir (R.at k))) (eb_ways (ed_var rfl) (rw1 rfl rfl)) (fun h => ?_) fun h => ?_
  · refine sg_ret (ed_minus (ed_size (ed_var rfl) (ed_var rfl) hk) (ed_var rfl) (g.z (g.size k hk)) zg) ?_
    unfold Nw.gain
    rw [if_pos (of_decide_eq_true h)]
  · refine sg_ret (ed_minus (ed_nought T) (ed_var rfl) Z.zero zg) ?_
    unfold Nw.gain
    rw [if_neg (of_decide_eq_false h)]
theorem sc_in_order : FnScope ["ring", "some", "place", "k"] ["ring", "some"] (defScope s_in_order) := ⟨rfl, rfl, rfl, by decide +kernel, rfl, by decide +kernel, by decide +kernel⟩
theorem has_in_order (T : Tx K mg) : Has P w K mg base 1 "in_order" 2 P_in_order := by
  refine has_mk (N := ["ring", "some", "place", "k"]) (ps := ["ring", "some"]) (k := 0) T.d_in_order sc_in_order (fun _ _ _ _ _ _ us hl => match us, hl with | [_, _], _ => rfl) (fun ds r hp => ?_) (fun f cdv A outer s H E hr => ⟨_, (pss_one (ps_ret (pe_lc (own := [("place", 2), ("k", 3)]) (g := gTup K 2 (gCons (gName 2) (gCons (gName 3) gNil))) rfl sc_in_order.nd (pi_listK K (pe_callB (sortedK K) (by rfl) T.sorted bb_sorted (pa_cons (pe_lc (own := [("k", 3)]) (g := gName 3) rfl sc_in_order.nd (pi_listK K (pv 1)) (blkOk_by (own := [("k", 3)]) (N := ["ring", "some", "place", "k"]) (sc := (defScope s_in_order)) (by decide +kernel)) (fun _ _ _ _ _ => pg_name (i := 3) sc_in_order.nd rfl (Or.inl rfl)) (fun _ _ _ _ _ => pts_nil) (fun _ _ _ _ _ => by exact (pe_tup (pa_cons (pe_callB (minTK K) (by rfl) T.min bb_min (pa_cons (pe_slice (slTK K) (pe_ix (ixK K) (pe_ix (ixK K) (pv 0) pe_int (fun _ _ => rfl)) (pv 3) (fun _ _ => rfl)) (po_some pe_int) (po_some pe_int)) pa_nil)) (pa_cons (pv 3) pa_nil))))) pa_nil))) (blkOk_by (own := [("place", 2), ("k", 3)]) (N := ["ring", "some", "place", "k"]) (sc := (defScope s_in_order)) (by decide +kernel)) (fun _ _ _ _ _ => pg_tupK K rfl (pgs_cons (pg_name (i := 2) sc_in_order.nd rfl (Or.inl rfl)) (pgs_cons (pg_name (i := 3) sc_in_order.nd rfl (Or.inl rfl)) pgs_nil))) (fun _ _ _ _ _ => pts_nil) (fun _ _ _ _ _ => by exact (pv 3))))), ?_⟩)
  · rcases hp with ⟨_, _, rfl, _⟩
    rfl
  rintro ds r ⟨R, l, rfl, hm, l8, rfl⟩
  have e1 : (l.map fun k => (Nw.lo (R.at k), k)).map eC = told (l.map eN).length (fun _ => true) (fun i => eC (Nw.lo (R.at (l.getD i 0)), l.getD i 0)) := by
    rw [List.length_map, told_list l 0 (fun k => eC (Nw.lo (R.at k), k)), List.map_map]
    rfl
  refine sg_ret (own_is (lc_P (vs := [2, 3]) (ds := (Nw.sort2 (l.map fun k => (Nw.lo (R.at k), k))).map eC) (fun i => eN ((Nw.sort2 (l.map fun k => (Nw.lo (R.at k), k))).getD i (0, 0)).1) (fun i => eN ((Nw.sort2 (l.map fun k => (Nw.lo (R.at k), k))).getD i (0, 0)).2) ?_ (fun _ => true) (fun i => eN ((Nw.sort2 (l.map fun k => (Nw.lo (R.at k), k))).getD i (0, 0)).2) ?_ (by decide) (by decide) (by decide) (ed_of_own (own_sorted (own_is (lc_L (vs := [3]) (ds := l.map eN) (fun _ => true) (fun i => eC (Nw.lo (R.at (l.getD i 0)), l.getD i 0)) (fun i hi => by rw [List.mem_singleton.mp hi]; rfl) (by decide) (ed_var rfl) (by rw [List.length_map]; omega) (fun _ _ _ => eb_yes) (fun i d hd _ => ?_)) e1.symm))) ?_ (fun _ _ => eb_yes) (fun i hi _ => ed_var rfl)) (d' := (Nw.inOrder R l).map eN) ?_) rfl
  · intro i d hd
    obtain ⟨c, hc, rfl⟩ := map_at hd
    rw [List.getD_eq_getElem?_getD, hc]
    rfl
  · intro i hi
    rcases List.mem_cons.mp hi with rfl | hi
    · rfl
    · rw [List.mem_singleton.mp hi]
      rfl
  · obtain ⟨k, hk, rfl⟩ := map_at hd
    have km := hm k (List.mem_of_getElem? hk)
    rw [List.getD_eq_getElem?_getD, hk]
    refine ed_tup (ea_cons (ed_is (ed_minT (i := ((R.at k).one : Nat)) (j := ((R.at k).other : Nat)) (ed_sliceT (lo := some 1) (hi := some 3) (ed_ask (ed_var rfl) (ed_var rfl) km) (eo_some ed_int) (eo_some ed_int) (by rintro ⟨z, _⟩; exact absurd (show (1 : Nat) = 0 from z) (by decide)))) ?_) (ea_cons (ed_var rfl) ea_nil))
    show PyData.int _ = PyData.int ((Nw.lo (R.at k) : Nat) : Int)
    unfold Nw.lo
    congr 1
    omega
  · rw [List.length_map, (Nw.sort2_perm _).length_eq, List.length_map]
    omega
  · rw [List.length_map, told_list (Nw.sort2 (l.map fun k => (Nw.lo (R.at k), k))) (0, 0) (fun c => eN c.2)]
    unfold Nw.inOrder
    rw [List.map_map]
    rfl
theorem sc_half_of_greatest : FnScope ["ring", "some", "found", "k"] ["ring", "some"] (defScope s_half_of_greatest) := ⟨rfl, rfl, rfl, by decide +kernel, rfl, by decide +kernel, by decide +kernel⟩
theorem has_half_of_greatest (T : Tx K mg) (h_greater : Has P w K mg base 2 "greater" 2 P_greater) (h_times : Has P w K mg base 3 "times" 2 P_times) : Has P w K mg base 4 "half_of_greatest" 2 P_half_of_greatest := by
  refine has_mk (N := ["ring", "some", "found", "k"]) (ps := ["ring", "some"]) (k := 3) T.d_half_of_greatest sc_half_of_greatest (fun _ _ _ _ _ _ us hl => match us, hl with | [_, _], _ => rfl) (fun ds r hp => ?_) (fun f cdv A outer s H E hr => ⟨_, (pss_cons (ps_set (i := 2) sc_half_of_greatest.nd rfl (Or.inl rfl) (pe_glob (v := .ref 80) (by rfl) T.g_NOUGHT rfl))
  (pss_cons (ps_for PassesOwn.never rfl (pi_listK K (pv 1)) (pg_name (i := 3) sc_half_of_greatest.nd rfl (Or.inl rfl))
  (pss_one (ps_set (i := 2) sc_half_of_greatest.nd rfl (Or.inl rfl) (pe_hasK h_greater (hr.mono (by decide)) (by rfl) (pa_cons (pv 2) (pa_cons (pe_ix (ixK K) (pe_ix (ixK K) (pe_ix (ixK K) (pv 0) pe_int (fun _ _ => rfl)) (pv 3) (fun _ _ => rfl)) pe_int (fun _ _ => rfl)) pa_nil))))))
  (pss_one (ps_ret (pe_hasK h_times (hr.mono (by decide)) (by rfl) (pa_cons (pv 2) (pa_cons (pe_tup (pa_cons pe_int (pa_cons pe_int pa_nil))) pa_nil))))))), ?_⟩)
  · rcases hp with ⟨_, _, rfl, _⟩
    rfl
  rintro ds r ⟨R, l, rfl, ⟨D, g⟩, hm, rfl⟩
  refine qd (d := eQ 0) (ed_nought T) ?_
  refine sg_seq (N' := fun Γ' => Γ' = [.dat (eRing R), .dat (eNs l), .dat (eQ (Nw.greatestSize R l)), .un]) (sg_forL (fun i Γ' => Γ' = [.dat (eRing R), .dat (eNs l), .dat (eQ (Nw.greatestSize R (l.take i))), .un]) (ed_var rfl) ⟨_, Le.refl _, rfl⟩ ?_ ?_) ?_
  · rintro i d Γ' hd rfl
    obtain ⟨k, hk, rfl⟩ := map_at hd
    have km := hm k (List.mem_of_getElem? hk)
    refine sg_asg (ed_greater (ed_var rfl) (ed_size (ed_var rfl) (ed_var rfl) km) (g.z (greatest_bd g _ 0 (fun k hk => hm k (List.mem_of_mem_take hk)) Bd.zero)) (g.z (g.size k km))) ⟨_, .same (.same (.same (.un .nil))), lq_refl ?_⟩
    rw [take_next hk]
    unfold Nw.greatestSize
    rw [List.foldl_append]
    rfl
  · rintro Γ' rfl
    rw [List.length_map, List.take_length]
    exact lq_refl rfl
  · rintro Γ' rfl
    exact sg_ret (ed_times (ed_var rfl) (b := 1 / 2) (ed_is (ed_tup (ea_cons ed_int (ea_cons ed_int ea_nil))) (by unfold eQ; rw [half_num, half_den]; rfl)) (g.z (greatest_bd g _ 0 hm Bd.zero)) half_z) rfl
theorem sc_goes_whole : FnScope ["ring", "sending", "k", "way"] ["ring", "sending", "k", "way"] (defScope s_goes_whole) := ⟨rfl, rfl, rfl, by decide +kernel, rfl, by decide +kernel, by decide +kernel⟩
theorem has_goes_whole (T : Tx K mg) (h_gone_by : Has P w K mg base 4 "gone_by" 4 P_gone_by) : Has P w K mg base 5 "goes_whole" 4 P_goes_whole := by
  refine has_mk (N := ["ring", "sending", "k", "way"]) (ps := ["ring", "sending", "k", "way"]) (k := 4) T.d_goes_whole sc_goes_whole (fun _ _ _ _ _ _ us hl => match us, hl with | [_, _, _, _], _ => rfl) (fun ds r hp => ?_) (fun f cdv A outer s H E hr => ⟨_, (pss_one (ps_ret (pe_cmpR (eqK K hr.units) (pe_hasK h_gone_by (hr.mono (by decide)) (by rfl) (pa_cons (pv 0) (pa_cons (pv 1) (pa_cons (pv 2) (pa_cons (pv 3) pa_nil))))) (pe_ix (ixK K) (pe_ix (ixK K) (pe_ix (ixK K) (pv 0) pe_int (fun _ _ => rfl)) (pv 2) (fun _ _ => rfl)) pe_int (fun _ _ => rfl)) (nomark _)))), ?_⟩)
  · rcases hp with ⟨_, _, _, _, rfl, _⟩
    rfl
  rintro ds r ⟨R, s, k, b, rfl, ⟨D, g, ws⟩, hk, rfl⟩
  exact sg_ret (ed_is (ed_eqD (eg_call (ea_cons (ed_var rfl) (ea_cons (ed_var rfl) (ea_cons (ed_var rfl) (ea_cons (ed_var rfl) ea_nil)))) ⟨R, s, k, b, rfl, ⟨D, g, ws⟩, hk, rfl⟩) (ed_size (ed_var rfl) (ed_var rfl) hk) (sh_Q _) (sh_Q _)) (by rw [eqv_Q])) rfl
theorem drop_at {α : Type} {l : List α} {i : Nat} {x : α} (h : l[i]? = some x) : l.drop i = x :: l.drop (i + 1) := by
  have hi := (List.getElem?_eq_some_iff.mp h).1
  rw [List.drop_eq_getElem_cons hi]
  rw [List.getElem?_eq_getElem hi] at h
  rw [Option.some.inj h]
theorem tot_next {D i : Nat} {a b : Rat} (h : Bd D (i * 2 ^ 42) a) (h2 : Bd D (2 ^ 42) b) : Bd D ((i + 1) * 2 ^ 42) (a + b) := (h.add h2).mono (by rw [Nat.succ_mul]; exact Nat.le_refl _)
theorem tot_z {R : Nw.Ring} {D i : Nat} {a : Rat} (g : Rg R D) (h : Bd D (i * 2 ^ 42) a) (hi : i ≤ 9) : Z a := g.z (M := 2 ^ 46) (h.mono (by calc i * 2 ^ 42 ≤ 9 * 2 ^ 42 := Nat.mul_le_mul_right _ hi
    _ ≤ 2 ^ 46 := by decide))
theorem most_z {R : Nw.Ring} {D : Nat} (g : Rg R D) {l : List Nat} (hl : ∀ k ∈ l, k < R.m) : Z (Nw.most R l) := by
  have h := greatest_bd g l 0 hl Bd.zero
  have e : Nw.most R l = Nw.greatestSize R l / 2 := by unfold Nw.most; grind
  rw [e]
  refine g.zdiv h (N := 2) ?_ (by decide)
  refine ⟨⟨(2 * D : Nat), ?_⟩, by decide +kernel, by decide +kernel⟩
  rw [show (((2 * D : Nat) : Int) : Rat) = ((2 * D : Nat) : Rat) from rfl, Rat.natCast_mul]
  rfl
theorem neg_most_z {R : Nw.Ring} {D : Nat} (g : Rg R D) {l : List Nat} (hl : ∀ k ∈ l, k < R.m) : Z (0 - Nw.most R l) := by
  have h := most_z g hl
  have e : 0 - Nw.most R l = - Nw.most R l := by grind
  rw [e]
  exact ⟨by rw [Rat.neg_num]; have := h.num; omega, by rw [Rat.neg_den]; exact h.den⟩
theorem sc_are_rounded : FnScope ["ring", "behind", "ways", "parted", "k", "way", "most", "total"] ["ring", "behind", "ways"] (defScope s_are_rounded) := ⟨rfl, rfl, rfl, by decide +kernel, rfl, by decide +kernel, by decide +kernel⟩
theorem has_are_rounded (T : Tx K mg) (h_gain_by : Has P w K mg base 5 "gain_by" 4 P_gain_by) (h_goes_whole : Has P w K mg base 5 "goes_whole" 4 P_goes_whole) (h_half_of_greatest : Has P w K mg base 4 "half_of_greatest" 2 P_half_of_greatest) (h_in_order : Has P w K mg base 1 "in_order" 2 P_in_order) (h_minus : Has P w K mg base 3 "minus" 2 P_minus) (h_parted_in : Has P w K mg base 3 "parted_in" 2 P_parted_in) (h_plus : Has P w K mg base 3 "plus" 2 P_plus) (h_under : Has P w K mg base 1 "under" 2 P_under) : Has P w K mg base 6 "are_rounded" 3 P_are_rounded := by
  refine has_mk (N := ["ring", "behind", "ways", "parted", "k", "way", "most", "total"]) (ps := ["ring", "behind", "ways"]) (k := 5) T.d_are_rounded sc_are_rounded (fun _ _ _ _ _ _ us hl => match us, hl with | [_, _, _], _ => rfl) (fun ds r hp => ?_) (fun f cdv A outer s H E hr => ⟨_, (pss_cons (ps_set (i := 3) sc_are_rounded.nd rfl (Or.inl rfl) (pe_hasK h_parted_in (hr.mono (by decide)) (by rfl) (pa_cons (pv 0) (pa_cons (pv 1) pa_nil))))
  (pss_cons (ps_for PassesOwn.never rfl (pi_enumK K (by rfl) T.enumerate (pa_cons (pv 2) pa_nil)) (pg_tupK K rfl (pgs_cons (pg_name (i := 4) sc_are_rounded.nd rfl (Or.inl rfl)) (pgs_cons (pg_name (i := 5) sc_are_rounded.nd rfl (Or.inl rfl)) pgs_nil)))
  (pss_one (ps_if (PW.pt (pw_and (pt_cmpR (ninK K) (pv 4) (pv 3) (by rfl)) (pw_and1 (pt_not (pt_val (pe_hasK h_goes_whole (hr.mono (by decide)) (by rfl) (pa_cons (pv 0) (pa_cons (pv 1) (pa_cons (pv 4) (pa_cons (pv 5) pa_nil)))))))))) (pss_one (ps_ret pe_bl)) pss_nil)))
  (pss_cons (ps_set (i := 6) sc_are_rounded.nd rfl (Or.inl rfl) (pe_hasK h_half_of_greatest (hr.mono (by decide)) (by rfl) (pa_cons (pv 0) (pa_cons (pv 3) pa_nil))))
  (pss_cons (ps_set (i := 7) sc_are_rounded.nd rfl (Or.inl rfl) (pe_glob (v := .ref 80) (by rfl) T.g_NOUGHT rfl))
  (pss_cons (ps_for PassesOwn.never rfl (pi_listK K (pe_hasK h_in_order (hr.mono (by decide)) (by rfl) (pa_cons (pv 0) (pa_cons (pv 3) pa_nil)))) (pg_name (i := 4) sc_are_rounded.nd rfl (Or.inl rfl))
  (pss_cons (ps_set (i := 7) sc_are_rounded.nd rfl (Or.inl rfl) (pe_hasK h_plus (hr.mono (by decide)) (by rfl) (pa_cons (pv 7) (pa_cons (pe_hasK h_gain_by (hr.mono (by decide)) (by rfl) (pa_cons (pv 0) (pa_cons (pv 1) (pa_cons (pv 4) (pa_cons (pe_ix (ixK K) (pv 2) (pv 4) (fun _ _ => rfl)) pa_nil))))) pa_nil))))
  (pss_one (ps_if (PW.pt (pw_or (pt_val (pe_hasK h_under (hr.mono (by decide)) (by rfl) (pa_cons (pv 6) (pa_cons (pv 7) pa_nil)))) (pw_or1 (pt_val (pe_hasK h_under (hr.mono (by decide)) (by rfl) (pa_cons (pv 7) (pa_cons (pe_hasK h_minus (hr.mono (by decide)) (by rfl) (pa_cons (pe_glob (v := .ref 80) (by rfl) T.g_NOUGHT rfl) (pa_cons (pv 6) pa_nil))) pa_nil))))))) (pss_one (ps_ret pe_bl)) pss_nil))))
  (pss_one (ps_ret pe_bl))))))), ?_⟩)
  · rcases hp with ⟨_, _, _, rfl, _⟩
    rfl
  rintro ds r ⟨R, b, ws, rfl, ⟨D, g, wb⟩, rd, rfl⟩
  have pm : ∀ k ∈ Nw.partedL R b, k < R.m := fun k hk => parted_m hk
  have pl : (Nw.partedL R b).length ≤ 8 := by have := Nw.partedL_len (R := R) (s := b); have := g.m8; omega
  refine qd (d := eNs (Nw.partedL R b)) (ed_of_own (eg_call (ea_cons (ed_var rfl) (ea_cons (ed_var rfl) ea_nil)) ⟨R, b, rfl, ⟨D, g, wb⟩, rfl⟩)) ?_
  refine sg_seq (N' := fun Γ' => Γ' = [.dat (eRing R), .dat (eS b), .dat (eWs ws), .dat (eNs (Nw.partedL R b)), .un, .un, .un, .un]) (sg_forE (fun i Γ' => Γ' = [.dat (eRing R), .dat (eS b), .dat (eWs ws), .dat (eNs (Nw.partedL R b)), .un, .un, .un, .un]) (ed_var rfl) ⟨_, Le.refl _, rfl⟩ ?_ fun Γ' e => lq_refl e) ?_
  · rintro k d Γ' hd rfl
    obtain ⟨hk, rfl⟩ := ws_at hd
    have km : k < R.m := by rw [← rd.len]; exact hk
    refine sg_if (b := false) (eb_is (eb_and (eb_test (ed_ninN (ed_var rfl) (el_dat (ed_var rfl)))) fun h => eb_not (b := true) (eb_B (ed_is (eg_call (ea_cons (ed_var rfl) (ea_cons (ed_var rfl) (ea_cons (ed_var rfl) (ea_cons (ed_var rfl) ea_nil)))) ⟨R, b, k, Nw.wt ws k, rfl, ⟨D, g, wb⟩, km, rfl⟩) ?_))) (Bool.and_false _)) (fun z => by cases z) fun _ => sg_next ⟨_, .same (.same (.same (.same (.un (.un (.un (.un .nil))))))), lq_refl rfl⟩
    rw [decide_eq_true (rd.whole k km (by simpa using h))]
  rintro Γ' rfl
  refine qd (d := eQ (Nw.most R (Nw.partedL R b))) (eg_call (ea_cons (ed_var rfl) (ea_cons (ed_var rfl) ea_nil)) ⟨R, _, rfl, ⟨D, g⟩, pm, rfl⟩) ?_
  refine qd (d := eQ 0) (ed_nought T) ?_
  refine sg_seq (N' := fun Γ' => True) (sg_forL (fun i Γ' => ∃ tot, Γ' = [.dat (eRing R), .dat (eS b), .dat (eWs ws), .dat (eNs (Nw.partedL R b)), .un, .un, .dat (eQ (Nw.most R (Nw.partedL R b))), .dat (eQ tot)] ∧ Nw.within R b ws (Nw.most R (Nw.partedL R b)) ((Nw.inOrder R (Nw.partedL R b)).drop i) tot ∧ Bd D (i * 2 ^ 42) tot) (ed_of_own (eg_call (ea_cons (ed_var rfl) (ea_cons (ed_var rfl) ea_nil)) ⟨R, _, rfl, pm, pl, rfl⟩)) ⟨_, Le.refl _, 0, rfl, rd.sums, by rw [Nat.zero_mul]; exact Bd.zero⟩ ?_ fun Γ' _ => lq_refl trivial) ?_
  · rintro i d Γ' hd ⟨tot, rfl, wi, bd⟩
    obtain ⟨k, hk, rfl⟩ := map_at hd
    have km := pm k (Nw.inOrder_perm.mem_iff.mp (List.mem_of_getElem? hk))
    have i8 : i < 8 := by have := (List.getElem?_eq_some_iff.mp hk).1; rw [inOrder_len] at this; omega
    rw [drop_at hk] at wi
    obtain ⟨w1, w2, w3⟩ := wi
    have gb := gain_bd g wb km (Nw.wt ws k)
    have tb := tot_next bd gb
    refine qd (d := eQ (tot + Nw.gain R b k (Nw.wt ws k))) (ed_plus (ed_var rfl) (eg_call (ea_cons (ed_var rfl) (ea_cons (ed_var rfl) (ea_cons (ed_var rfl) (ea_cons (ed_ixL (el_dat (ed_var rfl)) (ed_var rfl) (atI_at (at_ws (by rw [rd.len]; exact km)))) ea_nil)))) ⟨R, b, k, Nw.wt ws k, rfl, ⟨D, g, wb⟩, km, rfl⟩) (tot_z g bd (by omega)) (g.z gb)) ?_
    refine sg_if (b := false) (eb_or (a := false) (b := false) (eb_is (eb_B (ed_under (ed_var rfl) (ed_var rfl) (most_z g pm) (tot_z g tb (by omega)))) (decide_eq_false w1)) fun _ => eb_is (eb_B (ed_under (b := 0 - Nw.most R (Nw.partedL R b)) (ed_var rfl) (ed_minus (ed_nought T) (ed_var rfl) Z.zero (most_z g pm)) (tot_z g tb (by omega)) (neg_most_z g pm))) (decide_eq_false w2)) (fun z => by cases z) fun _ => sg_next ⟨_, .same (.same (.same (.same (.un (.un (.same (.same .nil))))))), lq_refl ⟨_, rfl, w3, tb⟩⟩
  · rintro Γ' _
    exact sg_ret ed_bl rfl
theorem sc_behind_or_none : FnScope ["ring", "sending", "thing", "found"] ["ring", "sending", "thing"] (defScope s_behind_or_none) := ⟨rfl, rfl, rfl, by decide +kernel, rfl, by decide +kernel, by decide +kernel⟩
theorem has_behind_or_none (T : Tx K mg) (h_slid_by : Has P w K mg base 6 "slid_by" 3 P_slid_by) : Has P w K mg base 7 "behind_or_none" 3 P_behind_or_none := by
  refine has_mk (N := ["ring", "sending", "thing", "found"]) (ps := ["ring", "sending", "thing"]) (k := 6) T.d_behind_or_none sc_behind_or_none (fun _ _ _ _ _ _ us hl => match us, hl with | [_, _, _], _ => rfl) (fun ds r hp => ?_) (fun f cdv A outer s H E hr => ⟨_, (pss_cons (ps_set (i := 3) sc_behind_or_none.nd rfl (Or.inl rfl) pe_non)
  (pss_cons (ps_try_thru0 (pss_one (ps_set (i := 3) sc_behind_or_none.nd rfl (Or.inl rfl) (pe_hasK h_slid_by (hr.mono (by decide)) (by rfl) (pa_cons (pv 0) (pa_cons (pv 1) (pa_cons (pv 2) pa_nil)))))))
  (pss_one (ps_ret (pv 3))))), ?_⟩)
  · rcases hp with ⟨_, _, _, rfl, _⟩
    rfl
  rintro ds r hp
  obtain ⟨R, s, zs, rfl, ex, ok, rfl⟩ := id hp
  refine qd ed_non ?_
  refine qd (d := eS (Nw.behind s zs)) (eg_call (ea_cons (ed_var rfl) (ea_cons (ed_var rfl) (ea_cons (ed_var rfl) ea_nil))) hp) ?_
  exact sg_ret (ed_var rfl) rfl
theorem sc_lets_rounding : FnScope ["ring", "sending", "thing", "behind"] ["ring", "sending", "thing"] (defScope s_lets_rounding) := ⟨rfl, rfl, rfl, by decide +kernel, rfl, by decide +kernel, by decide +kernel⟩
theorem has_lets_rounding (T : Tx K mg) (h_all_cross : Has P w K mg base 2 "all_cross" 2 P_all_cross) (h_are_rounded : Has P w K mg base 6 "are_rounded" 3 P_are_rounded) (h_are_ways : Has P w K mg base 1 "are_ways" 2 P_are_ways) (h_behind_or_none : Has P w K mg base 7 "behind_or_none" 3 P_behind_or_none) (h_parted_in : Has P w K mg base 3 "parted_in" 2 P_parted_in) : Has P w K mg base 8 "lets_rounding" 3 P_lets_rounding := by
  refine has_mk (N := ["ring", "sending", "thing", "behind"]) (ps := ["ring", "sending", "thing"]) (k := 7) T.d_lets_rounding sc_lets_rounding (fun _ _ _ _ _ _ us hl => match us, hl with | [_, _, _], _ => rfl) (fun ds r hp => ?_) (fun f cdv A outer s H E hr => ⟨_, (pss_cons (ps_if (PW.pt (pw_or (pt_not (pt_val (pe_callB (isiK K) (by rfl) T.isinstance bb_isinstance (pa_cons (pv 2) (pa_cons (pe_bltn (v := .ty "tuple") (by rfl) T.tuple bb_tuple rfl) pa_nil))))) (pw_or (pt_cmpR (neK K hr.units) (pe_callB (lenK K) (by rfl) T.len bb_len (pa_cons (pv 2) pa_nil)) pe_int (nomark _)) (pw_or1 (pt_not (pt_val (pe_hasK h_are_ways (hr.mono (by decide)) (by rfl) (pa_cons (pv 0) (pa_cons (pe_ix (ixK K) (pv 2) pe_int (fun _ _ => rfl)) pa_nil))))))))) (pss_one (ps_ret pe_bl)) pss_nil)
  (pss_cons (ps_set (i := 3) sc_lets_rounding.nd rfl (Or.inl rfl) (pe_hasK h_behind_or_none (hr.mono (by decide)) (by rfl) (pa_cons (pv 0) (pa_cons (pv 1) (pa_cons (pe_ix (ixK K) (pv 2) pe_int (fun _ _ => rfl)) pa_nil)))))
  (pss_cons (ps_if (PW.pt (pw_or (pt_cmp (pc_isN (pv 3)) rfl) (pw_or1 (pt_not (pt_val (pe_hasK h_all_cross (hr.mono (by decide)) (by rfl) (pa_cons (pv 0) (pa_cons (pe_hasK h_parted_in (hr.mono (by decide)) (by rfl) (pa_cons (pv 0) (pa_cons (pv 3) pa_nil))) pa_nil)))))))) (pss_one (ps_ret pe_bl)) pss_nil)
  (pss_one (ps_ret (pe_hasK h_are_rounded (hr.mono (by decide)) (by rfl) (pa_cons (pv 0) (pa_cons (pv 3) (pa_cons (pe_ix (ixK K) (pv 2) pe_int (fun _ _ => rfl)) pa_nil))))))))), ?_⟩)
  · rcases hp with ⟨_, _, _, _, rfl, _⟩
    rfl
  rintro ds r ⟨R, s, zs, ws, rfl, ⟨D, g, wb, am⟩, ok, cr, rd, rfl⟩
  have w2 : Ws R D (Nw.behind s zs) := by
    have h := (am_slid wb ok am zs.length).1
    rw [List.take_length] at h
    exact h
  refine q0 (eb_or (a := false) (b := false) (eb_not (b := true) (eb_B (ed_isi (ed_var rfl) k_tt))) fun _ => eb_or (a := false) (b := false) (eb_is (eb_test (ed_neI (ed_lenT (ed_var rfl)) ed_int)) (by simp)) fun _ => eb_not (b := true) (eb_B (eg_call (ea_cons (ed_var rfl) (ea_cons (ed_ixT (ed_var rfl) ed_int rfl) ea_nil)) ⟨R, ws, rfl, rd.len, g.m8, rfl⟩))) ?_
  refine qd (d := eS (Nw.behind s zs)) (eg_call (ea_cons (ed_var rfl) (ea_cons (ed_var rfl) (ea_cons (ed_ixT (ed_var rfl) ed_int rfl) ea_nil))) ⟨R, s, zs, rfl, ⟨D, g, wb, am⟩, ok, rfl⟩) ?_
  refine q0 (eb_or (a := false) (b := false) (eb_B (ed_isN (x := eS (Nw.behind s zs)) (ed_var rfl))) fun _ => eb_not (b := true) (eb_B (eg_call (ea_cons (ed_var rfl) (ea_cons (ed_of_own (eg_call (ea_cons (ed_var rfl) (ea_cons (ed_var rfl) ea_nil)) ⟨R, _, rfl, ⟨D, g, w2⟩, rfl⟩)) ea_nil)) ⟨R, _, rfl, fun k hk => parted_m hk, cr, rfl⟩))) ?_
  exact sg_ret (eg_call (ea_cons (ed_var rfl) (ea_cons (ed_var rfl) (ea_cons (ed_ixT (ed_var rfl) ed_int rfl) ea_nil))) ⟨R, _, ws, rfl, ⟨D, g, w2⟩, rd, rfl⟩) rfl
def bAt (R : Nw.Ring) (b : List Rat) (k : Nat) : Bool := decide (k ∈ Nw.partedL R b) || decide (Nw.gone R b k true = (R.at k).size)
def wbs (R : Nw.Ring) (b : List Rat) (j : Nat) : List PyData := (List.range R.m).map fun k => eW (if k < j then bAt R b k else true)
theorem wbs_len {R : Nw.Ring} {b : List Rat} {j : Nat} : (wbs R b j).length = R.m := by unfold wbs; rw [List.length_map, List.length_range]
theorem wbs_at {R : Nw.Ring} {b : List Rat} {j i : Nat} (h : i < R.m) : (wbs R b j)[i]? = some (eW (if i < j then bAt R b i else true)) := at_map_range h
theorem wbs_set {R : Nw.Ring} {b : List Rat} {j : Nat} (h : j < R.m) (x : PyData) (hx : x = eW (bAt R b j)) : (wbs R b j).set j x = wbs R b (j + 1) := by
  refine List.ext_getElem? fun i => ?_
  rw [List.getElem?_set, wbs_len]
  by_cases hi : i < R.m
  · rw [wbs_at hi, wbs_at hi]
    by_cases e : j = i
    · subst e
      rw [if_pos rfl, if_pos h, if_pos (by omega), hx]
    · rw [if_neg e]
      by_cases c : i < j
      · rw [if_pos c, if_pos (by omega)]
      · rw [if_neg c, if_neg (by omega)]
  · rw [if_neg (by omega), List.getElem?_eq_none (by rw [wbs_len]; omega), List.getElem?_eq_none (by rw [wbs_len]; omega)]
theorem wbs_same {R : Nw.Ring} {b : List Rat} {j : Nat} (h : j < R.m) (e : bAt R b j = true) : wbs R b j = wbs R b (j + 1) := by
  rw [← wbs_set h (eW true) (by rw [e])]
  refine (List.ext_getElem? fun i => ?_).symm
  rw [List.getElem?_set, wbs_len]
  by_cases c : j = i
  · subst c
    rw [if_pos rfl, if_pos h, wbs_at h, if_neg (by omega)]
  · rw [if_neg c]
theorem sc_whole_ways : FnScope ["ring", "behind", "ways", "parted", "k", "most", "total", "ask"] ["ring", "behind"] (defScope s_whole_ways) := ⟨rfl, rfl, rfl, by decide +kernel, rfl, by decide +kernel, by decide +kernel⟩
theorem has_whole_ways (T : Tx K mg) (h_gain_by : Has P w K mg base 5 "gain_by" 4 P_gain_by) (h_goes_whole : Has P w K mg base 5 "goes_whole" 4 P_goes_whole) (h_half_of_greatest : Has P w K mg base 4 "half_of_greatest" 2 P_half_of_greatest) (h_in_order : Has P w K mg base 1 "in_order" 2 P_in_order) (h_other_way : Has P w K mg base 1 "other_way" 1 P_other_way) (h_parted_in : Has P w K mg base 3 "parted_in" 2 P_parted_in) (h_plus : Has P w K mg base 3 "plus" 2 P_plus) (h_rising_way : Has P w K mg base 1 "rising_way" 2 P_rising_way) (h_under : Has P w K mg base 1 "under" 2 P_under) : Has P w K mg base 6 "whole_ways" 2 P_whole_ways := by
  refine has_mk (N := ["ring", "behind", "ways", "parted", "k", "most", "total", "ask"]) (ps := ["ring", "behind"]) (k := 5) T.d_whole_ways sc_whole_ways (fun _ _ _ _ _ _ us hl => match us, hl with | [_, _], _ => rfl) (fun ds r hp => ?_) (fun f cdv A outer s H E hr => ⟨_, (pss_cons (ps_setLc (i := 2) (own := [("ask", 7)]) (g := gName 7) rfl sc_whole_ways.nd rfl rfl (sw_true rfl rfl rfl (by decide +kernel)) (pi_listK K (pe_ix (ixK K) (pv 0) pe_int (fun _ _ => rfl))) (blkOk_by (own := [("ask", 7)]) (N := ["ring", "behind", "ways", "parted", "k", "most", "total", "ask"]) (sc := (defScope s_whole_ways)) (by decide +kernel)) (fun _ _ _ _ _ => pg_name (i := 7) sc_whole_ways.nd rfl (Or.inl rfl)) (fun _ _ _ _ _ => pts_nil) (fun _ _ _ _ _ => by exact (pe_gstr (by rfl) T.g_ON)))
  (pss_cons (ps_set (i := 3) sc_whole_ways.nd rfl (Or.inl rfl) (pe_hasK h_parted_in (hr.mono (by decide)) (by rfl) (pa_cons (pv 0) (pa_cons (pv 1) pa_nil))))
  (pss_cons (ps_for PassesOwn.never rfl (pi_range1 rfl T.range (pa_cons (pe_callB (lenK K) (by rfl) T.len bb_len (pa_cons (pv 2) pa_nil)) pa_nil)) (pg_name (i := 4) sc_whole_ways.nd rfl (Or.inl rfl))
  (pss_one (ps_if (PW.pt (pw_and (pt_cmpR (ninK K) (pv 4) (pv 3) (by rfl)) (pw_and1 (pt_not (pt_val (pe_hasK h_goes_whole (hr.mono (by decide)) (by rfl) (pa_cons (pv 0) (pa_cons (pv 1) (pa_cons (pv 4) (pa_cons (pe_gstr (by rfl) T.g_ON) pa_nil)))))))))) (pss_one (ps_asg (pe_gstr (by rfl) T.g_BACK) (pg_sub (pv 2) (pv 4) set_list))) pss_nil)))
  (pss_cons (ps_set (i := 5) sc_whole_ways.nd rfl (Or.inl rfl) (pe_hasK h_half_of_greatest (hr.mono (by decide)) (by rfl) (pa_cons (pv 0) (pa_cons (pv 3) pa_nil))))
  (pss_cons (ps_set (i := 6) sc_whole_ways.nd rfl (Or.inl rfl) (pe_glob (v := .ref 80) (by rfl) T.g_NOUGHT rfl))
  (pss_cons (ps_for PassesOwn.never rfl (pi_listK K (pe_hasK h_in_order (hr.mono (by decide)) (by rfl) (pa_cons (pv 0) (pa_cons (pv 3) pa_nil)))) (pg_name (i := 4) sc_whole_ways.nd rfl (Or.inl rfl))
  (pss_cons (ps_asg (pe_hasK h_rising_way (hr.mono (by decide)) (by rfl) (pa_cons (pv 0) (pa_cons (pv 4) pa_nil))) (pg_sub (pv 2) (pv 4) set_list))
  (pss_cons (ps_if (pt_val (pe_hasK h_under (hr.mono (by decide)) (by rfl) (pa_cons (pv 5) (pa_cons (pe_hasK h_plus (hr.mono (by decide)) (by rfl) (pa_cons (pv 6) (pa_cons (pe_hasK h_gain_by (hr.mono (by decide)) (by rfl) (pa_cons (pv 0) (pa_cons (pv 1) (pa_cons (pv 4) (pa_cons (pe_ix (ixK K) (pv 2) (pv 4) (fun _ _ => rfl)) pa_nil))))) pa_nil))) pa_nil)))) (pss_one (ps_asg (pe_hasK h_other_way (hr.mono (by decide)) (by rfl) (pa_cons (pe_ix (ixK K) (pv 2) (pv 4) (fun _ _ => rfl)) pa_nil)) (pg_sub (pv 2) (pv 4) set_list))) pss_nil)
  (pss_one (ps_set (i := 6) sc_whole_ways.nd rfl (Or.inl rfl) (pe_hasK h_plus (hr.mono (by decide)) (by rfl) (pa_cons (pv 6) (pa_cons (pe_hasK h_gain_by (hr.mono (by decide)) (by rfl) (pa_cons (pv 0) (pa_cons (pv 1) (pa_cons (pv 4) (pa_cons (pe_ix (ixK K) (pv 2) (pv 4) (fun _ _ => rfl)) pa_nil))))) pa_nil))))))))
  (pss_one (ps_ret (pv 2))))))))), ?_⟩)
  · rcases hp with ⟨_, _, rfl, _⟩
    rfl
  rintro ds r ⟨R, b, rfl, ⟨D, g, wb⟩, rfl⟩
  have m8 := g.m8
  have pm : ∀ k ∈ Nw.partedL R b, k < R.m := fun k hk => parted_m hk
  have pl : (Nw.partedL R b).length ≤ 8 := by have := Nw.partedL_len (R := R) (s := b); omega
  refine qo (ds := wbs R b 0) (own_is (lc_L (vs := [7]) (ds := R.asks.map eAsk) (fun _ => true) (fun _ => eW true) (fun i hi => by rw [List.mem_singleton.mp hi]; rfl) (by decide) (ed_asks (ed_var rfl)) (by rw [List.length_map]; have : R.asks.length ≤ 8 := m8; omega) (fun _ _ _ => eb_yes) (fun i d hd _ => ed_str)) ?_) ?_
  · rw [told_all, List.length_map]
    unfold wbs
    refine List.map_congr_left fun i _ => ?_
    rw [if_neg (by omega)]
  refine qd (d := eNs (Nw.partedL R b)) (ed_of_own (eg_call (ea_cons (ed_var rfl) (ea_cons (ed_var rfl) ea_nil)) ⟨R, b, rfl, ⟨D, g, wb⟩, rfl⟩)) ?_
  refine sg_seq (N' := fun Γ' => Γ' = [.dat (eRing R), .dat (eS b), .own (wbs R b R.m), .dat (eNs (Nw.partedL R b)), .un, .un, .un, .un]) (sg_forR (n := R.m) (fun i Γ' => Γ' = [.dat (eRing R), .dat (eS b), .own (wbs R b i), .dat (eNs (Nw.partedL R b)), .un, .un, .un, .un]) (ea_cons (ed_is (ed_lenL (el_own rfl)) (by rw [wbs_len])) ea_nil) (by omega) ⟨_, Le.refl _, rfl⟩ ?_ fun Γ' e => lq_refl e) ?_
  · rintro k Γ' hk rfl
    refine sg_if (b := !bAt R b k) (eb_is (eb_and (eb_test (ed_ninN (ed_var rfl) (el_dat (ed_var rfl)))) fun _ => eb_not (eb_B (eg_call (ea_cons (ed_var rfl) (ea_cons (ed_var rfl) (ea_cons (ed_var rfl) (ea_cons ed_str ea_nil)))) ⟨R, b, k, true, rfl, ⟨D, g, wb⟩, hk, rfl⟩))) (by unfold bAt; rw [Bool.not_or])) (fun h => ?_) fun h => ?_
    · have h' : bAt R b k = false := by simpa using h
      refine sg_put (j := k) (d := eW false) ed_str rfl (ed_var rfl) (by rw [wbs_len]; exact hk) ⟨_, .same (.same (.same (.same (.un (.un (.un (.un .nil))))))), lq_refl ?_⟩
      rw [wbs_set hk _ (by rw [h'])]
    · have h' : bAt R b k = true := by simpa using h
      refine sg_next ⟨_, .same (.same (.same (.same (.un (.un (.un (.un .nil))))))), lq_refl ?_⟩
      rw [wbs_same hk h']
  rintro Γ' rfl
  have eb : wbs R b R.m = (Nw.baseWays R b).map eW := by
    unfold wbs Nw.baseWays
    rw [List.map_map]
    refine List.map_congr_left fun i hi => ?_
    rw [if_pos (List.mem_range.mp hi)]
    rfl
  rw [eb]
  refine qd (d := eQ (Nw.most R (Nw.partedL R b))) (eg_call (ea_cons (ed_var rfl) (ea_cons (ed_var rfl) ea_nil)) ⟨R, _, rfl, ⟨D, g⟩, pm, rfl⟩) ?_
  refine qd (d := eQ 0) (ed_nought T) ?_
  refine sg_seq (N' := fun Γ' => ∃ x, Γ' = [.dat (eRing R), .dat (eS b), .own ((Nw.wholeWays R b).map eW), .dat (eNs (Nw.partedL R b)), .un, .dat (eQ (Nw.most R (Nw.partedL R b))), x, .un]) (sg_forL (fun i Γ' => ∃ ws tot, Γ' = [.dat (eRing R), .dat (eS b), .own (List.map eW ws), .dat (eNs (Nw.partedL R b)), .un, .dat (eQ (Nw.most R (Nw.partedL R b))), .dat (eQ tot), .un] ∧ Nw.waysGo R b (Nw.most R (Nw.partedL R b)) ((Nw.inOrder R (Nw.partedL R b)).drop i) ws tot = Nw.wholeWays R b ∧ ws.length = R.m ∧ Bd D (i * 2 ^ 42) tot) (ed_of_own (eg_call (ea_cons (ed_var rfl) (ea_cons (ed_var rfl) ea_nil)) ⟨R, _, rfl, pm, pl, rfl⟩)) ⟨_, Le.refl _, Nw.baseWays R b, 0, rfl, rfl, Nw.baseWays_len, by rw [Nat.zero_mul]; exact Bd.zero⟩ ?_ ?_) ?_
  · rintro i d Γ' hd ⟨ws, tot, rfl, e, wl, bd⟩
    obtain ⟨k, hk, rfl⟩ := map_at hd
    have km := pm k (Nw.inOrder_perm.mem_iff.mp (List.mem_of_getElem? hk))
    have i8 : i < 8 := by have := (List.getElem?_eq_some_iff.mp hk).1; rw [inOrder_len] at this; omega
    rw [drop_at hk] at e
    unfold Nw.waysGo at e
    have rdw : ∀ {Γ : List Sl} {v : List Bool}, v.length = R.m → Γ[2]? = some (.own (v.map eW)) → Γ[4]? = some (.dat (eN k)) → ED J0 K Γ (tOp (rIx K) (tVar 2) (tVar 4)) (eW (Nw.wt v k)) := fun hv h1 h2 => ed_ixL (el_own h1) (ed_var h2) (atI_at (at_ws (by rw [hv]; exact km)))
    have gn : ∀ {Γ : List Sl} {v : List Bool}, v.length = R.m → Γ[0]? = some (.dat (eRing R)) → Γ[1]? = some (.dat (eS b)) → Γ[2]? = some (.own (v.map eW)) → Γ[4]? = some (.dat (eN k)) → ED J0 K Γ (tCall (spF K P_gain_by) [] E0 (tCons (tVar 0) (tCons (tVar 1) (tCons (tVar 4) (tCons (tOp (rIx K) (tVar 2) (tVar 4)) tNil))))) (eQ (Nw.gain R b k (Nw.wt v k))) := fun hv h0 h1 h2 h4 => eg_call (ea_cons (ed_var h0) (ea_cons (ed_var h1) (ea_cons (ed_var h4) (ea_cons (rdw hv h2 h4) ea_nil)))) ⟨R, b, k, _, rfl, ⟨D, g, wb⟩, km, rfl⟩
    have zt := tot_z g bd (show i ≤ 9 by omega)
    have zm := most_z g pm
    have wd : Nw.wt (ws.set k (Nw.dir (R.at k))) k = Nw.dir (R.at k) := by rw [Nw.wt_set (by rw [wl]; exact km), if_pos rfl]
    have l1 : (ws.set k (Nw.dir (R.at k))).length = R.m := by rw [List.length_set]; exact wl
    refine sg_seq (N' := fun Γ' => Γ' = [.dat (eRing R), .dat (eS b), .own ((ws.set k (Nw.dir (R.at k))).map eW), .dat (eNs (Nw.partedL R b)), .dat (eN k), .dat (eQ (Nw.most R (Nw.partedL R b))), .dat (eQ tot), .un]) (sg_put (j := k) (d := eW (Nw.dir (R.at k))) (eg_call (ea_cons (ed_var rfl) (ea_cons (ed_var rfl) ea_nil)) ⟨R, k, rfl, km, rfl⟩) rfl (ed_var rfl) (by rw [List.length_map, wl]; exact km) ⟨_, Le.refl _, by rw [← List.map_set]; rfl⟩) ?_
    rintro Γ' rfl
    have gb1 := gain_bd g wb km (Nw.dir (R.at k))
    refine sg_seq (N' := fun Γ' => Γ' = [.dat (eRing R), .dat (eS b), .own ((ws.set k (Nw.pick R b (Nw.most R (Nw.partedL R b)) tot k)).map eW), .dat (eNs (Nw.partedL R b)), .dat (eN k), .dat (eQ (Nw.most R (Nw.partedL R b))), .dat (eQ tot), .un]) (sg_if (eb_B (ed_under (b := tot + Nw.gain R b k (Nw.dir (R.at k))) (ed_var rfl) (ed_plus (ed_var rfl) (ed_is (gn l1 rfl rfl rfl rfl) (by rw [wd])) zt (g.z gb1)) zm (tot_z g (tot_next bd gb1) (by omega)))) (fun h => ?_) fun h => ?_) ?_
    · refine sg_put (j := k) (d := eW (!Nw.dir (R.at k))) (eg_call (ea_cons (ed_is (rdw l1 rfl rfl) (by rw [wd])) ea_nil) ⟨_, rfl, rfl⟩) rfl (ed_var rfl) (by rw [List.length_map, l1]; exact km) ⟨_, Le.refl _, ?_⟩
      have e1 : Nw.pick R b (Nw.most R (Nw.partedL R b)) tot k = !Nw.dir (R.at k) := by unfold Nw.pick; rw [if_pos (of_decide_eq_true h)]
      rw [← List.map_set, List.set_set, e1]
      rfl
    · have e1 : Nw.pick R b (Nw.most R (Nw.partedL R b)) tot k = Nw.dir (R.at k) := by unfold Nw.pick; rw [if_neg (of_decide_eq_false h)]
      rw [e1]
      exact sg_next (lq_refl rfl)
    · rintro Γ' rfl
      have wd2 : Nw.wt (ws.set k (Nw.pick R b (Nw.most R (Nw.partedL R b)) tot k)) k = Nw.pick R b (Nw.most R (Nw.partedL R b)) tot k := by rw [Nw.wt_set (by rw [wl]; exact km), if_pos rfl]
      have l2 : (ws.set k (Nw.pick R b (Nw.most R (Nw.partedL R b)) tot k)).length = R.m := by rw [List.length_set]; exact wl
      have gb2 := gain_bd g wb km (Nw.pick R b (Nw.most R (Nw.partedL R b)) tot k)
      exact sg_asg (d := eQ (tot + Nw.gain R b k (Nw.pick R b (Nw.most R (Nw.partedL R b)) tot k))) (ed_plus (ed_var rfl) (ed_is (gn l2 rfl rfl rfl rfl) (by rw [wd2])) zt (g.z gb2)) ⟨_, .same (.same (.same (.same (.un (.same (.same (.same .nil))))))), lq_refl ⟨_, _, rfl, e, l2, tot_next bd gb2⟩⟩
  · rintro Γ' ⟨ws, tot, rfl, e, wl, bd⟩
    rw [List.length_map, List.drop_length] at e
    exact lq_refl ⟨_, by rw [← e]; rfl⟩
  · rintro Γ' ⟨x, rfl⟩
    exact sg_retO rfl rfl
end
end NwB
end NwC2_
section NwD1_
set_option Elab.async false
set_option linter.all false
set_option maxRecDepth 100000
set_option maxHeartbeats 4000000
namespace NwB
open PySem PySem.Spec PyProof.Rows L2 NwT
open Evl (Ex)
def retE : Stmt → Expr
  | .Return (some e) _ => e
  | _ => .Name "" ⟨0, 0, 0, 0⟩
section
variable {J : Ji} {K : PySem.W.Frag} {H H1 H' : Hp} {O : List Addr} {σ : L2.St} {Γ : List Sl} {te tl ta : TE}
theorem own_range {n : Nat} (ha : ED J K Γ ta (eN n)) (hn : n ≤ 100000) : EG J K Γ (tLstRg (tRg1 ta)) (.own ((List.range n).map eN)) := fun O σ H e Q q =>
  ha O σ H e _ fun v H1 x1 r1 => by
    rw [dp_int r1]
    refine ⟨n, rfl, RgOk.of_le (by omega) (by omega) (by omega) (by omega), fun l hl => ?_⟩
    have r : DpAll K (hide H1 (ows σ Γ ++ O)) (rgV 0 (n : Int)) ((List.range n).map eN) := by
      unfold rgV
      rw [show ((n : Int) - 0).toNat = n by omega]
      have key : ∀ l : List Nat, DpAll K (hide H1 (ows σ Γ ++ O)) (l.map fun i => V.int (0 + (i : Nat))) (l.map eN) := by
        intro l
        induction l with
        | nil => exact .nil
        | cons a l ih =>
          refine .cons ?_ ih
          show Dp K _ (V.int (0 + ((a : Nat) : Int))) _
          rw [Int.zero_add]
          exact .int _
      exact key _
    obtain ⟨a, b⟩ := own_mk x1 hl r
    exact q _ _ a b
/-! ### a new list of new lists -/
def RowsOk (K : PySem.W.Frag) (H H2 : Hp) (W : List Addr) (n : Nat) (f : Nat → List PyData) (rows : List Addr) : Prop :=
  rows.length = n ∧ rows.Nodup ∧ (∀ r ∈ rows, H r = none) ∧ ∀ (i : Nat) (r : Addr), rows[i]? = some r → ∃ rv, H2 r = some (.lst rv) ∧ DpAll K (hide H2 W) rv (f i)
def rowsP (K : PySem.W.Frag) (n : Nat) (f : Nat → List PyData) : Post where
  val H H2 O v := ∃ lt rows, v = .ref lt ∧ H lt = none ∧ H2 lt = some (.lst (rows.map V.ref)) ∧ lt ∉ rows ∧ RowsOk K H H2 (lt :: (rows ++ O)) n f rows
  back := fun {H H1 H2 O v} e h => by
    obtain ⟨lt, rows, h1, h2, h3, h4, h5, h6, h7, h8⟩ := h
    exact ⟨lt, rows, h1, Evl.fresh_back e h2, h3, h4, h5, h6, fun r hr => Evl.fresh_back e (h7 r hr), h8⟩
  sub := fun {H H2 O O' v} s h => by
    obtain ⟨lt, rows, h1, h2, h3, h4, h5, h6, h7, h8⟩ := h
    refine ⟨lt, rows, h1, h2, h3, h4, h5, h6, h7, fun i r hr => ?_⟩
    obtain ⟨rv, a, b⟩ := h8 i r hr
    refine ⟨rv, a, DpAll.ex b (hide_sub fun x hx => ?_)⟩
    rcases List.mem_cons.mp hx with rfl | hx
    · exact List.mem_cons_self ..
    · refine List.mem_cons_of_mem _ ?_
      rcases List.mem_append.mp hx with hx | hx
      · exact List.mem_append_left _ hx
      · exact List.mem_append_right _ (s x hx)
theorem hide_news {H : Hp} {O : List Addr} : ∀ L : List Addr, (∀ p ∈ L, H p = none) → hide H (L ++ O) = hide H O
  | [], _ => rfl
  | p :: L, h => by
    have hp := h p (List.mem_cons_self ..)
    show hide H (p :: (L ++ O)) = _
    rw [hide_new hp, hide_news L fun q hq => h q (List.mem_cons_of_mem _ hq)]
theorem ji_news {W : List Addr} : ∀ L : List Addr, (∀ p ∈ L, H p = none) → J.val W H → J.val (L ++ W) H
  | [], _, h => h
  | p :: L, hL, h => J.new (hL p (List.mem_cons_self ..)) (ji_news L (fun q hq => hL q (List.mem_cons_of_mem _ hq)) h)
theorem envl_news : ∀ L : List Addr, (∀ p ∈ L, H p = none) → EnvL K H O σ Γ → EnvL K H (L ++ O) σ Γ
  | [], _, h => h
  | p :: L, hL, h => EnvL.hidden (hL p (List.mem_cons_self ..)) (envl_news L (fun q hq => hL q (List.mem_cons_of_mem _ hq)) h)
theorem env_news {L : List Addr} (h : Env J K O H1 σ Γ) (hL : ∀ p ∈ L, H1 p = none) (e : Ex H1 H') (h2 : ∀ p ∈ L, H' p ≠ none) : Env J K (L ++ O) H' σ Γ := by
  have key : ∀ a, a ∈ ows σ Γ ++ (L ++ O) → a ∈ L ++ (ows σ Γ ++ O) := fun a ha => by
    simp only [List.mem_append] at ha ⊢
    rcases ha with ha | ha | ha
    · exact .inr (.inl ha)
    · exact .inl ha
    · exact .inr (.inr ha)
  refine ⟨((envl_news L hL h.sl).mono e).sub key, fun p hp z => ?_, fun p hp => ?_, fun a ha => List.mem_append_right _ (h.foot a ha), J.sub key (fun a ha => List.mem_append_right _ (List.mem_append_right _ (h.foot a ha))) (J.ex e (ji_news L hL h.inv))⟩
  · rcases List.mem_append.mp z with z | z
    · exact h.there p (List.mem_append_left _ hp) (hL p z)
    · exact h.dis p hp z
  · rcases List.mem_append.mp hp with hp | hp
    · exact h2 p hp
    · exact (h.mono e).all p hp
theorem lc_rows {j : Nat} {vs : List Nat} {ds : List PyData} (f : Nat → List PyData) (hv : ∀ i ∈ vs, Γ[i]? = some .un) (hj : j ∈ vs) (hl : ED J K Γ tl (.list ds)) (hz : ds.length ≤ 40000)
    (he : ∀ (i : Nat) (d : PyData), ds[i]? = some d → EG J K (Γ.set j (.dat d)) te (.own (f i))) : EG J K Γ (tLc (iList K tl) (gName j) tYes te vs) (.raw (rowsP K ds.length f)) := fun O σ H e Q q =>
  hl O σ H e _ fun v H1 x1 r1 => by
    obtain ⟨p, ws, rfl, a1, a2⟩ := dp_lst r1
    refine ⟨p, rfl, ⟨ws, Evl.ex_l hide_le a1⟩, fun D hD => ?_⟩
    have e1 := e.mono x1
    obtain ⟨w1, w2⟩ := env_wipe hv e1
    refine lc_list (xs := ws) (fun i H' => Ex H1 H' ∧ ∃ rows : List Addr, H' D = some (.lst (rows.map V.ref)) ∧ D ∉ rows ∧ RowsOk K H1 H' (D :: (rows ++ (ows σ Γ ++ O))) i f rows) ⟨Evl.Ex.new hD, [], upd_same, by simp, rfl, List.nodup_nil, by simp, by simp⟩ (fun i H' _ c => Evl.ex_l c.1 (Evl.ex_l hide_le a1)) (fun i u H' hx c => ?_) (fun H' c => ?_)
    · obtain ⟨c3, rows, k1, k2, k3, k4, k5, k6⟩ := c
      obtain ⟨d, d1, d2⟩ := a2.get' hx
      have hi : i < ds.length := (List.getElem?_eq_some_iff.mp d1).1
      have hL : ∀ p ∈ D :: rows, H1 p = none := fun p hp => (List.mem_cons.mp hp).elim (fun z => by rw [z]; exact hD) (k5 p)
      have hL2 : ∀ p ∈ D :: rows, H' p ≠ none := fun p hp => by
        rcases List.mem_cons.mp hp with rfl | hp
        · rw [k1]
          simp
        · obtain ⟨n, hn⟩ := List.mem_iff_getElem?.mp hp
          obtain ⟨rv, z, _⟩ := k6 n p hn
          rw [z]
          simp
      have s := env_news (L := D :: rows) w1 hL c3 hL2
      have mem : ∀ a, a ∈ ows (wipe σ vs) Γ ++ (D :: rows ++ O) ↔ a ∈ D :: (rows ++ (ows σ Γ ++ O)) := fun a => by
        rw [w2]
        simp only [List.mem_append, List.mem_cons, List.cons_append]
        constructor
        · rintro (h | h | h | h)
          · exact .inr (.inr (.inl h))
          · exact .inl h
          · exact .inr (.inl h)
          · exact .inr (.inr (.inr h))
        · rintro (h | h | h | h)
          · exact .inr (.inl h)
          · exact .inr (.inr (.inl h))
          · exact .inl h
          · exact .inr (.inr (.inr h))
      have hdx : Dp K (hide H' (ows (wipe σ vs) Γ ++ (D :: rows ++ O))) u d := by
        have h1 : Dp K (hide H1 ((D :: rows) ++ (ows σ Γ ++ O))) u d := by rw [hide_news _ hL]; exact d2
        rw [hide_cong mem]
        exact Dp.ex h1 (hide_ex c3)
      obtain ⟨s2, _⟩ := s.setD hdx j
      have hu := ows_set_un (σ := wipe σ vs) (v := some u) (d := d) (hv j hj)
      refine ⟨wipe_set hj _ (wipe_length σ vs) fun i hi hn => wipe_off hi hn, ?_⟩
      show te _ H' _
      refine he i d d1 _ _ _ s2 _ fun y H4 x4 r4 => ?_
      obtain ⟨r, rv, rfl, n1, n2, n3⟩ := r4
      have rD : r ≠ D := fun z => hL2 D (List.mem_cons_self ..) (by rw [← z]; exact n1)
      have rR : r ∉ rows := fun z => hL2 r (List.mem_cons_of_mem _ z) n1
      refine ⟨_, x4 _ _ k1, ?_, Evl.Ex.mut (c3.trans x4) hD, rows ++ [r], ?_, ?_, ?_, ?_, ?_, ?_⟩
      · rw [List.length_map, k3]
        exact Evl.sz_lt (by omega)
      · rw [upd_same, List.map_append]
        rfl
      · simp only [List.mem_append, List.mem_singleton]
        rintro (h | h)
        · exact k2 h
        · exact rD h.symm
      · rw [List.length_append, k3]
        rfl
      · rw [List.nodup_append]
        refine ⟨k4, by simp, fun a ha b hb => ?_⟩
        rw [List.mem_singleton.mp hb]
        rintro rfl
        exact rR ha
      · intro a ha
        rcases List.mem_append.mp ha with ha | ha
        · exact k5 a ha
        · rw [List.mem_singleton.mp ha]
          exact Evl.fresh_back c3 n1
      · intro n a ha
        have sub : ∀ x ∈ D :: (rows ++ [r] ++ (ows σ Γ ++ O)), x ∈ r :: (D :: (rows ++ (ows σ Γ ++ O))) := fun x hx => by
          simp only [List.mem_append, List.mem_cons, List.mem_singleton, List.not_mem_nil, or_false] at hx ⊢
          rcases hx with h | (h | h) | h | h
          · exact .inr (.inl h)
          · exact .inr (.inr (.inl h))
          · exact .inl h
          · exact .inr (.inr (.inr (.inl h)))
          · exact .inr (.inr (.inr (.inr h)))
        by_cases hn : n < rows.length
        · rw [List.getElem?_append_left hn] at ha
          obtain ⟨rv', z1, z2⟩ := k6 n a ha
          have aD : a ≠ D := fun z => k2 (by rw [← z]; exact List.mem_of_getElem? ha)
          refine ⟨rv', by rw [upd_ne aD]; exact x4 _ _ z1, ?_⟩
          rw [hide_upd (List.mem_cons_self ..)]
          have h1 : DpAll K (hide H' (r :: (D :: (rows ++ (ows σ Γ ++ O))))) rv' (f n) := by rw [hide_new n1]; exact z2
          exact DpAll.ex (DpAll.ex h1 (hide_ex x4)) (hide_sub sub)
        · have hn' : n = rows.length := by
            have := (List.getElem?_eq_some_iff.mp ha).1
            rw [List.length_append] at this
            simp at this
            omega
          subst hn'
          rw [List.getElem?_append_right (Nat.le_refl _), Nat.sub_self] at ha
          cases (show some r = some a from ha)
          refine ⟨rv, by rw [upd_ne rD]; exact n2, ?_⟩
          rw [hide_upd (List.mem_cons_self ..)]
          rw [k3]
          refine DpAll.ex n3 (hide_sub fun x hx => ?_)
          have hx := sub x hx
          rcases List.mem_cons.mp hx with rfl | hx
          · exact List.mem_cons_self ..
          · refine List.mem_cons_of_mem _ ?_
            rw [hu]
            exact (mem x).mpr hx
    · obtain ⟨c3, rows, k1, k2, k3, k4, k5, k6⟩ := c
      rw [a2.len] at k3 
      refine q _ H' (x1.trans c3) ⟨D, rows, rfl, Evl.fresh_back x1 hD, k1, k2, k3, k4, fun r hr => Evl.fresh_back x1 (k5 r hr), k6⟩
end
def lefts (R : Nw.Ring) (t i : Nat) : List PyData := (List.range R.n).map fun j => eQ (Nw.left R t i j)
theorem left_zero (R : Nw.Ring) (i j : Nat) : Nw.left R 0 i j = Nw.across R (min i j, max i j) := by
  unfold Nw.left
  have e : Nw.S 0 (Nw.crossed R i j) = 0 := rfl
  rw [e]
  have e2 : Nw.S R.m (Nw.crossed R i j) = Nw.across R (min i j, max i j) := rfl
  rw [e2]
  grind
def P_table_of (K : PySem.W.Frag) : Pd := fun ds r => ∃ (R : Nw.Ring), ds = [eRing R] ∧ (∃ D, Rg R D) ∧ r = .raw (rowsP K R.n (lefts R 0))
def P_is_sending : Pd := fun ds r => ∃ (R : Nw.Ring) (s : List Rat), ds = [eRing R, eS s] ∧ (∃ D, Rg R D ∧ Ws R D s) ∧ r = .dat (.bool true)
def P_lets_least : Pd := fun ds r => ∃ (R : Nw.Ring) (top : Rat) (s : List Rat) (c : Nat × Nat), ds = [eRing R, .tuple [eQ top, eS s, eC c]] ∧ (∃ D, Rg R D ∧ Ws R D s) ∧ c.1 ≤ c.2 ∧ c.2 < R.n ∧ (Nw.topOf R s).1 = top ∧ Nw.shown R c = top ∧ r = .dat (.bool true)
section
variable {P : Program} {w : World} {J : Ji} {K : PySem.W.Frag} {mg : Str → Option Value} {base : Heap}
theorem sc_table_of : FnScope ["ring", "ties", "one", "other"] ["ring"] (defScope s_table_of) := ⟨rfl, rfl, rfl, by decide +kernel, rfl, by decide +kernel, by decide +kernel⟩
theorem has_table_of (T : Tx K mg) (h_across : Has P w K mg base 5 "across" 2 P_across) : Has P w K mg base 6 "table_of" 1 (P_table_of K) := by
  refine has_mk (N := ["ring", "ties", "one", "other"]) (ps := ["ring"]) (k := 5) T.d_table_of sc_table_of (fun _ _ _ _ _ _ us hl => match us, hl with | [_], _ => rfl) (fun ds r hp => ?_) (fun f cdv A outer s H E hr => ⟨_, (pss_cons (ps_set (i := 1) sc_table_of.nd rfl (Or.inr rfl) (pe_listRg rfl (by rfl) T.list (prg_1 (by rfl) T.range (pe_callB (lenK K) (by rfl) T.len bb_len (pa_cons (pe_ix (ixK K) (pv 0) pe_int (fun _ _ => rfl)) pa_nil)))))
  (pss_one (ps_ret (pe_lc (own := [("one", 2)]) (g := gName 2) rfl sc_table_of.nd (pi_listK K (pv 1)) (blkOk_by (own := [("one", 2)]) (N := ["ring", "ties", "one", "other"]) (sc := (defScope s_table_of)) (by decide +kernel)) (fun _ _ _ _ _ => pg_name (i := 2) sc_table_of.nd rfl (Or.inr rfl)) (fun _ _ _ _ _ => pts_nil) (fun _ _ _ _ _ => by exact (pe_lc (own := [("other", 3)]) (g := gName 3) rfl sc_table_of.nd (pi_listK K (pv 1)) (blkOk_by (own := [("other", 3)]) (N := ["ring", "ties", "one", "other"]) (sc := (relS (lcSc (retE ((defBody s_table_of).getD 1 s_table_of))) (defScope s_table_of))) (by decide +kernel)) (fun _ _ _ _ _ => pg_name (i := 3) sc_table_of.nd rfl (Or.inl rfl)) (fun _ _ _ _ _ => pts_nil) (fun _ _ _ _ _ => by exact (pe_hasK h_across (hr.mono (by decide)) (by rfl) (pa_cons (pv 0) (pa_cons (pe_tup (pa_cons (pe_callB (call_min2 rfl) (by rfl) T.min bb_min (pa_cons (pv 2) (pa_cons (pv 3) pa_nil))) (pa_cons (pe_callB (call_max2 rfl) (by rfl) T.max bb_max (pa_cons (pv 2) (pa_cons (pv 3) pa_nil))) pa_nil))) pa_nil)))))))))), ?_⟩)
  · rcases hp with ⟨_, rfl, _⟩
    rfl
  rintro ds r ⟨R, rfl, ⟨D, g⟩, rfl⟩
  have n8 := g.n8
  refine qd (d := eNs (List.range R.n)) (ed_of_own (own_range (ed_n (ed_var rfl)) (by omega))) ?_
  refine sg_ret (r := .raw (rowsP K ((List.range R.n).map eN).length (lefts R 0))) (lc_rows (vs := [2]) (ds := (List.range R.n).map eN) (lefts R 0) (fun i hi => by rw [List.mem_singleton.mp hi]; rfl) (by decide) (ed_var rfl) (by rw [List.length_map, List.length_range]; omega) fun i d hd => ?_) (by rw [List.length_map, List.length_range])
  obtain ⟨hi, rfl⟩ := map_range_at hd
  refine own_is (lc_L (vs := [3]) (ds := (List.range R.n).map eN) (fun _ => true) (fun j => eQ (Nw.left R 0 i j)) (fun i hi => by rw [List.mem_singleton.mp hi]; rfl) (by decide) (ed_var rfl) (by rw [List.length_map, List.length_range]; omega) (fun _ _ _ => eb_yes) (fun j d hd _ => ?_)) (by rw [told_all, List.length_map, List.length_range]; rfl)
  obtain ⟨hj, rfl⟩ := map_range_at hd
  refine ed_is (eg_call (ea_cons (ed_var rfl) (ea_cons (ed_is (ed_tup (ea_cons (ed_min2 (ed_var rfl) (ed_var rfl)) (ea_cons (ed_max2 (ed_var rfl) (ed_var rfl)) ea_nil))) (d' := eC (min i j, max i j)) ?_) ea_nil)) ⟨R, (min i j, max i j), rfl, ⟨D, g⟩, rfl⟩) (by rw [left_zero])
  unfold eC eN
  have a1 : min ((i : Nat) : Int) ((j : Nat) : Int) = ((min i j : Nat) : Int) := by omega
  have a2 : max ((i : Nat) : Int) ((j : Nat) : Int) = ((max i j : Nat) : Int) := by omega
  rw [a1, a2]
theorem sc_is_sending : FnScope ["ring", "thing", "part"] ["ring", "thing"] (defScope s_is_sending) := ⟨rfl, rfl, rfl, by decide +kernel, rfl, by decide +kernel, by decide +kernel⟩
theorem has_is_sending (T : Tx K mg) (h_first_broken : Has P w K mg base 5 "first_broken" 3 P_first_broken) (h_is_ratio : Has P w K mg base 2 "is_ratio" 1 P_is_ratio) : Has P w K mg base 6 "is_sending" 2 P_is_sending := by
  refine has_mk (N := ["ring", "thing", "part"]) (ps := ["ring", "thing"]) (k := 5) T.d_is_sending sc_is_sending (fun _ _ _ _ _ _ us hl => match us, hl with | [_, _], _ => rfl) (fun ds r hp => ?_) (fun f cdv A outer s H E hr => ⟨_, (pss_cons (ps_if (PW.pt (pw_or (pt_not (pt_val (pe_callB (isiK K) (by rfl) T.isinstance bb_isinstance (pa_cons (pv 1) (pa_cons (pe_bltn (v := .ty "list") (by rfl) T.list bb_list rfl) pa_nil))))) (pw_or (pt_cmpR (neK K hr.units) (pe_callB (lenK K) (by rfl) T.len bb_len (pa_cons (pv 1) pa_nil)) (pe_callB (lenK K) (by rfl) T.len bb_len (pa_cons (pe_ix (ixK K) (pv 0) pe_int (fun _ _ => rfl)) pa_nil)) (nomark _)) (pw_or1 (pt_not (pt_val (pe_callB (allK K) (by rfl) T.all bb_all (pa_cons (pe_lc (own := [("part", 2)]) (g := gName 2) rfl sc_is_sending.nd (pi_listK K (pv 1)) (blkOk_by (own := [("part", 2)]) (N := ["ring", "thing", "part"]) (sc := (defScope s_is_sending)) (by decide +kernel)) (fun _ _ _ _ _ => pg_name (i := 2) sc_is_sending.nd rfl (Or.inl rfl)) (fun _ _ _ _ _ => pts_nil) (fun _ _ _ _ _ => by exact (pe_hasK h_is_ratio (hr.mono (by decide)) (by rfl) (pa_cons (pv 2) pa_nil)))) pa_nil)))))))) (pss_one (ps_ret pe_bl)) pss_nil)
  (pss_one (ps_ret (pe_cmp (pc_isN (pe_hasK h_first_broken (hr.mono (by decide)) (by rfl) (pa_cons (pv 0) (pa_cons (pv 1) (pa_cons pe_non pa_nil))))) rfl)))), ?_⟩)
  · rcases hp with ⟨_, _, rfl, _⟩
    rfl
  rintro ds r ⟨R, s, rfl, ⟨D, g, ws⟩, rfl⟩
  have sl : s.length = R.m := ws.ok.len
  have m8 := g.m8
  refine q0 (eb_or (a := false) (b := false) (eb_not (b := true) (eb_B (ed_isi (ed_var rfl) k_ll))) fun _ => eb_or (a := false) (b := false) (eb_is (eb_test (ed_neI (ed_lenL (el_dat (ed_var rfl))) (ed_m (ed_var rfl)))) ?_) fun _ => eb_not (b := true) (eb_B (ed_is (ed_all (bs := (List.range s.length).map fun _ => true) (el_dat (ed_of_own (own_is (lc_L (vs := [2]) (ds := s.map eQ) (fun _ => true) (fun _ => .bool true) (fun i hi => by rw [List.mem_singleton.mp hi]; rfl) (by decide) (ed_var rfl) (by rw [List.length_map]; omega) (fun _ _ _ => eb_yes) (fun i d hd _ => ?_)) ?_)))) ?_))) ?_
  · rw [List.length_map, sl]
    simp
  · obtain ⟨_, rfl⟩ := pt_at hd
    exact eg_call (ea_cons (ed_var rfl) ea_nil) ⟨_, rfl, rfl⟩
  · rw [told_all, List.length_map, List.map_map]
    rfl
  · refine congrArg PyData.bool ?_
    rw [List.all_eq_true]
    intro x hx
    obtain ⟨_, _, rfl⟩ := List.mem_map.mp hx
    rfl
  · exact sg_ret (ed_isN (x := .none) (eg_call (ea_cons (ed_var rfl) (ea_cons (ed_var rfl) (ea_cons ed_non ea_nil))) ⟨R, s, rfl, ⟨D, g, ws⟩, rfl⟩)) rfl
theorem sc_lets_least : FnScope ["ring", "thing", "top", "sending", "cut"] ["ring", "thing"] (defScope s_lets_least) := ⟨rfl, rfl, rfl, by decide +kernel, rfl, by decide +kernel, by decide +kernel⟩
theorem has_lets_least (T : Tx K mg) (h_is_cut : Has P w K mg base 2 "is_cut" 2 P_is_cut) (h_is_ratio : Has P w K mg base 2 "is_ratio" 1 P_is_ratio) (h_is_sending : Has P w K mg base 6 "is_sending" 2 P_is_sending) (h_shown_by : Has P w K mg base 6 "shown_by" 2 P_shown_by) (h_top_of : Has P w K mg base 6 "top_of" 2 P_top_of) : Has P w K mg base 7 "lets_least" 2 P_lets_least := by
  refine has_mk (N := ["ring", "thing", "top", "sending", "cut"]) (ps := ["ring", "thing"]) (k := 6) T.d_lets_least sc_lets_least (fun _ _ _ _ _ _ us hl => match us, hl with | [_, _], _ => rfl) (fun ds r hp => ?_) (fun f cdv A outer s H E hr => ⟨_, (pss_cons (ps_if (PW.pt (pw_or (pt_not (pt_val (pe_callB (isiK K) (by rfl) T.isinstance bb_isinstance (pa_cons (pv 1) (pa_cons (pe_bltn (v := .ty "tuple") (by rfl) T.tuple bb_tuple rfl) pa_nil))))) (pw_or (pt_cmpR (neK K hr.units) (pe_callB (lenK K) (by rfl) T.len bb_len (pa_cons (pv 1) pa_nil)) pe_int (nomark _)) (pw_or1 (pt_not (pt_val (pe_hasK h_is_ratio (hr.mono (by decide)) (by rfl) (pa_cons (pe_ix (ixK K) (pv 1) pe_int (fun _ _ => rfl)) pa_nil)))))))) (pss_one (ps_ret pe_bl)) pss_nil)
  (pss_cons (ps_asg (pv 1) (pg_tupK K rfl (pgs_cons (pg_name (i := 2) sc_lets_least.nd rfl (Or.inl rfl)) (pgs_cons (pg_name (i := 3) sc_lets_least.nd rfl (Or.inl rfl)) (pgs_cons (pg_name (i := 4) sc_lets_least.nd rfl (Or.inl rfl)) pgs_nil)))))
  (pss_cons (ps_if (PW.pt (pw_or (pt_not (pt_val (pe_hasK h_is_sending (hr.mono (by decide)) (by rfl) (pa_cons (pv 0) (pa_cons (pv 3) pa_nil))))) (pw_or1 (pt_not (pt_val (pe_hasK h_is_cut (hr.mono (by decide)) (by rfl) (pa_cons (pv 0) (pa_cons (pv 4) pa_nil)))))))) (pss_one (ps_ret pe_bl)) pss_nil)
  (pss_one (ps_ret (pe_and (pe_cmpR (eqK K hr.units) (pe_ix (ixK K) (pe_hasK h_top_of (hr.mono (by decide)) (by rfl) (pa_cons (pv 0) (pa_cons (pv 3) pa_nil))) pe_int (fun _ _ => rfl)) (pv 2) (nomark _)) (pe_one (pe_cmpR (eqK K hr.units) (pe_hasK h_shown_by (hr.mono (by decide)) (by rfl) (pa_cons (pv 0) (pa_cons (pv 4) pa_nil))) (pv 2) (nomark _))))))))), ?_⟩)
  · rcases hp with ⟨_, _, _, _, rfl, _⟩
    rfl
  rintro ds r ⟨R, top, s, c, rfl, ⟨D, g, ws⟩, c1, c2, e1, e2, rfl⟩
  refine q0 (eb_or (a := false) (b := false) (eb_not (b := true) (eb_B (ed_isi (ed_var rfl) k_tt))) fun _ => eb_or (a := false) (b := false) (eb_is (eb_test (ed_neI (ed_lenT (ed_var rfl)) ed_int)) (by simp)) fun _ => eb_not (b := true) (eb_B (eg_call (ea_cons (ed_ixT (ed_var rfl) ed_int rfl) ea_nil) ⟨top, rfl, rfl⟩))) ?_
  refine qu (is := [2, 3, 4]) (ds := [eQ top, eS s, eC c]) (.cons (.cons (.cons .nil))) (ed_var rfl) ?_
  refine q0 (eb_or (a := false) (b := false) (eb_not (b := true) (eb_B (eg_call (ea_cons (ed_var rfl) (ea_cons (ed_var rfl) ea_nil)) ⟨R, s, rfl, ⟨D, g, ws⟩, rfl⟩))) fun _ => eb_not (b := true) (eb_B (eg_call (ea_cons (ed_var rfl) (ea_cons (ed_var rfl) ea_nil)) ⟨R, c, rfl, c1, c2, rfl⟩))) ?_
  refine sg_ret (ed_is (ed_andV (a := true) (b := true) (ed_is (ed_eqD (x := eQ (Nw.topOf R s).1) (y := eQ top) (ed_ixT (eg_call (ea_cons (ed_var rfl) (ea_cons (ed_var rfl) ea_nil)) ⟨R, s, rfl, ⟨D, g, ws⟩, rfl⟩) ed_int rfl) (ed_var rfl) (sh_Q _) (sh_Q _)) ?_) fun _ => ed_is (ed_eqD (x := eQ (Nw.shown R c)) (y := eQ top) (eg_call (ea_cons (ed_var rfl) (ea_cons (ed_var rfl) ea_nil)) ⟨R, c, rfl, ⟨D, g⟩, by omega, c2, rfl⟩) (ed_var rfl) (sh_Q _) (sh_Q _)) ?_) rfl) rfl
  · rw [eqv_Q, decide_eq_true e1]
  · rw [eqv_Q, decide_eq_true e2]
end
end NwB
end NwD1_
section NwFk_
set_option Elab.async false
set_option linter.all false
set_option maxRecDepth 100000
set_option maxHeartbeats 4000000
namespace NwB
open PySem PySem.Spec PyProof.Rows L2 NwT
/-! ### the parts told: whole numbers of some parts -/
def IsI (D : Nat) (q : Rat) : Prop := ∃ z : Int, q * (D : Rat) = z
theorem isI_zero {D : Nat} : IsI D 0 := ⟨0, by rw [Rat.zero_mul]; rfl⟩
theorem isI_mul {D : Nat} {q : Rat} (h : IsI D q) (c : Nat) : IsI (D * c) q := by
  obtain ⟨z, hz⟩ := h
  refine ⟨z * c, ?_⟩
  rw [Rat.natCast_mul, ← Rat.mul_assoc, hz, Rat.intCast_mul]
  rfl
theorem isI_half {D : Nat} {q : Rat} (h : IsI D q) : IsI (D * 2) (q / 2) := by
  obtain ⟨z, hz⟩ := h
  refine ⟨z, ?_⟩
  have e2 : ((2 : Nat) : Rat) = 2 := rfl
  rw [Rat.natCast_mul, ← hz, e2]
  grind
theorem isI_S {D : Nat} {f : Nat → Rat} : ∀ m : Nat, (∀ k, k < m → IsI D (f k)) → IsI D (Nw.S m f)
  | 0, _ => isI_zero
  | m + 1, h => int_add (isI_S m fun k hk => h k (by omega)) (h m (by omega))
theorem Bd.mul {D M : Nat} {q : Rat} (h : Bd D M q) (c : Nat) : Bd (D * c) M q := ⟨isI_mul h.int c, h.lo, h.hi⟩
theorem Rg.mul {R : Nw.Ring} {D c : Nat} (g : Rg R D) (h0 : 0 < c) (h : D * c < 2 ^ 300) : Rg R (D * c) := ⟨g.ok, g.n8, g.m8, Nat.mul_pos g.D0 h0, h, fun i hi => (g.room i hi).mul c, fun k hk => (g.size k hk).mul c⟩
structure Fk (R : Nw.Ring) (top : Rat) (D : Nat) : Prop where
  g : Rg R D
  big : D * 2 ^ 8 < 2 ^ 300
  top0 : 0 ≤ top
  top1 : top ≤ ((2 ^ 100 : Nat) : Rat)
  topi : ∀ i, i < R.n → IsI D (top * R.room i)
  ztop : Z top
  cut : ∀ c : Nat × Nat, c.1 ≤ c.2 → c.2 < R.n → Nw.shown R c ≤ top
section
variable {R : Nw.Ring} {top : Rat} {D : Nat}
theorem Fk.G (k : Fk R top D) : Rg R (D * 2 ^ 8) := k.g.mul (by decide) k.big
theorem Fk.part (k : Fk R top D) {t j : Nat} (ht : t ≤ R.m) (hj : j < t) : 0 ≤ Nw.pt (Nw.fill R top t) j ∧ Nw.pt (Nw.fill R top t) j ≤ (R.at j).size := (Nw.fill_ok k.g.ok k.cut t ht).part j hj
theorem up_part {D t t' : Nat} {q : Rat} (h : IsI (D * 2 ^ t) q) (l : t ≤ t') : IsI (D * 2 ^ t') q := by
  have e : D * 2 ^ t' = D * 2 ^ t * 2 ^ (t' - t) := by
    rw [Nat.mul_assoc, ← Nat.pow_add]
    congr 2
    omega
  rw [e]
  exact isI_mul h _
theorem over_int {t : Nat} {p : Rat} {a : Nw.Ask} {n i E : Nat} (hs : IsI E a.size) (hp : IsI E p) : IsI E (Nw.over n a p i) := by
  unfold Nw.over
  split
  · exact hp
  · exact int_sub hs hp
theorem crossed_int {i j l E : Nat} (hs : IsI E (R.at l).size) : IsI E (Nw.crossed R i j l) := by
  unfold Nw.crossed
  split
  · exact hs
  · exact isI_zero
theorem left_int (k : Fk R top D) {t i j E : Nat} (ht : t ≤ R.m) (hs : ∀ l, l < R.m → IsI E (R.at l).size) : IsI E (Nw.left R t i j) := int_sub (isI_S _ fun l hl => crossed_int (hs l hl)) (isI_S _ fun l hl => crossed_int (hs l (by omega)))
theorem free_int (k : Fk R top D) {t i E : Nat} {ps : List Rat} (hi : i < R.n) (ht : t ≤ R.m) (h0 : IsI E (top * R.room i)) (hs : ∀ l, l < R.m → IsI E (R.at l).size) (hp : ∀ l, l < t → IsI E (Nw.pt ps l)) : IsI E (Nw.free R top ps t i) :=
  int_sub h0 (isI_S _ fun l hl => over_int (t := t) (hs l (by omega)) (hp l hl))
theorem fill_int (k : Fk R top D) : ∀ t, t ≤ R.m → ∀ j, j < t → IsI (D * 2 ^ t) (Nw.pt (Nw.fill R top t) j)
  | 0, _, j, hj => by omega
  | t + 1, ht, j, hj => by
    have ih := fill_int k t (by omega)
    by_cases e : j < t
    · rw [Nw.pt_fill e]
      exact up_part (ih j e) (by omega)
    · have : j = t := by omega
      subst this
      rw [Nw.pt_fill_last]
      have hs : ∀ l, l < R.m → IsI (D * 2 ^ j) (R.at l).size := fun l hl => isI_mul (k.g.size l hl).int _
      obtain ⟨_, _, p3⟩ := Nw.leastOver_spec (f := fun a b => Nw.slack R top (Nw.fill R top j) j a b / 2) Nw.half_sym (ties := Nw.tiesOf R.n (R.at j) true) (x := (R.at j).size)
      rcases p3 with p3 | ⟨a, ha, b, hb, p3⟩
      · rw [show Nw.mostOn R top (Nw.fill R top j) j = (R.at j).size from p3]
        exact isI_mul (k.g.size j (by omega)).int _
      · rw [show Nw.mostOn R top (Nw.fill R top j) j = Nw.slack R top (Nw.fill R top j) j a b / 2 from p3]
        have n0 : 0 < R.n := by have := k.g.ok.two; omega
        have e2 : D * 2 ^ (j + 1) = D * 2 ^ j * 2 := by rw [Nat.pow_succ, Nat.mul_assoc]
        rw [e2]
        refine isI_half ?_
        have f1 := fun i (hi : i < R.n) => free_int k (ps := Nw.fill R top j) (E := D * 2 ^ j) hi (show j ≤ R.m by omega) (isI_mul (k.topi i hi) _) hs ih
        exact int_sub (int_add (f1 a (Nw.tiesOf_lt n0 ha)) (f1 b (Nw.tiesOf_lt n0 hb))) (left_int k (by omega) hs)
theorem fill_ws (k : Fk R top D) : Ws R (D * 2 ^ 8) (Nw.fill R top R.m) := ⟨Nw.fill_sok k.g.ok k.cut, fun j hj => up_part (fill_int k R.m (Nat.le_refl _) j hj) k.g.m8⟩
/-! bounds on the way -/
theorem part_bd (k : Fk R top D) {t j : Nat} (ht : t ≤ R.m) (hj : j < t) : Bd (D * 2 ^ 8) (2 ^ 41) (Nw.pt (Nw.fill R top t) j) :=
  (k.G.size j (by omega)).btw (up_part (fill_int k t ht j hj) (by have := k.g.m8; omega)) (k.part ht hj).1 (k.part ht hj).2
theorem over_bd (k : Fk R top D) {t j i : Nat} (ht : t ≤ R.m) (hj : j < t) : Bd (D * 2 ^ 8) (2 ^ 42) (Nw.over R.n (R.at j) (Nw.pt (Nw.fill R top t) j) i) := by
  unfold Nw.over
  split
  · exact (part_bd k ht hj).mono (by decide)
  · exact ((k.G.size j (by omega)).sub (part_bd k ht hj)).mono (by decide)
theorem prod_hi {a b : Rat} {A B : Nat} (a0 : 0 ≤ a) (b0 : 0 ≤ b) (ha : a ≤ (A : Rat)) (hb : b ≤ (B : Rat)) : a * b ≤ ((A * B : Nat) : Rat) := by
  rw [Rat.natCast_mul]
  have hA := nat_cast_nonneg (D := A)
  exact Rat.le_trans (Rat.mul_le_mul_of_nonneg_left hb a0) (Rat.mul_le_mul_of_nonneg_right ha nat_cast_nonneg)
theorem top_room_bd (k : Fk R top D) {i : Nat} (hi : i < R.n) : Bd (D * 2 ^ 8) (2 ^ 100 * 2 ^ 41) (top * R.room i) := by
  have h1 := k.g.ok.room i hi
  have h2 := (k.g.room i hi).hi
  have h3 : 0 ≤ top * R.room i := Rat.mul_nonneg k.top0 (Rat.le_of_lt h1)
  refine ⟨isI_mul (k.topi i hi) _, ?_, prod_hi k.top0 (Rat.le_of_lt h1) k.top1 h2⟩
  have := nat_cast_nonneg (D := 2 ^ 100 * 2 ^ 41)
  grind
theorem free_bd (k : Fk R top D) {t i : Nat} (ht : t ≤ R.m) (hi : i < R.n) : Bd (D * 2 ^ 8) (2 ^ 142) (Nw.free R top (Nw.fill R top t) t i) := by
  refine ((top_room_bd k hi).sub (Bd.S t fun j hj => over_bd k ht hj)).mono ?_
  have := k.g.m8
  calc 2 ^ 100 * 2 ^ 41 + t * 2 ^ 42 ≤ 2 ^ 100 * 2 ^ 41 + 8 * 2 ^ 42 := Nat.add_le_add_left (Nat.mul_le_mul_right _ (by omega)) _
    _ ≤ 2 ^ 142 := by decide
theorem crossed_bd (k : Fk R top D) {i j l : Nat} (hl : l < R.m) : Bd (D * 2 ^ 8) (2 ^ 41) (Nw.crossed R i j l) := by
  unfold Nw.crossed
  split
  · exact k.G.size l hl
  · exact Bd.zero
theorem left_bd (k : Fk R top D) {t i j : Nat} (ht : t ≤ R.m) : Bd (D * 2 ^ 8) (2 ^ 45) (Nw.left R t i j) := by
  refine ((Bd.S R.m fun l hl => crossed_bd k hl).sub (Bd.S t fun l hl => crossed_bd k (by omega))).mono ?_
  have := k.g.m8
  calc R.m * 2 ^ 41 + t * 2 ^ 41 ≤ 8 * 2 ^ 41 + 8 * 2 ^ 41 := Nat.add_le_add (Nat.mul_le_mul_right _ (by omega)) (Nat.mul_le_mul_right _ (by omega))
    _ ≤ 2 ^ 45 := by decide
theorem slack_bd (k : Fk R top D) {t i j : Nat} (ht : t ≤ R.m) (hi : i < R.n) (hj : j < R.n) : Bd (D * 2 ^ 8) (2 ^ 144) (Nw.slack R top (Nw.fill R top t) t i j) :=
  (((free_bd k ht hi).add (free_bd k ht hj)).sub (left_bd k ht)).mono (by decide)
theorem half_bd (k : Fk R top D) {t i j : Nat} (ht : t < R.m) (hi : i < R.n) (hj : j < R.n) : Bd (D * 2 ^ 8) (2 ^ 144) (Nw.slack R top (Nw.fill R top t) t i j / 2) := by
  have b := slack_bd k (show t ≤ R.m by omega) hi hj
  have hs : ∀ l, l < R.m → IsI (D * 2 ^ t) (R.at l).size := fun l hl => isI_mul (k.g.size l hl).int _
  have f1 := fun i (hi : i < R.n) => free_int k (ps := Nw.fill R top t) (E := D * 2 ^ t) hi (show t ≤ R.m by omega) (isI_mul (k.topi i hi) _) hs (fill_int k t (by omega))
  have e2 : D * 2 ^ (t + 1) = D * 2 ^ t * 2 := by rw [Nat.pow_succ, Nat.mul_assoc]
  have h : IsI (D * 2 ^ (t + 1)) (Nw.slack R top (Nw.fill R top t) t i j / 2) := by
    rw [e2]
    exact isI_half (int_sub (int_add (f1 i hi) (f1 j hj)) (left_int k (by omega) hs))
  have p := nat_cast_nonneg (D := 2 ^ 144)
  have h1 := b.lo
  have h2 := b.hi
  exact ⟨up_part h (by have := k.g.m8; omega), by grind, by grind⟩
theorem two_z : Z 2 := ⟨by decide +kernel, by decide +kernel⟩
/-- such a ring as the law's: what is needed of its least top -/
theorem fk_of (g : Rg R D) (hD : D ≤ 2 ^ 20) : ∃ D', Fk R (Nw.gcut R).1 D' := by
  have n0 : 0 < R.n := by have := g.ok.two; omega
  obtain ⟨g1, g2, g3, g4⟩ := Nw.gcut_spec (R := R) n0
  obtain ⟨rb, rp⟩ := rooms_bd g (show (Nw.gcut R).2.1 < R.n by omega) g3
  obtain ⟨y, hy⟩ := rb.int
  have ab := across_bd g (Nw.gcut R).2
  obtain ⟨x, hx⟩ := ab.int
  have dp := nat_cast_pos g.D0
  have yp : 0 < y := by
    have h3 : (0 : Rat) < (y : Rat) := by
      rw [← hy]
      exact Rat.mul_pos rp dp
    exact Rat.intCast_lt_intCast.mp (show ((0 : Int) : Rat) < (y : Rat) from h3)
  have yb := rb.abs hy
  have y1 : ((y.natAbs : Nat) : Rat) = (y : Rat) := by
    have : ((y.natAbs : Nat) : Int) = y := by omega
    rw [show ((y.natAbs : Nat) : Rat) = (((y.natAbs : Nat) : Int) : Rat) from rfl, this]
  have yl : y.natAbs ≤ 2 ^ 62 := by
    calc y.natAbs ≤ 2 ^ 42 * D := yb
      _ ≤ 2 ^ 42 * 2 ^ 20 := Nat.mul_le_mul_left _ hD
      _ = 2 ^ 62 := by decide
  have db : D * y.natAbs ≤ 2 ^ 20 * 2 ^ 62 := Nat.mul_le_mul hD yl
  have eq1 : (Nw.gcut R).1 * (R.room (Nw.gcut R).2.1 + R.room (Nw.gcut R).2.2) = Nw.across R (Nw.gcut R).2 := by
    rw [g1]
    unfold Nw.shown
    rw [Rat.div_mul_cancel (by grind)]
  have a0 : 0 ≤ Nw.across R (Nw.gcut R).2 := Nw.S_nonneg fun l hl => by
    split
    · exact (g.ok.ask l hl).pos
    · exact Rat.le_refl
  have t0 : 0 ≤ (Nw.gcut R).1 := by
    refine Rat.not_lt.mp fun z => ?_
    have := Rat.mul_lt_mul_of_pos_right z rp
    rw [eq1, Rat.zero_mul] at this
    grind
  have key : (Nw.gcut R).1 * (y : Rat) = (x : Rat) := by
    rw [← hy, ← hx, ← eq1]
    grind
  refine ⟨D * y.natAbs, g.mul (by omega) ?_, ?_, t0, ?_, fun i hi => ?_, ?_, g4⟩
  · exact Nat.lt_of_le_of_lt db (by decide)
  · exact Nat.lt_of_le_of_lt (Nat.mul_le_mul_right _ db) (by decide)
  · -- top ≤ top * y = x ≤ 2^44 * D
    have xb := ab.abs hx
    have h1 : (1 : Rat) ≤ (y : Rat) := (show ((1 : Int) : Rat) ≤ (y : Rat) from Rat.intCast_le_intCast.mpr (by omega))
    have h2 := Rat.mul_le_mul_of_nonneg_left h1 t0
    rw [key] at h2
    have h3 : (x : Rat) ≤ ((2 ^ 100 : Nat) : Rat) := by
      have h4 : x ≤ ((2 ^ 100 : Nat) : Int) := by
        have h5 : 2 ^ 44 * D ≤ 2 ^ 44 * 2 ^ 20 := Nat.mul_le_mul_left _ hD
        have h6 : (2 : Nat) ^ 44 * 2 ^ 20 ≤ 2 ^ 100 := by decide
        omega
      exact Rat.intCast_le_intCast.mpr h4
    grind
  · obtain ⟨z, hz⟩ := (g.room i hi).int
    refine ⟨x * z, ?_⟩
    rw [Rat.natCast_mul, y1, Rat.intCast_mul, ← hz, ← key]
    grind
  · rw [g1]
    exact shown_z g (by omega) g3
end
end NwB
end NwFk_
section NwFl_
set_option Elab.async false
set_option linter.all false
set_option maxRecDepth 100000
set_option maxHeartbeats 4000000
namespace NwB
open PySem PySem.Spec PyProof.Rows L2 NwT
open Evl (Ex)
section
variable {J J' : Ji} {K : PySem.W.Frag} {H H1 H2 H' : Hp} {O F W : List Addr} {σ : L2.St} {Γ : List Sl} {te tl ta tb : TE}
/-! ### slots, heaps that change -/
theorem EnvL.setI {v : V} (h : EnvL K H O σ Γ) : ∀ i : Nat, EnvL K H O (σ.set i (some v)) (Γ.set i (.is v)) ∧ ∀ p ∈ ows (σ.set i (some v)) (Γ.set i (.is v)), p ∈ ows σ Γ := by
  induction h with
  | nil => exact fun i => ⟨.nil, fun p hp => hp⟩
  | @un x σ Γ h ih =>
    intro i
    cases i with
    | zero =>
      refine ⟨.is h, fun p hp => ?_⟩
      have hp : p ∈ ows (some v :: σ) (.is v :: Γ) := hp
      rw [ows_is] at hp
      rw [ows_un]
      exact hp
    | succ i =>
      obtain ⟨a, b⟩ := ih i
      refine ⟨.un a, fun p hp => ?_⟩
      have hp : p ∈ ows (x :: σ.set i (some v)) (.un :: Γ.set i (.is v)) := hp
      rw [ows_un] at hp ⊢
      exact b p hp
  | @dat x dx σ Γ hx h ih =>
    intro i
    cases i with
    | zero =>
      refine ⟨.is h, fun p hp => ?_⟩
      have hp : p ∈ ows (some v :: σ) (.is v :: Γ) := hp
      rw [ows_is] at hp
      rw [ows_dat]
      exact hp
    | succ i =>
      obtain ⟨a, b⟩ := ih i
      refine ⟨.dat hx a, fun p hp => ?_⟩
      have hp : p ∈ ows (some x :: σ.set i (some v)) (.dat dx :: Γ.set i (.is v)) := hp
      rw [ows_dat] at hp ⊢
      exact b p hp
  | @is x σ Γ h ih =>
    intro i
    cases i with
    | zero =>
      refine ⟨.is h, fun p hp => ?_⟩
      have hp : p ∈ ows (some v :: σ) (.is v :: Γ) := hp
      rw [ows_is] at hp ⊢
      exact hp
    | succ i =>
      obtain ⟨a, b⟩ := ih i
      refine ⟨.is a, fun p hp => ?_⟩
      have hp : p ∈ ows (some x :: σ.set i (some v)) (.is x :: Γ.set i (.is v)) := hp
      rw [ows_is] at hp ⊢
      exact b p hp
  | @own q qq vs ds σ Γ h0 h1 h2 h3 h ih =>
    intro i
    cases i with
    | zero =>
      refine ⟨.is h, fun p hp => ?_⟩
      have hp : p ∈ ows (some v :: σ) (.is v :: Γ) := hp
      rw [ows_is] at hp
      rw [ows_own]
      exact List.mem_cons_of_mem _ hp
    | succ i =>
      obtain ⟨a, b⟩ := ih i
      refine ⟨.own h0 h1 h2 (fun z => h3 (b q z)) a, fun p hp => ?_⟩
      have hp : p ∈ ows (some (.ref q) :: σ.set i (some v)) (.ownP qq ds :: Γ.set i (.is v)) := hp
      rw [ows_own] at hp ⊢
      rcases List.mem_cons.mp hp with rfl | hp
      · exact List.mem_cons_self ..
      · exact List.mem_cons_of_mem _ (b p hp)
theorem Env.setI {v : V} (h : Env J K O H σ Γ) (i : Nat) : Env J K O H (σ.set i (some v)) (Γ.set i (.is v)) ∧ ∀ p ∈ ows (σ.set i (some v)) (Γ.set i (.is v)), p ∈ ows σ Γ := by
  obtain ⟨a, b⟩ := h.sl.setI (v := v) i
  exact ⟨⟨a.sub (mem_app b), fun p hp => h.dis p (b p hp), h.all, h.foot, J.sub (mem_app b) (fun a ha => List.mem_append_right _ (h.foot a ha)) h.inv⟩, b⟩
theorem EnvL.mut (h : EnvL K H W σ Γ) (x : Ex (hide H F) H2) (s : ∀ a ∈ F, a ∈ W) : (∀ p ∈ ows σ Γ, p ∉ F) → EnvL K H2 W σ Γ := by
  have e : Ex (hide H W) (hide H2 W) := fun a o z => by
    obtain ⟨z1, z2⟩ := hide_some z
    rw [hide_out z1]
    refine x a o ?_
    rw [hide_out fun q => z1 (s a q)]
    exact z2
  induction h with
  | nil => exact fun _ => .nil
  | un _ ih => rw [ows_un]; exact fun d => .un (ih d)
  | dat h _ ih => rw [ows_dat]; exact fun d => .dat (Dp.ex h e) (ih d)
  | is _ ih => rw [ows_is]; exact fun d => .is (ih d)
  | own h0 h1 h2 h3 _ ih =>
    rw [ows_own]
    intro d
    refine .own h0 (x _ _ ?_) (DpAll.ex h2 e) h3 (ih fun p hp => d p (List.mem_cons_of_mem _ hp))
    rw [hide_out (d _ (List.mem_cons_self ..))]
    exact h1
theorem env_mut (h : Env J K O H σ Γ) (hf : J'.foot = J.foot) (x : Ex (hide H J.foot) H2) (h2 : ∀ a ∈ J.foot, H2 a ≠ none) (v : J'.val (ows σ Γ ++ O) H2) : Env J' K O H2 σ Γ := by
  refine ⟨h.sl.mut x (fun a ha => List.mem_append_right _ (h.foot a ha)) fun p hp z => h.dis p hp (h.foot p z), h.dis, fun p hp => ?_, fun a ha => h.foot a (by rw [← hf]; exact ha), v⟩
  by_cases z : p ∈ J.foot
  · exact h2 p z
  · cases q : H p with
    | none => exact absurd q (h.all p hp)
    | some o =>
      rw [x p o (by rw [hide_out z]; exact q)]
      simp
theorem ows_pad : ∀ {σ : L2.St} {Γ : List Sl} (n : Nat), σ.length = Γ.length → ows (σ ++ List.replicate n none) (Γ ++ List.replicate n .un) = ows σ Γ
  | [], [], n, _ => by
    show ows (List.replicate n none) (List.replicate n .un) = _
    rw [ows_uns]
    rfl
  | x :: σ, s :: Γ, n, h => by
    show ownAt x s ++ ows (σ ++ _) (Γ ++ _) = ownAt x s ++ ows σ Γ
    rw [ows_pad n (by simpa using h)]
theorem envl_pad (n : Nat) (h : EnvL K H W σ Γ) : EnvL K H W (σ ++ List.replicate n none) (Γ ++ List.replicate n .un) := by
  induction h with
  | nil => exact env_un n
  | un _ ih => exact .un ih
  | dat h _ ih => exact .dat h ih
  | is _ ih => exact .is ih
  | own h0 h1 h2 h3 hr ih => exact .own h0 h1 h2 (by have e := ows_pad n hr.len; exact fun z => h3 (by rw [← e]; exact z)) ih
theorem env_pad (n : Nat) (h : Env J K O H σ Γ) : Env J K O H (σ ++ List.replicate n none) (Γ ++ List.replicate n .un) := by
  have e := ows_pad n h.sl.len
  exact ⟨by rw [e]; exact envl_pad n h.sl, by rw [e]; exact h.dis, h.all, h.foot, by rw [e]; exact h.inv⟩
/-! ### steps -/
theorem raw_asg {i : Nat} {d : PyData} {u : TS} {D : Ends} (h : ED J K Γ te d) (e : Env J K O H σ Γ) (k : ∀ v H1, Ex H H1 → Env J K O H1 (σ.set i (some v)) (Γ.set i (.dat d)) → u D (σ.set i (some v)) H1) : tSeq (tAsg te (gName i)) u D σ H :=
  h O σ H e _ fun v H1 x1 r1 => k v H1 x1 ((e.mono x1).setD r1 i).1
theorem enum_loop {a b : Nat} {t : TS} {D : Ends} {p : Addr} {vs : List V} (Pv : Nat → L2.St → Hp → Prop) (h0 : Pv 0 σ H) (hp : ∀ i σ' H', i ≤ vs.length → Pv i σ' H' → SqL K H' p vs)
    (hs : ∀ (i : Nat) x σ' H' T, vs[i]? = some x → Pv i σ' H' → H' T = none → t { D with nx := Pv (i + 1), ct := Pv (i + 1), bk := D.nx } ((σ'.set a (some (.int i))).set b (some x)) (upd H' T (.tup [.int i, x]))) (hd : ∀ σ' H', Pv vs.length σ' H' → D.nx σ' H') :
    ∃ W : Nat → Nat → L2.St → Hp → Prop, (∃ m, W 0 m σ H) ∧ ∀ i m σ H, W i m σ H → ((Ite K p).stop i H ∧ D.nx σ H) ∨ ((Ite K p).go i H ∧ ∃ N : L2.St → Hp → Prop, (∀ σ' H', N σ' H' → ∃ m', m' < m ∧ W (i + 1) m' σ' H') ∧
      ∀ x H', (Ite K p).yld i H x H' → gTup K 2 (gCons (gName a) (gCons (gName b) gNil)) x σ H' fun σ2 H2 => t { D with nx := N, ct := N, bk := D.nx } σ2 H2) := by
  refine ⟨fun i m σ' H' => m = vs.length - i ∧ i ≤ vs.length ∧ Pv i σ' H', ⟨vs.length, by simp, Nat.zero_le _, h0⟩, fun i m σ' H' q => ?_⟩
  obtain ⟨rfl, hi, c⟩ := q
  have hpl := hp i σ' H' hi c
  by_cases hlt : i < vs.length
  · refine .inr ⟨⟨vs, _, hpl, List.getElem?_eq_getElem hlt⟩, fun σ2 H2 => Pv (i + 1) σ2 H2, fun σ2 H2 z => ⟨vs.length - (i + 1), by omega, rfl, hlt, z⟩, fun x H2 y => ?_⟩
    obtain ⟨T, x, rfl, hT, rfl, f⟩ := y
    exact ⟨T, [.int i, x], rfl, SqT.of upd_same, rfl, _, _, rfl, _, _, rfl, rfl, hs i x σ' H' T (f vs hpl) c hT⟩
  · have e : i = vs.length := by omega
    subst e
    exact .inl ⟨⟨vs, hpl, by omega⟩, hd σ' H' c⟩
/-! ### an object of Filling -/
def FSt (K : PySem.W.Frag) (p lt : Addr) (rows : List Addr) (R : Nw.Ring) (F : List PyData) (L : Nat → List PyData) (W : List Addr) (H : Hp) : Prop :=
  (∃ dx vr vf, H p = some (.ins 311 dx [("asked", vr), ("free", vf), ("left", .ref lt)]) ∧ Dp K (hide H W) vr (eRing R) ∧ Dp K (hide H W) vf (.list F)) ∧ H lt = some (.lst (rows.map V.ref)) ∧
  ∀ (i : Nat) (r : Addr), rows[i]? = some r → ∃ rv, H r = some (.lst rv) ∧ DpAll K (hide H W) rv (L i)
variable {p lt : Addr} {rows : List Addr} {R : Nw.Ring} {Fr : List PyData} {L L' : Nat → List PyData}
theorem FSt.ex (e : Ex H H') (h : FSt K p lt rows R Fr L W H) : FSt K p lt rows R Fr L W H' := by
  obtain ⟨⟨dx, vr, vf, h1, h2, h3⟩, h4, h5⟩ := h
  refine ⟨⟨dx, vr, vf, e _ _ h1, Dp.ex h2 (hide_ex e), Dp.ex h3 (hide_ex e)⟩, e _ _ h4, fun i r hr => ?_⟩
  obtain ⟨rv, a, b⟩ := h5 i r hr
  exact ⟨rv, e _ _ a, DpAll.ex b (hide_ex e)⟩
theorem FSt.sub {W' : List Addr} (s : ∀ a ∈ W', a ∈ W) (h : FSt K p lt rows R Fr L W H) : FSt K p lt rows R Fr L W' H := by
  obtain ⟨⟨dx, vr, vf, h1, h2, h3⟩, h4, h5⟩ := h
  refine ⟨⟨dx, vr, vf, h1, Dp.ex h2 (hide_sub s), Dp.ex h3 (hide_sub s)⟩, h4, fun i r hr => ?_⟩
  obtain ⟨rv, a, b⟩ := h5 i r hr
  exact ⟨rv, a, DpAll.ex b (hide_sub s)⟩
theorem FSt.new {q : Addr} (hq : H q = none) (h : FSt K p lt rows R Fr L W H) : FSt K p lt rows R Fr L (q :: W) H := by
  unfold FSt
  rw [hide_new hq]
  exact h
theorem FSt.chg {q : Addr} {ws : List V} (hq : q ∈ W) (nf : q ∉ p :: lt :: rows) (h : FSt K p lt rows R Fr L W H) : FSt K p lt rows R Fr L W (upd H q (.lst ws)) := by
  obtain ⟨⟨dx, vr, vf, h1, h2, h3⟩, h4, h5⟩ := h
  have n1 : p ≠ q := fun z => nf (by rw [← z]; exact List.mem_cons_self ..)
  have n2 : lt ≠ q := fun z => nf (by rw [← z]; exact List.mem_cons_of_mem _ (List.mem_cons_self ..))
  unfold FSt
  rw [hide_upd hq, upd_ne n1, upd_ne n2]
  refine ⟨⟨dx, vr, vf, h1, h2, h3⟩, h4, fun i r hr => ?_⟩
  obtain ⟨rv, a, b⟩ := h5 i r hr
  have n3 : r ≠ q := fun z => nf (by rw [← z]; exact List.mem_cons_of_mem _ (List.mem_cons_of_mem _ (List.mem_of_getElem? hr)))
  exact ⟨rv, by rw [upd_ne n3]; exact a, b⟩
theorem FSt.cong (e : ∀ i, i < rows.length → L i = L' i) (h : FSt K p lt rows R Fr L W H) : FSt K p lt rows R Fr L' W H := by
  obtain ⟨h1, h4, h5⟩ := h
  refine ⟨h1, h4, fun i r hr => ?_⟩
  obtain ⟨rv, a, b⟩ := h5 i r hr
  exact ⟨rv, a, by rw [← e i (List.getElem?_eq_some_iff.mp hr).1]; exact b⟩
/-- a row's item is changed -/
theorem FSt.row {i j : Nat} {r : Addr} {rv : List V} {x : V} {d : PyData} (nd : (p :: lt :: rows).Nodup) (s : ∀ a ∈ p :: lt :: rows, a ∈ W) (hr : rows[i]? = some r) (hv : H r = some (.lst rv)) (hx : Dp K (hide H W) x d) (h : FSt K p lt rows R Fr L W H) :
    FSt K p lt rows R Fr (fun a => if a = i then (L i).set j d else L a) W (upd H r (.lst (rv.set j x))) := by
  obtain ⟨⟨dx, vr, vf, h1, h2, h3⟩, h4, h5⟩ := h
  obtain ⟨nd1, nd2⟩ := List.nodup_cons.mp nd
  obtain ⟨nd3, nd4⟩ := List.nodup_cons.mp nd2
  have hm : r ∈ rows := List.mem_of_getElem? hr
  have n1 : p ≠ r := fun z => nd1 (by rw [z]; exact List.mem_cons_of_mem _ hm)
  have n2 : lt ≠ r := fun z => nd3 (by rw [z]; exact hm)
  have hW : r ∈ W := s r (List.mem_cons_of_mem _ (List.mem_cons_of_mem _ hm))
  unfold FSt
  rw [hide_upd hW, upd_ne n1, upd_ne n2]
  refine ⟨⟨dx, vr, vf, h1, h2, h3⟩, h4, fun a q hq => ?_⟩
  obtain ⟨rv', z1, z2⟩ := h5 a q hq
  by_cases e : a = i
  · subst e
    rw [hr] at hq
    cases hq
    rw [hv] at z1
    cases z1
    refine ⟨_, upd_same, ?_⟩
    show DpAll K _ _ (if a = a then _ else _)
    rw [if_pos rfl]
    exact DpAll.set hx j z2
  · have n3 : q ≠ r := fun z => by
      subst z
      exact e ((List.getElem?_inj (List.getElem?_eq_some_iff.mp hq).1 nd4).mp (hq.trans hr.symm))
    refine ⟨rv', by rw [upd_ne n3]; exact z1, ?_⟩
    show DpAll K _ _ (if a = i then _ else _)
    rw [if_neg e]
    exact z2
def JF (K : PySem.W.Frag) (p lt : Addr) (rows : List Addr) (R : Nw.Ring) (Fr : List PyData) (L : Nat → List PyData) : Ji :=
  ⟨p :: lt :: rows, FSt K p lt rows R Fr L, fun e h => h.ex e, fun s _ h => h.sub s, fun hq h => h.new hq, fun hq nf h => h.chg hq nf⟩
variable {mg : Str → Option Value}
theorem ed_free (T : Tx K mg) {i : Nat} (h : Γ[i]? = some (.is (.ref p))) : ED (JF K p lt rows R Fr L) K Γ (tFld K (tVar i) "free") (.list Fr) := fun O σ H e Q q => by
  obtain ⟨⟨dx, vr, vf, h1, h2, h3⟩, _⟩ := e.inv
  exact ⟨_, e.sl.getI h, p, 311, dx, _, vf, rfl, h1, T.cl, T.na_free, rfl, q vf H (Ex.refl H) h3⟩
theorem ed_asked (T : Tx K mg) {i : Nat} (h : Γ[i]? = some (.is (.ref p))) : ED (JF K p lt rows R Fr L) K Γ (tFld K (tVar i) "asked") (eRing R) := fun O σ H e Q q => by
  obtain ⟨⟨dx, vr, vf, h1, h2, h3⟩, _⟩ := e.inv
  exact ⟨_, e.sl.getI h, p, 311, dx, _, vr, rfl, h1, T.cl, T.na_asked, rfl, q vr H (Ex.refl H) h2⟩
theorem atI_get {xs : List V} {i : Nat} {v : V} (h : xs[i]? = some v) : atI xs (i : Int) = some v := atI_at h
theorem ed_leftAt (T : Tx K mg) {i a b : Nat} {d : PyData} (h : Γ[i]? = some (.is (.ref p))) (h1 : ED (JF K p lt rows R Fr L) K Γ ta (eN a)) (h2 : ED (JF K p lt rows R Fr L) K Γ tb (eN b)) (ha : a < rows.length) (hd : (L a)[b]? = some d) :
    ED (JF K p lt rows R Fr L) K Γ (tOp (rIx K) (tOp (rIx K) (tFld K (tVar i) "left") ta) tb) d := fun O σ H e Q q => by
  obtain ⟨⟨dx, vr, vf, k1, k2, k3⟩, k4, k5⟩ := e.inv
  refine ⟨_, e.sl.getI h, p, 311, dx, _, _, rfl, k1, T.cl, T.na_left, rfl, h1 O σ H e _ fun v H1 x1 r1 => ?_⟩
  rw [dp_int r1]
  refine .inl ⟨lt, rows.map V.ref, (a : Int), .ref rows[a], rfl, rfl, SqL.of (x1 _ _ k4), atI_at (by rw [List.getElem?_map, List.getElem?_eq_getElem ha]; rfl), h2 O σ H1 (e.mono x1) _ fun u H2 x2 r2 => ?_⟩
  rw [dp_int r2]
  obtain ⟨rv, z1, z2⟩ := k5 a _ (List.getElem?_eq_getElem ha)
  obtain ⟨w, hw, dw⟩ := z2.get hd
  exact .inl ⟨_, rv, (b : Int), w, rfl, rfl, SqL.of (x2 _ _ (x1 _ _ z1)), atI_at hw, q w H2 (x1.trans x2) (Dp.ex dw (hide_ex (x1.trans x2)))⟩
theorem ed_rowAt {i a b : Nat} {r : Addr} {d : PyData} (h : Γ[i]? = some (.is (.ref r))) (hr : rows[a]? = some r) (h2 : ED (JF K p lt rows R Fr L) K Γ tb (eN b)) (hd : (L a)[b]? = some d) :
    ED (JF K p lt rows R Fr L) K Γ (tOp (rIx K) (tVar i) tb) d := fun O σ H e Q q => by
  obtain ⟨_, k4, k5⟩ := e.inv
  refine ⟨_, e.sl.getI h, h2 O σ H e _ fun u H2 x2 r2 => ?_⟩
  rw [dp_int r2]
  obtain ⟨rv, z1, z2⟩ := k5 a r hr
  obtain ⟨w, hw, dw⟩ := z2.get hd
  exact .inl ⟨_, rv, (b : Int), w, rfl, rfl, SqL.of (x2 _ _ z1), atI_at hw, q w H2 x2 (Dp.ex dw (hide_ex x2))⟩
/-! ### a method that changes nothing -/
def spM (K : PySem.W.Frag) (Pm : Ji → List V → List Sl → Rs → Prop) : Sp := fun vs H Q _ => ∃ (J : Ji) (O : List Addr) (Γ : List Sl) (r : Rs), Pm J vs Γ r ∧ Env J K O H (vs.map some) Γ ∧ ows (vs.map some) Γ = [] ∧ ∀ v H2, Ex H H2 → RD K H H2 O v r → Q v H2
theorem dats_env (h : Env J K O H σ Γ) {x : V} {vs : List V} {ds : List PyData} (hd : DpAll K (hide H (ows σ Γ ++ O)) vs ds) : Env J K (ows σ Γ ++ O) H (some x :: vs.map some) (.is x :: ds.map .dat) ∧ ows (some x :: vs.map some) (.is x :: ds.map .dat) = [] := by
  have key : ∀ {vs : List V} {ds : List PyData}, DpAll K (hide H (ows σ Γ ++ O)) vs ds → EnvL K H (ows σ Γ ++ O) (vs.map some) (ds.map .dat) ∧ ows (vs.map some) (ds.map .dat) = [] := by
    intro vs ds h
    induction ds generalizing vs with
    | nil =>
      cases h
      exact ⟨.nil, rfl⟩
    | cons d ds ih =>
      cases h with
      | cons h1 h2 =>
        obtain ⟨a, b⟩ := ih h2
        refine ⟨.dat h1 a, ?_⟩
        show ows (some _ :: _) (.dat d :: _) = []
        rw [ows_dat]
        exact b
  obtain ⟨a, b⟩ := key hd
  have e : ows (some x :: vs.map some) (.is x :: ds.map .dat) = [] := by rw [ows_is]; exact b
  exact ⟨⟨by rw [e]; exact .is a, by rw [e]; simp, h.there, fun a ha => List.mem_append_right _ (h.foot a ha), by rw [e]; exact h.inv⟩, e⟩
theorem eg_meth {Pm : Ji → List V → List Sl → Rs → Prop} {E : XK} {m : Str} {tA : TA} {ds : List PyData} {r : Rs} {i : Nat} (hm : ∀ W H, J.val W H → ∃ dx fs, H p = some (.ins 311 dx fs) ∧ fs.lookup m = none) (h : Γ[i]? = some (.is (.ref p))) (ha : EA J K Γ tA ds)
    (hp : ∀ (H : Hp) (W : List Addr) (vs : List V), DpAll K (hide H W) vs ds → Pm J (.ref p :: vs) (.is (.ref p) :: ds.map .dat) r) : EG J K Γ (tMeth 311 m (spM K Pm) [] E (tVar i) tA) r := fun O σ H e Q q => by
  obtain ⟨dx, fs, e1, e2⟩ := hm _ _ e.inv
  refine ⟨_, e.sl.getI h, p, dx, fs, rfl, e1, e2, ha O σ H e _ fun vs H2 x2 r2 => ?_⟩
  rw [List.append_nil]
  obtain ⟨a, b⟩ := dats_env (x := V.ref p) (e.mono x2) r2
  exact ⟨J, _, _, r, hp _ _ _ r2, a, b, fun v H3 x3 r3 => q v H3 (x2.trans x3) (rd_back x2 r3)⟩
end
structure HasM (P : Program) (w : World) (K : PySem.W.Frag) (mg : Str → Option Value) (base : Heap) (k : Nat) (f : Addr) (n : Nat) (sp : Sp) : Prop where
  ex : ∃ fd ps, ps.length = n ∧ FnOk P w K mg base CX0 k f fd ps sp ∧ Binds K fd ps []
theorem spM_run {K : PySem.W.Frag} {H : Hp} {Q : VK} {E : XK} {Pm : Ji → List V → List Sl → Rs → Prop} {vs : List V} {N : List Str} {t : TS} (h : spM K Pm vs H Q E) (hs : ∀ J Γ r, Pm J vs Γ r → SG J K (Γ ++ List.replicate (N.length - vs.length) .un) t (fun _ => False) (fun _ r' => r' = r)) :
    t { nx := fun _ H' => Q .non H', rt := Q } (L2.start N vs) H := by
  obtain ⟨J, O, Γ, r, hp, e, e0, q⟩ := h
  have e2 := env_pad (N.length - vs.length) e
  have e3 := ows_pad (N.length - vs.length) e.sl.len
  refine hs J Γ r hp H O (L2.start N vs) H _ ⟨e2, Ex.refl H, ?_⟩ (fun _ _ _ z => z.elim) fun v H' σ' Γ' r' er x rd => ?_
  · show ∀ p ∈ ows (vs.map some ++ List.replicate (N.length - vs.length) none) (Γ ++ List.replicate (N.length - vs.length) .un), _
    rw [e3, e0]
    simp
  · subst er
    exact q v H' x.ex (rd_out rd)
theorem pe_methK {P : Program} {w : World} {K : PySem.W.Frag} {mg : Str → Option Value} {base : Heap} {sp : Sp} {X : Cx} {k n : Nat} {f : Addr} {m : Str} {o e : Expr} {ta : TE} {t : TA} {apos pos : Pos} {es : List Expr} {pl : Sem Bool} (h : HasM P w K mg base k f n sp) (he : PE X o ta) (c : Cls K 311) (hm : Meth K 311 m f) (hr : Room k X.A) (ha : PA X (e :: es) t)
    (e1 : X.prog = P := by rfl) (e2 : X.w = w := by rfl) (e3 : X.K = K := by rfl) (e4 : X.mg = mg := by rfl) (e5 : X.base = base := by rfl)
    (hst : starEach (e :: es) X.env = (false, eval e X.env) :: starEach es X.env := by rfl) (hpl : (backTo pos (starEach es X.env)).any (·.1) = false := by rfl)
    (ht : eval (.Call (.Attribute o m apos) (e :: es) [] pos) X.env = (do
      let ov ← eval o X.env
      standAt apos.atName
      let (f, first) ← holding [ov] (getMethod ov m pl)
      callWith pos f first (backTo pos (starEach (e :: es) X.env)) (backToKw pos (keywordEach [] X.env))) := by rfl) : PE X (.Call (.Attribute o m apos) (e :: es) [] pos) (tMeth 311 m sp [] E0 ta t) := by
  subst e1 e2 e3 e4 e5
  obtain ⟨fd, ps, _, F, b⟩ := h.ex
  exact pe_meth he c hm F hr b .nil pass0 ha hst hpl ht
end NwB
end NwFl_
section NwD2_
set_option Elab.async false
set_option linter.all false
set_option maxRecDepth 100000
set_option maxHeartbeats 4000000
namespace NwB
open PySem PySem.Spec PyProof.Rows L2 NwT
open Evl (Ex)
def frees (R : Nw.Ring) (top : Rat) (t : Nat) : List PyData := (List.range R.n).map fun i => eQ (Nw.free R top (Nw.fill R top t) t i)
abbrev JFt (K : PySem.W.Frag) (p lt : Addr) (rows : List Addr) (R : Nw.Ring) (top : Rat) (t : Nat) : Ji := JF K p lt rows R (frees R top t) (lefts R t)
def Pm_slack (K : PySem.W.Frag) : Ji → List V → List Sl → Rs → Prop := fun J vs Γ r => ∃ (p lt : Addr) (rows : List Addr) (R : Nw.Ring) (top : Rat) (D t i j : Nat) (va vb : V), (Fk R top D ∧ t ≤ R.m ∧ rows.length = R.n ∧ i < R.n ∧ j < R.n) ∧
  J = JFt K p lt rows R top t ∧ vs = [.ref p, va, vb] ∧ Γ = [.is (.ref p), .dat (eN i), .dat (eN j)] ∧ r = .dat (eQ (Nw.slack R top (Nw.fill R top t) t i j))
def Pm_most_on (K : PySem.W.Frag) : Ji → List V → List Sl → Rs → Prop := fun J vs Γ r => ∃ (p lt : Addr) (rows : List Addr) (R : Nw.Ring) (top : Rat) (D t : Nat) (va vb : V), (Fk R top D ∧ t < R.m ∧ rows.length = R.n) ∧
  J = JFt K p lt rows R top t ∧ vs = [.ref p, va, vb] ∧ Γ = [.is (.ref p), .dat (eAsk (R.at t)), .dat (eNs (Nw.tiesOf R.n (R.at t) true))] ∧ r = .dat (eQ (Nw.mostOn R top (Nw.fill R top t) t))
def spTake (K : PySem.W.Frag) : Sp := fun vs H Q _ => ∃ (p lt : Addr) (rows : List Addr) (R : Nw.Ring) (top : Rat) (D t : Nat) (O : List Addr) (va vb vc : V), (Fk R top D ∧ t < R.m ∧ rows.length = R.n ∧ (p :: lt :: rows).Nodup) ∧ vs = [.ref p, va, vb, vc] ∧
  Env (JFt K p lt rows R top t) K O H [some (.ref p), some va, some vb, some vc] [.is (.ref p), .dat (eAsk (R.at t)), .dat (eNs (Nw.tiesOf R.n (R.at t) true)), .dat (eQ (Nw.mostOn R top (Nw.fill R top t) t))] ∧
  ∀ H2, Ex (hide H (p :: lt :: rows)) H2 → FSt K p lt rows R (frees R top (t + 1)) (lefts R (t + 1)) O H2 → Q .non H2
def spSent (K : PySem.W.Frag) : Sp := fun vs H Q _ => ∃ (p lt : Addr) (rows : List Addr) (R : Nw.Ring) (top : Rat) (D : Nat) (O : List Addr), (Fk R top D ∧ rows.length = R.n ∧ (p :: lt :: rows).Nodup) ∧ vs = [.ref p] ∧
  Env (JFt K p lt rows R top 0) K O H [some (.ref p)] [.is (.ref p)] ∧
  ∀ v H2, Ex (hide H (p :: lt :: rows)) H2 → (∃ q ws, v = .ref q ∧ H q = none ∧ H2 q = some (.lst ws) ∧ DpAll K (hide H2 (q :: O)) ws ((Nw.fill R top R.m).map eQ)) → Q v H2
def spInit (K : PySem.W.Frag) : Sp := fun vs H Q _ => ∃ (x dx : Addr) (R : Nw.Ring) (top : Rat) (D : Nat) (O : List Addr) (vr vt : V), (Fk R top D ∧ x ∈ O ∧ ∀ a ∈ O, H a ≠ none) ∧ vs = [.ref x, vr, vt] ∧ H x = some (.ins 311 dx []) ∧ Dp K (hide H O) vr (eRing R) ∧ Dp K (hide H O) vt (eQ top) ∧
  ∀ H2 lt rows, Ex (hide H [x]) H2 → (x :: lt :: rows).Nodup → rows.length = R.n → (∀ a ∈ lt :: rows, H a = none ∧ H2 a ≠ none) → FSt K x lt rows R (frees R top 0) (lefts R 0) ((lt :: rows) ++ O) H2 → Q .non H2
section
variable {R : Nw.Ring} {top : Rat}
theorem free_zero {i : Nat} : Nw.free R top (Nw.fill R top 0) 0 i = top * R.room i := by
  unfold Nw.free
  have e : (Nw.S 0 fun k => Nw.over R.n (R.at k) (Nw.pt (Nw.fill R top 0) k) i) = 0 := rfl
  rw [e]
  grind
theorem free_succ {t i : Nat} : Nw.free R top (Nw.fill R top (t + 1)) (t + 1) i = Nw.free R top (Nw.fill R top t) t i - Nw.over R.n (R.at t) (Nw.mostOn R top (Nw.fill R top t) t) i := by
  unfold Nw.free
  simp only [Nw.S]
  rw [Nw.pt_fill_last]
  have e : (Nw.S t fun k => Nw.over R.n (R.at k) (Nw.pt (Nw.fill R top (t + 1)) k) i) = Nw.S t fun k => Nw.over R.n (R.at k) (Nw.pt (Nw.fill R top t) k) i := Nw.S_eq fun k hk => by rw [Nw.pt_fill hk]
  rw [e]
  grind
theorem cutD_from {α : Type} (l : List α) (f : α → PyData) (p : Nat) : cutD (l.map f) (some (p : Int)) none = (l.drop p).map f := by
  unfold cutD
  have e1 : HT.sIx (l.map f).length 0 (some (p : Int)) = min p (l.map f).length := HT.sIx_nat _ _ _
  have e2 : HT.sIx (l.map f).length (l.map f).length none = (l.map f).length := rfl
  rw [e1, e2, List.length_map]
  by_cases h : p ≤ l.length
  · rw [Nat.min_eq_left h, List.take_of_length_le (by rw [List.length_drop, List.length_map]; omega), List.map_drop]
  · rw [Nat.min_eq_right (by omega), List.drop_eq_nil_of_le (by rw [List.length_map]; omega), List.drop_eq_nil_of_le (as := l) (by omega)]
    simp
theorem lesser_bd {D M : Nat} {a b : Rat} (h1 : Bd D M a) (h2 : Bd D M b) : Bd D M (Nw.lesser a b) := by
  unfold Nw.lesser
  split
  · exact h2
  · exact h1
end
section
variable {P : Program} {w : World} {J : Ji} {K : PySem.W.Frag} {mg : Str → Option Value} {base : Heap}
theorem sc_Filling_slack : FnScope ["self", "one", "other"] ["self", "one", "other"] (defScope s_Filling_slack) := ⟨rfl, rfl, rfl, by decide +kernel, rfl, by decide +kernel, by decide +kernel⟩
theorem hm_slack (T : Tx K mg) (h_minus : Has P w K mg base 3 "minus" 2 P_minus) (h_plus : Has P w K mg base 3 "plus" 2 P_plus) : HasM P w K mg base 4 289 3 (spM K (Pm_slack K)) := by
  obtain ⟨fd, F⟩ := T.f_slack
  refine ⟨fd, ["self", "one", "other"], rfl, F.ok (N := ["self", "one", "other"]) (k := 3) sc_Filling_slack (fun vs H Q E h => ?_) (fun cdv A outer s H vs Q E hr h => ⟨_, (pss_one (ps_ret (pe_hasK h_minus (hr.mono (by decide)) (by rfl) (pa_cons (pe_hasK h_plus (hr.mono (by decide)) (by rfl) (pa_cons (pe_ix (ixK K) (pe_fld (pv 0) rfl) (pv 1) (fun _ _ => rfl)) (pa_cons (pe_ix (ixK K) (pe_fld (pv 0) rfl) (pv 2) (fun _ _ => rfl)) pa_nil))) (pa_cons (pe_ix (ixK K) (pe_ix (ixK K) (pe_fld (pv 0) rfl) (pv 1) (fun _ _ => rfl)) (pv 2) (fun _ _ => rfl)) pa_nil))))), ?_⟩), F.binds (fun _ _ _ _ _ _ us hl => match us, hl with | [_, _, _], _ => rfl)⟩
  · obtain ⟨J, O, Γ, r, ⟨p, lt, rows, R, top, D, t, i, j, va, vb, _, _, rfl, _⟩, _⟩ := h
    rfl
  · refine spM_run h fun J Γ r hp => ?_
    obtain ⟨p, lt, rows, R, top, D, t, i, j, va, vb, ⟨k, ht, hl, hi, hj⟩, rfl, rfl, rfl, rfl⟩ := hp
    show SG (JFt K p lt rows R top t) K [.is (.ref p), .dat (eN i), .dat (eN j)] _ _ _
    have g := k.G
    have fr : ∀ {Γ : List Sl} {ta : TE} {i : Nat}, Γ[0]? = some (.is (.ref p)) → ED (JFt K p lt rows R top t) K Γ ta (eN i) → i < R.n → ED (JFt K p lt rows R top t) K Γ (tOp (rIx K) (tFld K (tVar 0) "free") ta) (eQ (Nw.free R top (Nw.fill R top t) t i)) := fun h0 h1 hi => ed_ixL (el_dat (ed_free T h0)) h1 (atI_at (at_map_range hi))
    exact sg_ret (ed_minus (ed_plus (fr rfl (ed_var rfl) hi) (fr rfl (ed_var rfl) hj) (g.z (free_bd k ht hi)) (g.z (free_bd k ht hj))) (ed_leftAt T rfl (ed_var rfl) (ed_var rfl) (by rw [hl]; exact hi) (at_map_range hj)) (g.z (((free_bd k ht hi).add (free_bd k ht hj)).mono (N := 2 ^ 143) (by decide))) (g.z (left_bd k ht))) rfl
theorem sc_Filling_most_on : FnScope ["self", "ask", "ties", "found", "place", "one", "other"] ["self", "ask", "ties"] (defScope s_Filling_most_on) := ⟨rfl, rfl, rfl, by decide +kernel, rfl, by decide +kernel, by decide +kernel⟩
theorem hm_most_on (T : Tx K mg) (h_lesser : Has P w K mg base 2 "lesser" 2 P_lesser) (h_over : Has P w K mg base 3 "over" 2 P_over) (hm_slack : HasM P w K mg base 4 289 3 (spM K (Pm_slack K))) : HasM P w K mg base 5 296 3 (spM K (Pm_most_on K)) := by
  obtain ⟨fd, F⟩ := T.f_most_on
  refine ⟨fd, ["self", "ask", "ties"], rfl, F.ok (N := ["self", "ask", "ties", "found", "place", "one", "other"]) (k := 4) sc_Filling_most_on (fun vs H Q E h => ?_) (fun cdv A outer s H vs Q E hr h => ⟨_, (pss_cons (ps_set (i := 3) sc_Filling_most_on.nd rfl (Or.inl rfl) (pe_ix (ixK K) (pv 1) pe_int (fun _ _ => rfl)))
  (pss_cons (ps_for PassesOwn.never rfl (pi_enumK K (by rfl) T.enumerate (pa_cons (pv 2) pa_nil)) (pg_tupK K rfl (pgs_cons (pg_name (i := 4) sc_Filling_most_on.nd rfl (Or.inl rfl)) (pgs_cons (pg_name (i := 5) sc_Filling_most_on.nd rfl (Or.inl rfl)) pgs_nil)))
  (pss_one (ps_for PassesOwn.never rfl (pi_listK K (pe_slice (slLK K) (pv 2) (po_some (pv 4)) po_none)) (pg_name (i := 6) sc_Filling_most_on.nd rfl (Or.inl rfl))
  (pss_one (ps_set (i := 3) sc_Filling_most_on.nd rfl (Or.inl rfl) (pe_hasK h_lesser (hr.mono (by decide)) (by rfl) (pa_cons (pv 3) (pa_cons (pe_hasK h_over (hr.mono (by decide)) (by rfl) (pa_cons (pe_methK hm_slack (pv 0) T.cl T.m_slack (hr.mono (by decide)) (pa_cons (pv 5) (pa_cons (pv 6) pa_nil))) (pa_cons (pe_glob (v := .ref 263) (by rfl) T.g_TWO rfl) pa_nil))) pa_nil))))))))
  (pss_one (ps_ret (pv 3))))), ?_⟩), F.binds (fun _ _ _ _ _ _ us hl => match us, hl with | [_, _, _], _ => rfl)⟩
  · obtain ⟨J, O, Γ, r, ⟨p, lt, rows, R, top, D, t, va, vb, _, _, rfl, _⟩, _⟩ := h
    rfl
  · refine spM_run h fun J Γ r hp => ?_
    obtain ⟨p, lt, rows, R, top, D, t, va, vb, ⟨k, ht, hl⟩, rfl, rfl, rfl, rfl⟩ := hp
    show SG (JFt K p lt rows R top t) K [.is (.ref p), .dat (eAsk (R.at t)), .dat (eNs (Nw.tiesOf R.n (R.at t) true)), .un, .un, .un, .un] _ _ _
    have g := k.G
    have n0 : 0 < R.n := by have := g.ok.two; omega
    have tl : ∀ i ∈ Nw.tiesOf R.n (R.at t) true, i < R.n := fun i hi => Nw.tiesOf_lt n0 hi
    have tlen : (Nw.tiesOf R.n (R.at t) true).length ≤ 8 := by
      show (Nw.tiesOn R.n (R.at t)).length ≤ 8
      unfold Nw.tiesOn
      rw [List.length_map, List.length_range]
      have := Nat.mod_lt ((R.at t).other + R.n - (R.at t).one) n0
      have := g.n8
      omega
    have sz := g.size t ht
    refine qd (d := eQ (R.at t).size) (ed_ixT (ed_var rfl) ed_int rfl) ?_
    unfold Nw.mostOn Nw.leastOver
    generalize hT : Nw.tiesOf R.n (R.at t) true = ties at tl tlen ⊢
    have gd : ∀ {q : Nat} {x : Nat}, ties[q]? = some x → ties.getD q 0 = x := fun h => by rw [List.getD_eq_getElem?_getD, h]; rfl
    refine sg_seq (N' := fun Γ' => Γ' = [.is (.ref p), .dat (eAsk (R.at t)), .dat (eNs ties), .dat (eQ ((List.range ties.length).foldl (fun x p => (ties.drop p).foldl (fun x j => Nw.lesser x (Nw.slack R top (Nw.fill R top t) t (ties.getD p 0) j / 2)) x) (R.at t).size)), .un, .un, .un]) (sg_forE (fun i Γ' => ∃ x, Bd (D * 2 ^ 8) (2 ^ 144) x ∧ x = (List.range i).foldl (fun x p => (ties.drop p).foldl (fun x j => Nw.lesser x (Nw.slack R top (Nw.fill R top t) t (ties.getD p 0) j / 2)) x) (R.at t).size ∧ Γ' = [.is (.ref p), .dat (eAsk (R.at t)), .dat (eNs ties), .dat (eQ x), .un, .un, .un]) (ed_var rfl) ⟨_, Le.refl _, _, sz.mono (by decide), rfl, rfl⟩ ?_ ?_) ?_
    · rintro i d Γ' hd ⟨x, bx, ex, rfl⟩
      obtain ⟨one, ho, rfl⟩ := map_at hd
      have hone := tl one (List.mem_of_getElem? ho)
      refine sg_forL (ds := (ties.drop i).map eN) (fun j Γ' => ∃ y, Bd (D * 2 ^ 8) (2 ^ 144) y ∧ y = ((ties.drop i).take j).foldl (fun x j => Nw.lesser x (Nw.slack R top (Nw.fill R top t) t one j / 2)) x ∧ Γ' = [.is (.ref p), .dat (eAsk (R.at t)), .dat (eNs ties), .dat (eQ y), .dat (eN i), .dat (eN one), .un]) (ed_of_own (own_is (own_sliceL (lo := some (i : Int)) (hi := none) (el_dat (ed_var rfl)) (eo_some (ed_var rfl)) eo_none) (cutD_from ties eN i))) ⟨_, Le.refl _, x, bx, rfl, rfl⟩ ?_ ?_
      · rintro j d Γ' hd ⟨y, bY, ey, rfl⟩
        obtain ⟨other, hot, rfl⟩ := map_at hd
        have hother := tl other (List.mem_of_mem_drop (List.mem_of_getElem? hot))
        have hb := half_bd k ht hone hother
        refine sg_asg (ed_lesser (ed_var rfl) (ed_over (b := 2) (eg_meth (p := p) (ds := [eN one, eN other]) (r := .dat (eQ (Nw.slack R top (Nw.fill R top t) t one other))) (fun W H v => by obtain ⟨⟨dx, vr, vf, h1, _⟩, _⟩ := v; exact ⟨dx, _, h1, rfl⟩) rfl (ea_cons (ed_var rfl) (ea_cons (ed_var rfl) ea_nil)) fun H W vs hv => ?_) (ed_two T) (g.z (slack_bd k (show t ≤ R.m by omega) hone hother)) two_z (by decide +kernel)) (g.z bY) (g.z hb)) ⟨_, .same (.same (.same (.same (.same (.same (.un .nil)))))), lq_refl ⟨_, lesser_bd bY hb, ?_, rfl⟩⟩
        · obtain ⟨u1, u2, rfl, _⟩ := dpall2 hv
          exact ⟨p, lt, rows, R, top, D, t, one, other, u1, u2, ⟨k, by omega, hl, hone, hother⟩, rfl, rfl, rfl, rfl⟩
        · rw [take_next hot, List.foldl_append, ← ey]
          rfl
      · rintro Γ' ⟨y, bY, ey, rfl⟩
        rw [List.length_map, List.take_length] at ey
        refine ⟨_, .same (.same (.same (.same (.un (.un (.un .nil)))))), lq_refl ⟨y, bY, ?_, rfl⟩⟩
        rw [List.range_succ, List.foldl_append, ← ex, ey]
        simp only [List.foldl_cons, List.foldl_nil]
        rw [gd ho]
    · rintro Γ' ⟨x, bx, ex, rfl⟩
      rw [List.length_map] at ex
      exact lq_refl (by rw [ex])
    · rintro Γ' rfl
      exact sg_ret (ed_var rfl) rfl
end
end NwB
end NwD2_
section NwD3_
set_option Elab.async false
set_option linter.all false
set_option maxRecDepth 100000
set_option maxHeartbeats 4000000
namespace NwB
open PySem PySem.Spec PyProof.Rows L2 NwT
open Evl (Ex)
section
variable {J : Ji} {K : PySem.W.Frag} {H H1 H2 H' : Hp} {O W : List Addr} {σ : L2.St} {Γ : List Sl} {p lt : Addr} {rows : List Addr} {R : Nw.Ring} {Fr Fr' : List PyData} {L L' : Nat → List PyData}
theorem ex_hide_upd {F : List Addr} {q : Addr} {o : HO} (h : q ∈ F) : Ex (hide H F) (upd H q o) := fun a u z => by
  obtain ⟨z1, z2⟩ := hide_some z
  rw [upd_ne fun y => z1 (by rw [y]; exact h)]
  exact z2
theorem ex_hide_trans {F : List Addr} {H3 : Hp} (h1 : Ex (hide H F) H2) (h2 : Ex (hide H2 F) H3) : Ex (hide H F) H3 := fun a o z => by
  have z1 := (hide_some z).1
  refine h2 a o ?_
  rw [hide_out z1]
  exact h1 a o z
theorem ex_hide_of {F : List Addr} (h : Ex H H2) : Ex (hide H F) H2 := hide_le.trans h
theorem foot_there (h : FSt K p lt rows R Fr L W H) : ∀ a ∈ p :: lt :: rows, H a ≠ none := by
  obtain ⟨⟨dx, vr, vf, h1, _⟩, h4, h5⟩ := h
  intro a ha
  rcases List.mem_cons.mp ha with rfl | ha
  · rw [h1]
    simp
  · rcases List.mem_cons.mp ha with rfl | ha
    · rw [h4]
      simp
    · obtain ⟨i, hi⟩ := List.mem_iff_getElem?.mp ha
      obtain ⟨rv, z, _⟩ := h5 i a hi
      rw [z]
      simp
theorem env_fld {dx : Addr} {vr vf y : V} (e : Env (JF K p lt rows R Fr L) K O H σ Γ) (nd : (p :: lt :: rows).Nodup) (k1 : H p = some (.ins 311 dx [("asked", vr), ("free", vf), ("left", .ref lt)])) (hy : Dp K (hide H (ows σ Γ ++ O)) y (.list Fr')) :
    Env (JF K p lt rows R Fr' L) K O (upd H p (.ins 311 dx [("asked", vr), ("free", y), ("left", .ref lt)])) σ Γ := by
  obtain ⟨⟨dx', vr', vf', h1, h2, h3⟩, h4, h5⟩ := e.inv
  rw [k1] at h1
  cases h1
  obtain ⟨nd1, nd2⟩ := List.nodup_cons.mp nd
  have hp : p ∈ ows σ Γ ++ O := List.mem_append_right _ (e.foot p (List.mem_cons_self ..))
  have hv : FSt K p lt rows R Fr' L (ows σ Γ ++ O) (upd H p (.ins 311 dx [("asked", vr), ("free", y), ("left", .ref lt)])) := by
    unfold FSt
    rw [hide_upd hp]
    refine ⟨⟨dx, vr, y, upd_same, h2, hy⟩, by rw [upd_ne fun z => nd1 (by rw [← z]; exact List.mem_cons_self ..)]; exact h4, fun i r hr => ?_⟩
    obtain ⟨rv, a, b⟩ := h5 i r hr
    exact ⟨rv, by rw [upd_ne fun z => nd1 (by rw [← z]; exact List.mem_cons_of_mem _ (List.mem_of_getElem? hr))]; exact a, b⟩
  exact env_mut e rfl (ex_hide_upd (List.mem_cons_self ..)) (foot_there hv) hv
theorem env_cong (e : Env (JF K p lt rows R Fr L) K O H σ Γ) (c : ∀ i, i < rows.length → L i = L' i) : Env (JF K p lt rows R Fr L') K O H σ Γ := ⟨e.sl, e.dis, e.all, e.foot, FSt.cong c e.inv⟩
theorem env_row {i j : Nat} {r : Addr} {rv : List V} {x : V} {d : PyData} (e : Env (JF K p lt rows R Fr L) K O H σ Γ) (nd : (p :: lt :: rows).Nodup) (hr : rows[i]? = some r) (hv : H r = some (.lst rv)) (hx : Dp K (hide H (ows σ Γ ++ O)) x d) :
    Env (JF K p lt rows R Fr (fun a => if a = i then (L i).set j d else L a)) K O (upd H r (.lst (rv.set j x))) σ Γ := by
  have hf := FSt.row (j := j) nd (fun a ha => List.mem_append_right _ (e.foot a ha)) hr hv hx e.inv
  exact env_mut e rfl (ex_hide_upd (List.mem_cons_of_mem _ (List.mem_cons_of_mem _ (List.mem_of_getElem? hr)))) (foot_there hf) hf
theorem raw_fld {i : Nat} {f : Str} {tv : TE} {r : Rs} {u : TS} {D : Ends} (h : EG J K Γ tv r) (e : Env J K O H σ Γ)
    (k : ∀ y H2, Ex H H2 → RD K H H2 (ows σ Γ ++ O) y r → ∃ a C dx fs, σ[i]? = some (some (.ref a)) ∧ H2 a = some (.ins C dx fs) ∧ Cls K C ∧ NoAttr K C f ∧ fs.length < 1000 ∧ u D σ (upd H2 a (.ins C dx (putF f y fs)))) : tSeq (sFld K (tVar i) tv f) u D σ H :=
  h O σ H e _ fun y H2 x2 r2 => by
    obtain ⟨a, C, dx, fs, h1, h2, h3, h4, h5, h6⟩ := k y H2 x2 r2
    exact ⟨_, h1, a, C, dx, fs, rfl, h2, h3, h4, h5, h6⟩
/-- the rows while they are gone through -/
def Lm (R : Nw.Ring) (t i j : Nat) : Nat → List PyData := fun a => (List.range R.n).map fun b => eQ (if a < i ∨ (a = i ∧ b < j) then Nw.left R (t + 1) a b else Nw.left R t a b)
theorem Lm_len {t i j a : Nat} : (Lm R t i j a).length = R.n := by unfold Lm; rw [List.length_map, List.length_range]
theorem Lm_at {t i j a b : Nat} (h : b < R.n) : (Lm R t i j a)[b]? = some (eQ (if a < i ∨ (a = i ∧ b < j) then Nw.left R (t + 1) a b else Nw.left R t a b)) := at_map_range h
theorem Lm_zero {t a : Nat} : Lm R t 0 0 a = lefts R t a := by
  unfold Lm lefts
  refine List.map_congr_left fun b _ => ?_
  rw [if_neg (by omega)]
theorem Lm_full {t i a : Nat} : Lm R t i R.n a = Lm R t (i + 1) 0 a := by
  unfold Lm
  refine List.map_congr_left fun b hb => ?_
  have hb := List.mem_range.mp hb
  by_cases c : a < i ∨ (a = i ∧ b < R.n)
  · rw [if_pos c, if_pos (by omega)]
  · rw [if_neg c, if_neg (by omega)]
theorem Lm_end {t a : Nat} (h : a < R.n) : Lm R t R.n 0 a = lefts R (t + 1) a := by
  unfold Lm lefts
  refine List.map_congr_left fun b _ => ?_
  rw [if_pos (by omega)]
theorem Lm_set {t i j a : Nat} (hj : j < R.n) : (if a = i then (Lm R t i j i).set j (eQ (Nw.left R (t + 1) i j)) else Lm R t i j a) = Lm R t i (j + 1) a := by
  by_cases e : a = i
  · subst e
    rw [if_pos rfl]
    refine List.ext_getElem? fun b => ?_
    rw [List.getElem?_set, Lm_len]
    by_cases hb : b < R.n
    · rw [Lm_at hb, Lm_at hb]
      by_cases c : j = b
      · subst c
        rw [if_pos rfl, if_pos hj, if_pos (by omega)]
      · rw [if_neg c]
        by_cases d : b < j
        · rw [if_pos (by omega), if_pos (by omega)]
        · rw [if_neg (by omega), if_neg (by omega)]
    · rw [if_neg (by omega), List.getElem?_eq_none (by rw [Lm_len]; omega), List.getElem?_eq_none (by rw [Lm_len]; omega)]
  · rw [if_neg e]
    unfold Lm
    refine List.map_congr_left fun b _ => ?_
    by_cases c : a < i
    · rw [if_pos (.inl c), if_pos (.inl c)]
    · rw [if_neg (by omega), if_neg (by omega)]
theorem Lm_same {t i j a : Nat} (hj : j < R.n) (e : Nw.left R (t + 1) i j = Nw.left R t i j) : Lm R t i j a = Lm R t i (j + 1) a := by
  rw [← Lm_set hj]
  by_cases c : a = i
  · subst c
    rw [if_pos rfl]
    refine List.ext_getElem? fun b => ?_
    rw [List.getElem?_set, Lm_len]
    by_cases d : j = b
    · subst d
      rw [if_pos rfl, if_pos hj, Lm_at hj, if_neg (by omega), e]
    · rw [if_neg d]
  · rw [if_neg c]
end
section
variable {P : Program} {w : World} {J : Ji} {K : PySem.W.Frag} {mg : Str → Option Value} {base : Heap}
theorem sc_Filling_take : FnScope ["self", "ask", "ties", "part", "rest", "one", "row", "other", "tie", "room"] ["self", "ask", "ties", "part"] (defScope s_Filling_take) := ⟨rfl, rfl, rfl, by decide +kernel, rfl, by decide +kernel, by decide +kernel⟩
theorem hm_take (T : Tx K mg) (h_is_apart : Has P w K mg base 2 "is_apart" 3 P_is_apart) (h_minus : Has P w K mg base 3 "minus" 2 P_minus) : HasM P w K mg base 4 301 4 (spTake K) := by
  obtain ⟨fd, F⟩ := T.f_take
  refine ⟨fd, ["self", "ask", "ties", "part"], rfl, F.ok (N := ["self", "ask", "ties", "part", "rest", "one", "row", "other", "tie", "room"]) (k := 3) sc_Filling_take (fun vs H Q E h => ?_) (fun cdv A outer s H vs Q E hr h => ⟨_, (pss_cons (ps_set (i := 4) sc_Filling_take.nd rfl (Or.inr rfl) (pe_hasK h_minus (hr.mono (by decide)) (by rfl) (pa_cons (pe_ix (ixK K) (pv 1) pe_int (fun _ _ => rfl)) (pa_cons (pv 3) pa_nil))))
  (pss_cons (ps_fld (pv 0) (pe_lc (own := [("tie", 8), ("room", 9)]) (g := gTup K 2 (gCons (gName 8) (gCons (gName 9) gNil))) rfl sc_Filling_take.nd (pi_enumK K (by rfl) T.enumerate (pa_cons (pe_fld (pv 0) rfl) pa_nil)) (blkOk_by (own := [("tie", 8), ("room", 9)]) (N := ["self", "ask", "ties", "part", "rest", "one", "row", "other", "tie", "room"]) (sc := (defScope s_Filling_take)) (by decide +kernel)) (fun _ _ _ _ _ => pg_tupK K rfl (pgs_cons (pg_name (i := 8) sc_Filling_take.nd rfl (Or.inl rfl)) (pgs_cons (pg_name (i := 9) sc_Filling_take.nd rfl (Or.inl rfl)) pgs_nil))) (fun _ _ _ _ _ => pts_nil) (fun _ _ _ _ _ => by exact (pe_hasK h_minus (hr.mono (by decide)) (by rfl) (pa_cons (pv 9) (pa_cons (pe_ix (ixK K) (pe_lst (pa_cons (pv 4) (pa_cons (pv 3) pa_nil))) (pe_callTy call_int1 (by rfl) T.int bb_int (pa_cons (pe_cmpR (inK K) (pv 8) (pv 2) (by rfl)) pa_nil)) (fun _ _ => rfl)) pa_nil))))) rfl)
  (pss_one (ps_for PassesOwn.never rfl (pi_enumK K (by rfl) T.enumerate (pa_cons (pe_fld (pv 0) rfl) pa_nil)) (pg_tupK K rfl (pgs_cons (pg_name (i := 5) sc_Filling_take.nd rfl (Or.inl rfl)) (pgs_cons (pg_name (i := 6) sc_Filling_take.nd rfl (Or.inl rfl)) pgs_nil)))
  (pss_one (ps_for PassesOwn.never rfl (pi_range1 rfl T.range (pa_cons (pe_callB (lenK K) (by rfl) T.len bb_len (pa_cons (pv 6) pa_nil)) pa_nil)) (pg_name (i := 7) sc_Filling_take.nd rfl (Or.inl rfl))
  (pss_one (ps_if (pt_val (pe_hasK h_is_apart (hr.mono (by decide)) (by rfl) (pa_cons (pe_tup (pa_cons (pe_callB (call_min2 rfl) (by rfl) T.min bb_min (pa_cons (pv 5) (pa_cons (pv 7) pa_nil))) (pa_cons (pe_callB (call_max2 rfl) (by rfl) T.max bb_max (pa_cons (pv 5) (pa_cons (pv 7) pa_nil))) pa_nil))) (pa_cons (pe_ix (ixK K) (pv 1) pe_int (fun _ _ => rfl)) (pa_cons (pe_ix (ixK K) (pv 1) pe_int (fun _ _ => rfl)) pa_nil))))) (pss_one (ps_asg (pe_hasK h_minus (hr.mono (by decide)) (by rfl) (pa_cons (pe_ix (ixK K) (pv 6) (pv 7) (fun _ _ => rfl)) (pa_cons (pe_ix (ixK K) (pv 1) pe_int (fun _ _ => rfl)) pa_nil))) (pg_sub (pv 6) (pv 7) set_list))) pss_nil)))))))), ?_⟩), F.binds (fun _ _ _ _ _ _ us hl => match us, hl with | [_, _, _, _], _ => rfl)⟩
  · obtain ⟨p, lt, rows, R, top, D, t, O, va, vb, vc, _, rfl, _⟩ := h
    rfl
  · obtain ⟨p, lt, rows, R, top, D, t, O, va, vb, vc, ⟨k, ht, hl, nd⟩, rfl, e, q⟩ := h
    have g := k.G
    have n8 := g.n8
    have n0 : 0 < R.n := by have := g.ok.two; omega
    have oka := g.ok.ask t ht
    have pb : Bd (D * 2 ^ 8) (2 ^ 41) (Nw.mostOn R top (Nw.fill R top t) t) := by
      have h := part_bd k (show t + 1 ≤ R.m by omega) (Nat.lt_succ_self t)
      rw [Nw.pt_fill_last] at h
      exact h
    have rb : Bd (D * 2 ^ 8) (2 ^ 42) ((R.at t).size - Nw.mostOn R top (Nw.fill R top t) t) := ((g.size t ht).sub pb).mono (by decide)
    have e0 : Env (JFt K p lt rows R top t) K O H (L2.start ["self", "ask", "ties", "part", "rest", "one", "row", "other", "tie", "room"] [.ref p, va, vb, vc]) [.is (.ref p), .dat (eAsk (R.at t)), .dat (eNs (Nw.tiesOf R.n (R.at t) true)), .dat (eQ (Nw.mostOn R top (Nw.fill R top t) t)), .un, .un, .un, .un, .un, .un] := env_pad 6 e
    refine raw_asg (d := eQ ((R.at t).size - Nw.mostOn R top (Nw.fill R top t) t)) (ed_minus (ed_ixT (ed_var rfl) ed_int rfl) (ed_var rfl) (g.z (g.size t ht)) (g.z pb)) e0 fun v1 H1 x1 e1 => ?_
    have lcr : ED (JFt K p lt rows R top t) K [.is (.ref p), .dat (eAsk (R.at t)), .dat (eNs (Nw.tiesOf R.n (R.at t) true)), .dat (eQ (Nw.mostOn R top (Nw.fill R top t) t)), .dat (eQ ((R.at t).size - Nw.mostOn R top (Nw.fill R top t) t)), .un, .un, .un, .un, .un] (tLc (iEnum K (tCons (tFld K (tVar 0) "free") tNil)) (gTup K 2 (gCons (gName 8) (gCons (gName 9) gNil))) tYes (tCall (spF K P_minus) [] E0 (tCons (tVar 9) (tCons (tOp (rIx K) (tLst (tCons (tVar 4) (tCons (tVar 3) tNil))) (tCB rInt1 (tCons (tOp (rIn K false) (tVar 8) (tVar 2)) tNil))) tNil))) [8, 9]) (.list (frees R top (t + 1))) := by
      refine ed_of_own (own_is (lc_E (ds := frees R top t) (fun _ => true) (fun i => eQ (Nw.free R top (Nw.fill R top (t + 1)) (t + 1) i)) ?_ (by decide) (by decide) (by decide) (ed_free T rfl) ?_ (fun _ _ _ => eb_yes) fun i d hd _ => ?_) ?_)
      · intro i hi
        rcases List.mem_cons.mp hi with rfl | hi
        · rfl
        · rw [List.mem_singleton.mp hi]
          rfl
      · unfold frees
        rw [List.length_map, List.length_range]
        omega
      · obtain ⟨hi, rfl⟩ := map_range_at hd
        rw [free_succ]
        have hb : decide (i ∈ Nw.tiesOf R.n (R.at t) true) = Nw.on R.n (R.at t) i := by
          cases c : Nw.on R.n (R.at t) i with
          | true => exact decide_eq_true ((Nw.mem_tiesOf oka).mpr ⟨hi, c⟩)
          | false => exact decide_eq_false fun z => by have := ((Nw.mem_tiesOf oka).mp z).2; rw [c] at this; cases this
        have ob : Bd (D * 2 ^ 8) (2 ^ 42) (Nw.over R.n (R.at t) (Nw.mostOn R top (Nw.fill R top t) t) i) := by
          unfold Nw.over
          split
          · exact pb.mono (by decide)
          · exact rb
        refine ed_minus (ed_var rfl) (ed_ixL (el_dat (ed_of_own (own_lst (ea_cons (ed_var rfl) (ea_cons (ed_var rfl) ea_nil))))) (ed_intB (ed_inN (ed_var rfl) (el_dat (ed_var rfl)))) ?_) (g.z (free_bd k (show t ≤ R.m by omega) hi)) (g.z ob)
        rw [hb]
        unfold Nw.over
        cases Nw.on R.n (R.at t) i <;> rfl
      · unfold frees
        rw [told_all, List.length_map, List.length_range]
    refine raw_fld (r := .dat (.list (frees R top (t + 1)))) lcr e1 fun y H2 x2 r2 => ?_
    have e2 := e1.mono x2
    obtain ⟨⟨dx, vr, vf, k1, k2, k3⟩, k4, k5⟩ := e2.inv
    refine ⟨p, 311, dx, _, e2.sl.getI rfl, k1, T.cl, T.na_free, by show 3 < 1000; decide, ?_⟩
    have e3 := env_fld e2 nd k1 r2
    have x3 : Ex (hide H (p :: lt :: rows)) (upd H2 p (.ins 311 dx [("asked", vr), ("free", y), ("left", .ref lt)])) := ex_hide_trans (ex_hide_of (x1.trans x2)) (ex_hide_upd (List.mem_cons_self ..))
    obtain ⟨⟨dx3, vr3, vf3, k13, k23, k33⟩, k43, k53⟩ := e3.inv
    have base : ∀ {σ' : L2.St} {H' : Hp}, Ex (hide H (p :: lt :: rows)) H' → H' lt = some (.lst (rows.map V.ref)) → SqL K H' lt (rows.map V.ref) := fun _ z => SqL.of z
    refine ⟨_, e3.sl.getI rfl, p, 311, dx3, _, .ref lt, rfl, k13, T.cl, T.na_left, rfl, lt, rows.map V.ref, rfl, SqL.of k43, enum_loop (fun i σ' H' => Ex (hide H (p :: lt :: rows)) H' ∧ Env (JF K p lt rows R (frees R top (t + 1)) (Lm R t i 0)) K O H' σ' [.is (.ref p), .dat (eAsk (R.at t)), .dat (eNs (Nw.tiesOf R.n (R.at t) true)), .dat (eQ (Nw.mostOn R top (Nw.fill R top t) t)), .dat (eQ ((R.at t).size - Nw.mostOn R top (Nw.fill R top t) t)), .un, .un, .un, .un, .un]) ⟨x3, env_cong e3 fun a _ => Lm_zero.symm⟩ (fun i σ' H' _ z => SqL.of z.2.inv.2.1) (fun i x σ' H' Tp hx z hT => ?_) fun σ' H' z => ?_⟩
    · obtain ⟨xx, ee⟩ := z
      obtain ⟨r, hr, rfl⟩ : ∃ r, rows[i]? = some r ∧ x = .ref r := by
        rw [List.getElem?_map] at hx
        cases c : rows[i]? with
        | none => rw [c] at hx; cases hx
        | some r => rw [c] at hx; exact ⟨r, rfl, (Option.some.inj hx).symm⟩
      have hi : i < R.n := by rw [← hl]; exact (List.getElem?_eq_some_iff.mp hr).1
      have xT : Ex H' (upd H' Tp (.tup [.int (i : Int), .ref r])) := Ex.new hT
      have e5 := (((ee.mono xT).setD (.int (i : Int)) 5).1.setI (v := .ref r) 6).1
      have x5 : Ex (hide H (p :: lt :: rows)) (upd H' Tp (.tup [.int (i : Int), .ref r])) := xx.trans xT
      obtain ⟨rv, z1, z2⟩ := e5.inv.2.2 i r hr
      have rl : rv.length = R.n := by rw [z2.len, Lm_len]
      refine ⟨_, e5.sl.getI rfl, r, rv, rfl, .inl (SqL.of z1), (rv.length : Int), rfl, by rw [rl]; omega, by rw [rl]; omega, ?_⟩
      rw [Int.toNat_natCast, rl]
      refine for_range (lo := 0) (n := R.n) (fun j σ' H' => Ex (hide H (p :: lt :: rows)) H' ∧ Env (JF K p lt rows R (frees R top (t + 1)) (Lm R t i j)) K O H' σ' [.is (.ref p), .dat (eAsk (R.at t)), .dat (eNs (Nw.tiesOf R.n (R.at t) true)), .dat (eQ (Nw.mostOn R top (Nw.fill R top t) t)), .dat (eQ ((R.at t).size - Nw.mostOn R top (Nw.fill R top t) t)), .dat (eN i), .is (.ref r), .un, .un, .un]) ⟨x5, e5⟩ (fun j σ2 H2' hj z => ?_) fun σ2 H2' z => ?_
      · obtain ⟨xj, ej⟩ := z
        have ez : (0 : Int) + (j : Int) = (j : Int) := Int.zero_add _
        rw [ez]
        have e6 := (ej.setD (.int (j : Int)) 7).1
        have tst : EB (JF K p lt rows R (frees R top (t + 1)) (Lm R t i j)) K [.is (.ref p), .dat (eAsk (R.at t)), .dat (eNs (Nw.tiesOf R.n (R.at t) true)), .dat (eQ (Nw.mostOn R top (Nw.fill R top t) t)), .dat (eQ ((R.at t).size - Nw.mostOn R top (Nw.fill R top t) t)), .dat (eN i), .is (.ref r), .dat (eN j), .un, .un] (tB (tCall (spF K P_is_apart) [] E0 (tCons (tTup (tCons (tCB rMin2 (tCons (tVar 5) (tCons (tVar 7) tNil))) (tCons (tCB rMax2 (tCons (tVar 5) (tCons (tVar 7) tNil))) tNil))) (tCons (tOp (rIx K) (tVar 1) (tC (.int 1))) (tCons (tOp (rIx K) (tVar 1) (tC (.int 2))) tNil))))) (apartN (min i j, max i j) (R.at t).one (R.at t).other) := by
          refine eb_B (eg_call (ea_cons (ed_is (ed_tup (ea_cons (ed_min2 (ed_var rfl) (ed_var rfl)) (ea_cons (ed_max2 (ed_var rfl) (ed_var rfl)) ea_nil))) (d' := eC (min i j, max i j)) ?_) (ea_cons (ed_ixT (ed_var rfl) ed_int rfl) (ea_cons (ed_ixT (ed_var rfl) ed_int rfl) ea_nil))) ⟨(min i j, max i j), (R.at t).one, (R.at t).other, rfl, rfl⟩)
          unfold eC eN
          have a1 : min ((i : Nat) : Int) ((j : Nat) : Int) = ((min i j : Nat) : Int) := by omega
          have a2 : max ((i : Nat) : Int) ((j : Nat) : Int) = ((max i j : Nat) : Int) := by omega
          rw [a1, a2]
        refine tst O _ _ e6 _ fun H4 x4 => ?_
        have e7 := e6.mono x4
        have x7 : Ex (hide H (p :: lt :: rows)) H4 := xj.trans x4
        have fin : ∀ {H5 : Hp} {σ5 : L2.St}, Env (JF K p lt rows R (frees R top (t + 1)) (Lm R t i (j + 1))) K O H5 σ5 [.is (.ref p), .dat (eAsk (R.at t)), .dat (eNs (Nw.tiesOf R.n (R.at t) true)), .dat (eQ (Nw.mostOn R top (Nw.fill R top t) t)), .dat (eQ ((R.at t).size - Nw.mostOn R top (Nw.fill R top t) t)), .dat (eN i), .is (.ref r), .dat (eN j), .un, .un] → Env (JF K p lt rows R (frees R top (t + 1)) (Lm R t i (j + 1))) K O H5 σ5 [.is (.ref p), .dat (eAsk (R.at t)), .dat (eNs (Nw.tiesOf R.n (R.at t) true)), .dat (eQ (Nw.mostOn R top (Nw.fill R top t) t)), .dat (eQ ((R.at t).size - Nw.mostOn R top (Nw.fill R top t) t)), .dat (eN i), .is (.ref r), .un, .un, .un] := fun ev => (ev.le (.same (.same (.same (.same (.same (.same (.same (.un (.un (.un .nil))))))))))).1
        have cl : Nw.left R (t + 1) i j = Nw.left R t i j - Nw.crossed R i j t := Nw.left_succ
        cases hb : apartN (min i j, max i j) (R.at t).one (R.at t).other with
        | true =>
          have ec : Nw.crossed R i j t = (R.at t).size := if_pos hb
          have mi : ED (JF K p lt rows R (frees R top (t + 1)) (Lm R t i j)) K [.is (.ref p), .dat (eAsk (R.at t)), .dat (eNs (Nw.tiesOf R.n (R.at t) true)), .dat (eQ (Nw.mostOn R top (Nw.fill R top t) t)), .dat (eQ ((R.at t).size - Nw.mostOn R top (Nw.fill R top t) t)), .dat (eN i), .is (.ref r), .dat (eN j), .un, .un] (tCall (spF K P_minus) [] E0 (tCons (tOp (rIx K) (tVar 6) (tVar 7)) (tCons (tOp (rIx K) (tVar 1) (tC (.int 3))) tNil))) (eQ (Nw.left R (t + 1) i j)) := by
            rw [cl, ec]
            refine ed_minus (a := Nw.left R t i j) (ed_rowAt rfl hr (ed_var rfl) ?_) (ed_ixT (ed_var rfl) ed_int rfl) (g.z (left_bd k (show t ≤ R.m by omega))) (g.z (g.size t ht))
            rw [Lm_at hj, if_neg (by omega)]
          refine mi O _ _ e7 _ fun v8 H8 x8 r8 => ?_
          have e8 := e7.mono x8
          obtain ⟨rv8, z3, z4⟩ := e8.inv.2.2 i r hr
          obtain ⟨u7, s7, d7⟩ := e8.sl.get (i := 7) (d := eN j) rfl
          have d7 := dp_int d7
          subst d7
          refine ⟨_, e8.sl.getI rfl, _, s7, r, rv8, (j : Int), j, rfl, rfl, z3, Evl.ixN_nat (by rw [z4.len, Lm_len]; exact hj), ?_⟩
          refine ⟨ex_hide_trans (x7.trans x8) (ex_hide_upd (List.mem_cons_of_mem _ (List.mem_cons_of_mem _ (List.mem_of_getElem? hr)))), fin (env_cong (env_row (j := j) e8 nd hr z3 r8) fun a _ => Lm_set hj)⟩
        | false =>
          have ec : Nw.crossed R i j t = 0 := if_neg (show ¬ (apartN (min i j, max i j) (R.at t).one (R.at t).other = true) by rw [hb]; decide)
          refine ⟨x7, fin (env_cong e7 fun a _ => Lm_same hj (by rw [cl, ec]; grind))⟩
      · obtain ⟨xj, ej⟩ := z
        exact ⟨xj, env_cong (ej.le (.same (.same (.same (.same (.same (.un (.un (.un (.un (.un .nil))))))))))).1 fun a _ => Lm_full⟩
    · obtain ⟨xx, ee⟩ := z
      rw [List.length_map, hl] at ee
      have ee2 := env_cong (L' := lefts R (t + 1)) ee fun a ha => Lm_end (by rw [← hl]; exact ha)
      exact q H' xx (FSt.sub (fun a ha => List.mem_append_right _ ha) ee2.inv)
end
end NwB
end NwD3_
section NwD4_
set_option Elab.async false
set_option linter.all false
set_option maxRecDepth 100000
set_option maxHeartbeats 4000000
namespace NwB
open PySem PySem.Spec PyProof.Rows L2 NwT
open Evl (Ex)
section
variable {J : Ji} {K : PySem.W.Frag} {H H1 H2 H' : Hp} {O W : List Addr} {σ : L2.St} {Γ : List Sl} {te tl : TE}
theorem EnvL.pin {q : Addr} {ds : List PyData} (h : EnvL K H W σ Γ) : ∀ {i : Nat}, Γ[i]? = some (.ownP none ds) → σ[i]? = some (some (.ref q)) → EnvL K H W σ (Γ.set i (.ownP (some q) ds)) ∧ ows σ (Γ.set i (.ownP (some q) ds)) = ows σ Γ := by
  induction h with
  | nil => intro i e; simp at e
  | @un x σ Γ h ih =>
    intro i e1 e2
    cases i with
    | zero => cases (show some Sl.un = some _ from e1)
    | succ i =>
      obtain ⟨a, b⟩ := ih (i := i) e1 e2
      exact ⟨.un a, by show ows (x :: σ) (.un :: Γ.set i _) = _; rw [ows_un, ows_un, b]⟩
  | @is x σ Γ h ih =>
    intro i e1 e2
    cases i with
    | zero => cases (show some (Sl.is _) = some _ from e1)
    | succ i =>
      obtain ⟨a, b⟩ := ih (i := i) e1 e2
      exact ⟨.is a, by show ows (some x :: σ) (.is x :: Γ.set i _) = _; rw [ows_is, ows_is, b]⟩
  | @dat x dx σ Γ hx h ih =>
    intro i e1 e2
    cases i with
    | zero => cases (show some (Sl.dat _) = some _ from e1)
    | succ i =>
      obtain ⟨a, b⟩ := ih (i := i) e1 e2
      exact ⟨.dat hx a, by show ows (some x :: σ) (.dat dx :: Γ.set i _) = _; rw [ows_dat, ows_dat, b]⟩
  | @own r rq vs es σ Γ h0 h1 h2 h3 h ih =>
    intro i e1 e2
    cases i with
    | zero =>
      cases (show some (some (V.ref r)) = some _ from e2)
      cases (show some (Sl.ownP rq es) = some _ from e1)
      exact ⟨.own (fun a z => (Option.some.inj z).symm) h1 h2 h3 h, rfl⟩
    | succ i =>
      obtain ⟨a, b⟩ := ih (i := i) e1 e2
      refine ⟨.own h0 h1 h2 (by rw [b]; exact h3) a, ?_⟩
      show ows (some (.ref r) :: σ) (.ownP rq es :: Γ.set i _) = _
      rw [ows_own, ows_own, b]
theorem Env.pin {q : Addr} {ds : List PyData} {i : Nat} (h : Env J K O H σ Γ) (e1 : Γ[i]? = some (.ownP none ds)) (e2 : σ[i]? = some (some (.ref q))) : Env J K O H σ (Γ.set i (.ownP (some q) ds)) := by
  obtain ⟨a, b⟩ := h.sl.pin e1 e2
  exact ⟨by rw [b]; exact a, by rw [b]; exact h.dis, h.all, h.foot, by rw [b]; exact h.inv⟩
theorem raw_own {i : Nat} {ds : List PyData} {u : TS} {D : Ends} (h : EG J K Γ te (.own ds)) (e : Env J K O H σ Γ) (hi : i < σ.length) (k : ∀ p H1, Ex H H1 → H p = none → Env J K O H1 (σ.set i (some (.ref p))) (Γ.set i (.ownP (some p) ds)) → u D (σ.set i (some (.ref p))) H1) : tSeq (tAsg te (gName i)) u D σ H :=
  h O σ H e _ fun v H1 x1 r1 => by
    obtain ⟨p, vs, rfl, a1, a2, a3⟩ := r1
    have e1 := (e.setO x1 a1 a2 a3 i).1
    have e2 := e1.pin (i := i) (q := p) (ds := ds) (by rw [List.getElem?_set, if_pos rfl, if_pos (by rw [← e.sl.len]; exact hi)]) (by rw [List.getElem?_set, if_pos rfl, if_pos hi])
    rw [List.set_set] at e2
    exact k p H1 x1 a1 e2
theorem raw_forE {a b : Nat} {ds : List PyData} {t u : TS} {D : Ends} (h : ED J K Γ tl (.list ds)) (e : Env J K O H σ Γ)
    (k : ∀ pa vs H2, Ex H H2 → SqL K (hide H2 (ows σ Γ ++ O)) pa vs → DpAll K (hide H2 (ows σ Γ ++ O)) vs ds → ∃ W : Nat → Nat → L2.St → Hp → Prop, (∃ m, W 0 m σ H2) ∧ ∀ i m σ H, W i m σ H → ((Ite K pa).stop i H ∧ { D with nx := u D }.nx σ H) ∨ ((Ite K pa).go i H ∧ ∃ N : L2.St → Hp → Prop, (∀ σ' H', N σ' H' → ∃ m', m' < m ∧ W (i + 1) m' σ' H') ∧
      ∀ x H', (Ite K pa).yld i H x H' → gTup K 2 (gCons (gName a) (gCons (gName b) gNil)) x σ H' fun σ2 H2 => t { { D with nx := u D } with nx := N, ct := N, bk := { D with nx := u D }.nx } σ2 H2)) : tSeq (tFor (iEnum K (tCons tl tNil)) (gTup K 2 (gCons (gName a) (gCons (gName b) gNil))) t) u D σ H :=
  h O σ H e _ fun v H2 x2 r2 => by
    obtain ⟨pa, vs, rfl, a1, a2⟩ := dp_lst r2
    exact ⟨pa, vs, rfl, Evl.ex_l hide_le a1, k pa vs H2 x2 a1 a2⟩
def flatS : Sl → Bool
  | .ownP _ _ => false
  | _ => true
theorem ows_flat : ∀ (σ : L2.St) (Γ : List Sl), Γ.all flatS = true → ows σ Γ = []
  | [], [], _ => rfl
  | [], _ :: _, _ => rfl
  | _ :: _, [], _ => rfl
  | x :: σ, s :: Γ, h => by
    rw [List.all_cons, Bool.and_eq_true] at h
    have ih := ows_flat σ Γ h.2
    cases s with
    | un => rw [ows_un, ih]
    | dat d => rw [ows_dat, ih]
    | is v => rw [ows_is, ih]
    | ownP q ds => cases h.1
theorem ows_one {v : V} {q : Addr} {ds : List PyData} (h : EnvL K H W σ (.is v :: .ownP (some q) ds :: Γ)) (hf : Γ.all flatS = true := by rfl) : ows σ (.is v :: .ownP (some q) ds :: Γ) = [q] := by
  cases h with
  | is h =>
    cases h with
    | own h0 _ _ _ h =>
      rw [ows_is, ows_own, h0 q rfl, ows_flat _ Γ hf]
theorem ex_hide_mono {F : List Addr} (s : ∀ a ∈ F, a ∈ W) (x : Ex (hide H F) H') : Ex (hide H W) (hide H' W) := fun a o z => by
  obtain ⟨z1, z2⟩ := hide_some z
  rw [hide_out z1]
  refine x a o ?_
  rw [hide_out fun q => z1 (s a q)]
  exact z2
theorem ex_hide_sub {F F' : List Addr} (s : ∀ a ∈ F, a ∈ F') (x : Ex (hide H F) H') : Ex (hide H F') H' := (hide_sub s).trans x
theorem dpall3 {vs : List V} {d e f : PyData} (h : DpAll K H vs [d, e, f]) : ∃ v u w, vs = [v, u, w] ∧ Dp K H v d ∧ Dp K H u e ∧ Dp K H w f := by
  cases h with
  | cons h1 h2 =>
    obtain ⟨u, w, rfl, h3, h4⟩ := dpall2 h2
    exact ⟨_, u, w, rfl, h1, h3, h4⟩
theorem env_updO {x : Addr} {o : HO} (h : Env J0 K O H σ Γ) (hx : x ∈ O) : Env J0 K O (upd H x o) σ Γ := by
  refine ⟨h.sl.mut (F := [x]) (ex_hide_upd (List.mem_singleton.mpr rfl)) (fun a ha => by rw [List.mem_singleton.mp ha]; exact List.mem_append_right _ hx) fun p hp z => h.dis p hp (by rw [List.mem_singleton.mp z]; exact hx), h.dis, fun p hp => ?_, h.foot, trivial⟩
  by_cases z : p = x
  · rw [z, upd_same]
    simp
  · rw [upd_ne z]
    exact h.all p hp
end
section
variable {P : Program} {w : World} {J : Ji} {K : PySem.W.Frag} {mg : Str → Option Value} {base : Heap}
theorem sc_Filling_sent : FnScope ["self", "parts", "number", "ask", "ties", "part"] ["self"] (defScope s_Filling_sent) := ⟨rfl, rfl, rfl, by decide +kernel, rfl, by decide +kernel, by decide +kernel⟩
theorem hm_sent (T : Tx K mg) (h_ties_of : Has P w K mg base 1 "ties_of" 3 P_ties_of) (hm_most_on : HasM P w K mg base 5 296 3 (spM K (Pm_most_on K))) (hm_take : HasM P w K mg base 4 301 4 (spTake K)) : HasM P w K mg base 6 308 1 (spSent K) := by
  obtain ⟨fd, F⟩ := T.f_sent
  refine ⟨fd, ["self"], rfl, F.ok (N := ["self", "parts", "number", "ask", "ties", "part"]) (k := 5) sc_Filling_sent (fun vs H Q E h => ?_) (fun cdv A outer s H vs Q E hr h => ⟨_, (pss_cons (ps_set (i := 1) sc_Filling_sent.nd rfl (Or.inl rfl) (pe_lst pa_nil))
  (pss_cons (ps_for PassesOwn.never rfl (pi_enumK K (by rfl) T.enumerate (pa_cons (pe_ix (ixK K) (pe_fld (pv 0) rfl) pe_int (fun _ _ => rfl)) pa_nil)) (pg_tupK K rfl (pgs_cons (pg_name (i := 2) sc_Filling_sent.nd rfl (Or.inl rfl)) (pgs_cons (pg_name (i := 3) sc_Filling_sent.nd rfl (Or.inl rfl)) pgs_nil)))
  (pss_cons (ps_set (i := 4) sc_Filling_sent.nd rfl (Or.inl rfl) (pe_hasK h_ties_of (hr.mono (by decide)) (by rfl) (pa_cons (pe_fld (pv 0) rfl) (pa_cons (pv 2) (pa_cons pe_str pa_nil)))))
  (pss_cons (ps_set (i := 5) sc_Filling_sent.nd rfl (Or.inl rfl) (pe_methK hm_most_on (pv 0) T.cl T.m_most_on (hr.mono (by decide)) (pa_cons (pv 3) (pa_cons (pv 4) pa_nil))))
  (pss_cons (ps_expr (pe_methK hm_take (pv 0) T.cl T.m_take (hr.mono (by decide)) (pa_cons (pv 3) (pa_cons (pv 4) (pa_cons (pv 5) pa_nil)))))
  (pss_one (ps_expr (pe_bm PySem.F.plainAttrs_list PySem.F.slot_list_append PySem.F.type_list_append mt_append (pv 1) (pa_cons (pv 5) pa_nil))))))))
  (pss_one (ps_ret (pv 1))))), ?_⟩), F.binds (fun _ _ _ _ _ _ us hl => match us, hl with | [_], _ => rfl)⟩
  · obtain ⟨p, lt, rows, R, top, D, O, _, rfl, _⟩ := h
    rfl
  · obtain ⟨p, lt, rows, R, top, D, O, ⟨k, hl, nd⟩, rfl, e, q⟩ := h
    have g := k.G
    have m8 := g.m8
    have n0 : 0 < R.n := by have := g.ok.two; omega
    have e0 : Env (JFt K p lt rows R top 0) K O H (L2.start ["self", "parts", "number", "ask", "ties", "part"] [.ref p]) [.is (.ref p), .un, .un, .un, .un, .un] := env_pad 5 e
    refine raw_own (own_lst ea_nil) e0 (by show 1 < 6; decide) fun qa H1 x1 f1 e1 => ?_
    have e1 : Env (JFt K p lt rows R top 0) K O H1 _ [.is (.ref p), .ownP (some qa) (List.map eQ (Nw.fill R top 0)), .un, .un, .un, .un] := e1
    have o1 := ows_one e1.sl
    refine raw_forE (ed_asks (ed_asked T rfl)) e1 fun pa vs H2 x2 a1 a2 => ?_
    rw [o1] at a1 a2
    have nqf : qa ∉ p :: lt :: rows := fun z => (e.all qa (e.foot qa z)) f1
    have sq : ∀ a ∈ qa :: p :: lt :: rows, a ∈ [qa] ++ O := fun a ha => by
      rcases List.mem_cons.mp ha with rfl | ha
      · exact List.mem_append_left _ (List.mem_singleton.mpr rfl)
      · exact List.mem_append_right _ (e.foot a ha)
    have e2 := e1.mono x2
    refine enum_loop (fun i σ' H' => Ex (hide H2 (qa :: p :: lt :: rows)) H' ∧ Env (JFt K p lt rows R top i) K O H' σ' [.is (.ref p), .ownP (some qa) (List.map eQ (Nw.fill R top i)), .un, .un, .un, .un]) ⟨hide_le, e2⟩ (fun i σ' H' _ z => Evl.ex_l ((hide_sub sq).trans z.1) a1) (fun i x σ' H' Tp hx z hT => ?_) fun σ' H' z => ?_
    · obtain ⟨xx, ee⟩ := z
      obtain ⟨d, d1, d2⟩ := a2.get' hx
      obtain ⟨hi, rfl⟩ := ask_at d1
      have xT : Ex H' (upd H' Tp (.tup [.int (i : Int), x])) := Ex.new hT
      have oo := ows_one ee.sl
      obtain ⟨eB, sB⟩ := (ee.mono xT).setD (.int (i : Int)) 2
      have dx : Dp K (hide (upd H' Tp (.tup [.int (i : Int), x])) (ows (σ'.set 2 (some (.int (i : Int)))) ([Sl.is (.ref p), .ownP (some qa) (List.map eQ (Nw.fill R top i)), .un, .un, .un, .un].set 2 (.dat (.int (i : Int)))) ++ O)) x (eAsk (R.at i)) := by
        have h1 : Dp K (hide (upd H' Tp (.tup [.int (i : Int), x])) ([qa] ++ O)) x (eAsk (R.at i)) := Dp.ex d2 (ex_hide_mono sq (xx.trans xT))
        refine Dp.ex h1 (hide_sub fun a ha => ?_)
        have := mem_app (O := O) sB a ha
        rw [oo] at this
        exact this
      obtain ⟨eC', sC⟩ := eB.setD dx 3
      have eC1 : Env (JFt K p lt rows R top i) K O _ _ [.is (.ref p), .ownP (some qa) (List.map eQ (Nw.fill R top i)), .dat (eN i), .dat (eAsk (R.at i)), .un, .un] := eC'
      refine raw_asg (d := eNs (Nw.tiesOf R.n (R.at i) true)) (ed_of_own (eg_call (ea_cons (ed_asked T rfl) (ea_cons (ed_var rfl) (ea_cons ed_str ea_nil))) ⟨R, i, true, rfl, hi, g.ok, g.n8, rfl⟩)) eC1 fun v4 H4 x4 e4 => ?_
      refine raw_asg (d := eQ (Nw.mostOn R top (Nw.fill R top i) i)) (eg_meth (p := p) (ds := [eAsk (R.at i), eNs (Nw.tiesOf R.n (R.at i) true)]) (fun W H v => by obtain ⟨⟨dx, vr, vf, h1, _⟩, _⟩ := v; exact ⟨dx, _, h1, rfl⟩) rfl (ea_cons (ed_var rfl) (ea_cons (ed_var rfl) ea_nil)) fun H W vs hv => ?_) e4 fun v5 H5 x5 e5 => ?_
      · obtain ⟨u1, u2, rfl, _⟩ := dpall2 hv
        exact ⟨p, lt, rows, R, top, D, i, u1, u2, ⟨k, hi, hl⟩, rfl, rfl, rfl, rfl⟩
      obtain ⟨⟨dx, vr, vf, k1, k2, k3⟩, k4, k5⟩ := e5.inv
      have eas : EA (JFt K p lt rows R top i) K [.is (.ref p), .ownP (some qa) (List.map eQ (Nw.fill R top i)), .dat (eN i), .dat (eAsk (R.at i)), .dat (eNs (Nw.tiesOf R.n (R.at i) true)), .dat (eQ (Nw.mostOn R top (Nw.fill R top i) i))] (tCons (tVar 3) (tCons (tVar 4) (tCons (tVar 5) tNil))) [eAsk (R.at i), eNs (Nw.tiesOf R.n (R.at i) true), eQ (Nw.mostOn R top (Nw.fill R top i) i)] := ea_cons (ed_var rfl) (ea_cons (ed_var rfl) (ea_cons (ed_var rfl) ea_nil))
      refine ⟨_, e5.sl.getI rfl, p, dx, _, rfl, k1, rfl, eas O _ _ e5 _ fun vs6 H6 x6 r6 => ?_⟩
      rw [List.append_nil]
      have e6 := e5.mono x6
      obtain ⟨ea, eb⟩ := dats_env (x := V.ref p) e6 r6
      obtain ⟨w1, w2, w3, rfl, _⟩ := dpall3 r6
      refine ⟨p, lt, rows, R, top, D, i, _, w1, w2, w3, ⟨k, hi, hl, nd⟩, rfl, ea, fun H7 x7 f7 => ?_⟩
      have e7 : Env (JFt K p lt rows R top (i + 1)) K O H7 _ _ := env_mut (J' := JFt K p lt rows R top (i + 1)) e6 rfl x7 (foot_there f7) f7
      have o7 := ows_one e7.sl
      have nw : ∀ a ∈ ows (((σ'.set 2 (some (.int (i : Int)))).set 3 (some x)).set 4 (some v4) |>.set 5 (some v5)) [Sl.is (.ref p), .ownP (some qa) (List.map eQ (Nw.fill R top i)), .dat (eN i), .dat (eAsk (R.at i)), .dat (eNs (Nw.tiesOf R.n (R.at i) true)), .dat (eQ (Nw.mostOn R top (Nw.fill R top i) i))], hide H7 [qa] a = none := fun a ha => by
        have ha : a ∈ [qa] := by rw [← o7]; exact ha
        exact hide_in ha
      refine sg_app (i := 1) (w := some qa) (ds := List.map eQ (Nw.fill R top i)) (d := eQ (Nw.mostOn R top (Nw.fill R top i) i)) (N := fun Γ' => Γ' = [.is (.ref p), .ownP (some qa) (List.map eQ (Nw.fill R top i) ++ [eQ (Nw.mostOn R top (Nw.fill R top i) i)]), .dat (eN i), .dat (eAsk (R.at i)), .dat (eNs (Nw.tiesOf R.n (R.at i) true)), .dat (eQ (Nw.mostOn R top (Nw.fill R top i) i))]) (R := fun _ _ => False) rfl (ed_var rfl) (by rw [List.length_map, Nw.fill_len]; omega) (lq_refl rfl) (hide H7 [qa]) O _ H7 _ ⟨e7, hide_le, nw⟩ (fun Γ' σ8 H8 hN s8 => ?_) (fun _ _ _ _ _ z => z.elim)
      subst hN
      refine ⟨?_, ?_⟩
      · have c1 : Ex (hide H2 (qa :: p :: lt :: rows)) H6 := xx.trans (((xT.trans x4).trans x5).trans x6)
        have c2 : Ex (hide H2 (qa :: p :: lt :: rows)) H7 := ex_hide_trans c1 (ex_hide_sub (fun a ha => List.mem_cons_of_mem _ ha) x7)
        exact ex_hide_trans c2 (ex_hide_sub (fun a ha => by rw [List.mem_singleton.mp ha]; exact List.mem_cons_self ..) s8.ex)
      · have e9 := (s8.env.le (.same (.same (.un (.un (.un (.un .nil))))))).1
        have ef : List.map eQ (Nw.fill R top (i + 1)) = List.map eQ (Nw.fill R top i) ++ [eQ (Nw.mostOn R top (Nw.fill R top i) i)] := by
          show List.map eQ (Nw.fill R top i ++ [_]) = _
          rw [List.map_append]
          rfl
        rw [ef]
        exact e9
    · obtain ⟨xx, ee⟩ := z
      have hlen : vs.length = R.m := by rw [a2.len, List.length_map]
      rw [hlen] at ee
      have oo := ows_one ee.sl
      obtain ⟨p', vs', s1, h1, d1, m1, pin⟩ := ee.sl.getO' (i := 1) rfl
      obtain rfl := pin qa rfl
      refine ⟨_, s1, q _ H' (fun a o z => ?_) ⟨qa, vs', rfl, f1, h1, ?_⟩⟩
      · obtain ⟨z1, z2⟩ := hide_some z
        have na : a ≠ qa := fun y => by rw [y, f1] at z2; cases z2
        refine xx a o ?_
        rw [hide_out fun y => (List.mem_cons.mp y).elim na z1]
        exact x2 _ _ (x1 _ _ z2)
      · rw [oo] at d1
        exact d1
end
end NwB
end NwD4_
section NwD5_
set_option Elab.async false
set_option linter.all false
set_option maxRecDepth 100000
set_option maxHeartbeats 4000000
namespace NwB
open PySem PySem.Spec PyProof.Rows L2 NwT
open Evl (Ex)
section
variable {J : Ji} {K : PySem.W.Frag} {H H1 H2 H' : Hp} {O W : List Addr} {σ : L2.St} {Γ : List Sl} {te tl ta tb : TE} {R : Nw.Ring} {top : Rat} {D : Nat}
theorem raw_step {i : Nat} {r : Rs} {u : TS} {D : Ends} (h : EG J K Γ te r) (e : Env J K O H σ Γ) (k : ∀ v H1, Ex H H1 → RD K H H1 (ows σ Γ ++ O) v r → u D (σ.set i (some v)) H1) : tSeq (tAsg te (gName i)) u D σ H := h O σ H e _ k
theorem raw_fld1 {i : Nat} {f : Str} {tv : TE} {r : Rs} {D : Ends} (h : EG J K Γ tv r) (e : Env J K O H σ Γ)
    (k : ∀ y H2, Ex H H2 → RD K H H2 (ows σ Γ ++ O) y r → ∃ a C dx fs, σ[i]? = some (some (.ref a)) ∧ H2 a = some (.ins C dx fs) ∧ Cls K C ∧ NoAttr K C f ∧ fs.length < 1000 ∧ D.nx σ (upd H2 a (.ins C dx (putF f y fs)))) : sFld K (tVar i) tv f D σ H :=
  h O σ H e _ fun y H2 x2 r2 => by
    obtain ⟨a, C, dx, fs, h1, h2, h3, h4, h5, h6⟩ := k y H2 x2 r2
    exact ⟨_, h1, a, C, dx, fs, rfl, h2, h3, h4, h5, h6⟩
theorem eg_sentF {E E' : XK} (k : Fk R top D) (h1 : ED J K Γ ta (eRing R)) (h2 : ED J K Γ tb (eQ top)) : EG J K Γ (tMeth 311 "sent" (spSent K) [] E (tMake 311 (spInit K) [] E' (tCons ta (tCons tb tNil))) tNil) (.own ((Nw.fill R top R.m).map eQ)) := fun O σ H e Q q => by
    unfold tMeth tMake
    refine ea_cons h1 (ea_cons h2 ea_nil) O σ H e _ fun vs H1 x1 r1 => fun x dx hx hdx ne => ?_
    obtain ⟨vr, vt, rfl, dr, dt⟩ := dpall2 r1
    rw [List.append_nil]
    have hx' : upd H1 dx (HO.own x) x = none := by rw [upd_ne (Ne.symm ne)]; exact hx
    have xn : Ex H1 (upd (upd H1 dx (.own x)) x (.ins 311 dx [])) := (Ex.new hdx).trans (Ex.new hx')
    have up : ∀ {v : V} {d : PyData}, Dp K (hide H1 (ows σ Γ ++ O)) v d → Dp K (hide (upd (upd H1 dx (.own x)) x (.ins 311 dx [])) (x :: (ows σ Γ ++ O))) v d := fun {v d} h => by
      have h3 : Dp K (hide H1 (x :: (ows σ Γ ++ O))) v d := by rw [hide_new hx]; exact h
      exact Dp.ex h3 (hide_ex xn)
    have all : ∀ a ∈ x :: (ows σ Γ ++ O), upd (upd H1 dx (HO.own x)) x (.ins 311 dx []) a ≠ none := fun a ha => by
      rcases List.mem_cons.mp ha with rfl | ha
      · rw [upd_same]
        simp
      · cases c : H1 a with
        | none => exact absurd c ((e.mono x1).there a ha)
        | some o =>
          rw [xn a o c]
          simp
    refine ⟨x, dx, R, top, D, x :: (ows σ Γ ++ O), vr, vt, ⟨k, List.mem_cons_self .., all⟩, rfl, upd_same, up dr, up dt, fun H2 lt rows xx nd len fresh fst => ⟨rfl, ?_⟩⟩
    obtain ⟨⟨dx2, vr2, vf2, g1, g2, g3⟩, g4, g5⟩ := id fst
    have xxn : ∀ a o, H1 a = some o → H2 a = some o := fun a o z => by
      have hax : a ≠ x := fun y => by rw [y, hx] at z; cases z
      refine xx a o ?_
      rw [hide_out fun y => hax (List.mem_singleton.mp y)]
      exact xn a o z
    refine ⟨x, dx2, _, rfl, g1, rfl, ?_⟩
    show spSent K [.ref x] H2 Q E
    refine ⟨x, lt, rows, R, top, D, (lt :: rows) ++ (x :: (ows σ Γ ++ O)), ⟨k, len, nd⟩, rfl, ⟨.is .nil, ?_, ?_, ?_, fst⟩, fun v H3 x3 fin => ?_⟩
    · show ∀ p ∈ ows [some (V.ref x)] [.is (.ref x)], _
      rw [ows_flat _ _ rfl]
      simp
    · intro a ha
      rcases List.mem_append.mp ha with ha | ha
      · exact (fresh a ha).2
      · rcases List.mem_cons.mp ha with rfl | ha
        · rw [g1]
          simp
        · cases c : H1 a with
          | none => exact absurd c ((e.mono x1).there a ha)
          | some o =>
            rw [xxn a o c]
            simp
    · intro a ha
      rcases List.mem_cons.mp ha with rfl | ha
      · exact List.mem_append_right _ (List.mem_cons_self ..)
      · exact List.mem_append_left _ ha
    · obtain ⟨qa, ws, rfl, f1, f2, f3⟩ := fin
      have xf : Ex H H3 := fun a o z => by
        have z1 := x1 _ _ z
        refine x3 a o ?_
        rw [hide_out fun y => ?_]
        · exact xxn a o z1
        · rcases List.mem_cons.mp y with rfl | y
          · rw [hx] at z1
            cases z1
          · have := (fresh a y).1
            rw [xn a o z1] at this
            cases this
      refine q _ H3 xf ⟨qa, ws, rfl, ?_, f2, DpAll.ex f3 (hide_sub fun a ha => ?_)⟩
      · cases c : H qa with
        | none => rfl
        | some o =>
          rw [xxn _ _ (x1 _ _ c)] at f1
          cases f1
      · rcases List.mem_cons.mp ha with rfl | ha
        · exact List.mem_cons_self ..
        · exact List.mem_cons_of_mem _ (List.mem_append_right _ (List.mem_cons_of_mem _ ha))
/-! ### a datum of which some lists are new -/
def New (H H2 : Hp) (p : Addr) : Prop := H p = none ∧ ∃ vs, H2 p = some (.lst vs) ∧ vs.length ≤ 1000
theorem New.back {p : Addr} (e : Ex H H1) (h : New H1 H2 p) : New H H2 p := ⟨Evl.fresh_back e h.1, h.2⟩
theorem New.up {p : Addr} (e : Ex H2 H') (h : New H H2 p) : New H H' p := ⟨h.1, h.2.choose, e _ _ h.2.choose_spec.1, h.2.choose_spec.2⟩
theorem New.ne {p p2 : Addr} (h : New H H1 p) (h2 : New H1 H2 p2) : p ≠ p2 := fun z => by
  obtain ⟨_, vs, e, _⟩ := h
  rw [z, h2.1] at e
  cases e
def dsk (K : PySem.W.Frag) (d : PyData) (Sk : Hp → Hp → V → Prop) (hb : ∀ {H H1 H2 : Hp} {v : V}, Ex H H1 → Sk H1 H2 v → Sk H H2 v) : Post where
  val H H2 O v := Dp K (hide H2 O) v d ∧ Sk H H2 v
  back := fun e h => ⟨h.1, hb e h.2⟩
  sub := fun s h => ⟨Dp.ex h.1 (hide_sub s), h.2⟩
def SkLeast (H H2 : Hp) (v : V) : Prop := ∃ a vt p vc, v = .ref a ∧ H a = none ∧ H2 a = some (.tup [vt, .ref p, vc]) ∧ New H H2 p
def SkRound (H H2 : Hp) (v : V) : Prop := ∃ a p p2, v = .ref a ∧ H a = none ∧ H2 a = some (.tup [.ref p, .ref p2]) ∧ New H H2 p ∧ New H H2 p2 ∧ p ≠ p2
theorem SkLeast.back {v : V} (e : Ex H H1) (h : SkLeast H1 H2 v) : SkLeast H H2 v := by
  obtain ⟨a, vt, p, vc, h1, h0, h2, h3⟩ := h
  exact ⟨a, vt, p, vc, h1, Evl.fresh_back e h0, h2, h3.back e⟩
theorem SkRound.back {v : V} (e : Ex H H1) (h : SkRound H1 H2 v) : SkRound H H2 v := by
  obtain ⟨a, p, p2, h1, h0, h2, h3, h4, h5⟩ := h
  exact ⟨a, p, p2, h1, Evl.fresh_back e h0, h2, h3.back e, h4.back e, h5⟩
def fitP (K : PySem.W.Frag) (R : Nw.Ring) (top : Rat) : Post where
  val H H2 O v := ∃ a p vs, v = .ref a ∧ H2 a = some (.tup [.str "sending", .ref p]) ∧ H p = none ∧ H2 p = some (.lst vs) ∧ DpAll K (hide H2 (p :: O)) vs ((Nw.fill R top R.m).map eQ)
  back := fun e h => by
    obtain ⟨a, p, vs, h1, h2, h3, h4, h5⟩ := h
    exact ⟨a, p, vs, h1, h2, Evl.fresh_back e h3, h4, h5⟩
  sub := fun s h => by
    obtain ⟨a, p, vs, h1, h2, h3, h4, h5⟩ := h
    exact ⟨a, p, vs, h1, h2, h3, h4, DpAll.ex h5 (hide_sub fun x hx => (List.mem_cons.mp hx).elim (fun z => by rw [z]; exact List.mem_cons_self ..) fun z => List.mem_cons_of_mem _ (s x z))⟩
def dLeast (R : Nw.Ring) : PyData := .tuple [eQ (Nw.gcut R).1, eS (Nw.nearParts R), eC (Nw.gcut R).2]
def dRound (R : Nw.Ring) (s : List Rat) : PyData := .tuple [eZs (Nw.slidesFor R s), eWs (Nw.wholeWays R (Nw.behind s (Nw.slidesFor R s)))]
def dNear (R : Nw.Ring) : PyData := .tuple [eWs (Nw.nearWays R), eQ (Nw.topOf R (Nw.sent R (Nw.nearWays R))).1, dRound R (Nw.nearParts R), dLeast R]
def leastP (K : PySem.W.Frag) (R : Nw.Ring) : Post := dsk K (dLeast R) SkLeast SkLeast.back
def roundP (K : PySem.W.Frag) (R : Nw.Ring) (s : List Rat) : Post := dsk K (dRound R s) SkRound SkRound.back
/-- the tuple told, its parts, what they come to -/
structure Nr (K : PySem.W.Frag) (R : Nw.Ring) (W : List Addr) (H : Hp) (a p1 r l p2 p3 p4 : Addr) (vt : V) : Prop where
  ha : ∃ v1 v2, H a = some (.tup [.ref p1, vt, .ref r, .ref l]) ∧ H r = some (.tup [.ref p2, .ref p3]) ∧ H l = some (.tup [v1, .ref p4, v2])
  da : Dp K (hide H W) (.ref a) (dNear R)
  d1 : Dp K (hide H W) (.ref p1) (eWs (Nw.nearWays R))
  dt : Dp K (hide H W) vt (eQ (Nw.topOf R (Nw.sent R (Nw.nearWays R))).1)
  dr : Dp K (hide H W) (.ref r) (dRound R (Nw.nearParts R))
  dl : Dp K (hide H W) (.ref l) (dLeast R)
theorem Nr.ex {W : List Addr} {a p1 r l p2 p3 p4 : Addr} {vt : V} (e : Ex H H1) (h : Nr K R W H a p1 r l p2 p3 p4 vt) : Nr K R W H1 a p1 r l p2 p3 p4 vt := by
  obtain ⟨⟨v1, v2, h1, h2, h3⟩, h4, h5, h6, h7, h8⟩ := h
  exact ⟨⟨v1, v2, e _ _ h1, e _ _ h2, e _ _ h3⟩, Dp.ex h4 (hide_ex e), Dp.ex h5 (hide_ex e), Dp.ex h6 (hide_ex e), Dp.ex h7 (hide_ex e), Dp.ex h8 (hide_ex e)⟩
theorem Nr.sub {W W' : List Addr} {a p1 r l p2 p3 p4 : Addr} {vt : V} (s : ∀ x ∈ W', x ∈ W) (h : Nr K R W H a p1 r l p2 p3 p4 vt) : Nr K R W' H a p1 r l p2 p3 p4 vt := by
  obtain ⟨h1, h4, h5, h6, h7, h8⟩ := h
  exact ⟨h1, Dp.ex h4 (hide_sub s), Dp.ex h5 (hide_sub s), Dp.ex h6 (hide_sub s), Dp.ex h7 (hide_sub s), Dp.ex h8 (hide_sub s)⟩
def nearP (K : PySem.W.Frag) (R : Nw.Ring) : Post where
  val H H2 O v := ∃ a p1 r l p2 p3 p4 vt, v = .ref a ∧ Nr K R O H2 a p1 r l p2 p3 p4 vt ∧ (H a = none ∧ H r = none ∧ H l = none) ∧ (New H H2 p1 ∧ New H H2 p2 ∧ New H H2 p3 ∧ New H H2 p4) ∧ [p1, p2, p3, p4].Nodup
  back := fun e h => by
    obtain ⟨a, p1, r, l, p2, p3, p4, vt, h1, h2, ⟨k1, k2, k3⟩, ⟨n1, n2, n3, n4⟩, h3⟩ := h
    exact ⟨a, p1, r, l, p2, p3, p4, vt, h1, h2, ⟨Evl.fresh_back e k1, Evl.fresh_back e k2, Evl.fresh_back e k3⟩, ⟨n1.back e, n2.back e, n3.back e, n4.back e⟩, h3⟩
  sub := fun s h => by
    obtain ⟨a, p1, r, l, p2, p3, p4, vt, h1, h2, h3⟩ := h
    exact ⟨a, p1, r, l, p2, p3, p4, vt, h1, h2.sub s, h3⟩
/-- such rings as the law's -/
def RgL (R : Nw.Ring) : Prop := ∃ D, Rg R D ∧ D ≤ 2 ^ 20
theorem RgL.near (g : RgL R) : ∃ D, Rg R D ∧ Ws R D (Nw.nearParts R) := by
  obtain ⟨D, g, hD⟩ := g
  obtain ⟨D', k⟩ := fk_of g hD
  exact ⟨_, k.G, fill_ws k⟩
theorem slides_am (g : Rg R D) {s : List Rat} (ws : Ws R D s) : ∀ z ∈ Nw.slidesFor R s, Am D z := by
  unfold Nw.slidesFor
  have key : ∀ (f : Nat) (s : List Rat), Ws R D s → ∀ z ∈ Nw.slidesGo R f s, Am D z := by
    intro f
    induction f with
    | zero =>
      intro s _ z hz
      unfold Nw.slidesGo at hz
      simp at hz
    | succ f ih =>
      intro s ws z hz
      unfold Nw.slidesGo at hz
      cases e : Nw.nextSlide R s with
      | none =>
        rw [e] at hz
        simp at hz
      | some y =>
        rw [e] at hz
        obtain ⟨k, l, hk, hl, kl, nc, rfl⟩ := Nw.nextSlide_some e
        have za := slideAt_am ws g (Nw.mem_partedL.mp hk).1 (Nw.mem_partedL.mp hl).1
        rcases List.mem_cons.mp hz with rfl | hz
        · exact za
        · exact ih _ (ws_slid ws (Nw.slideAt_ok g.ok hk hl kl nc) za) z hz
  exact key _ s ws
theorem behind_ws (g : Rg R D) {s : List Rat} (ws : Ws R D s) : Ws R D (Nw.behind s (Nw.slidesFor R s)) := by
  have h := (am_slid ws (Nw.slidesFor_ok g.ok ws.ok).1 (slides_am g ws) (Nw.slidesFor R s).length).1
  rw [List.take_length] at h
  exact h
/-- what is sent by whole ways -/
theorem sent_ws (g : Rg R D) (ws : List Bool) : Ws R D (Nw.sent R ws) := ⟨Nw.sent_ok g.ok, fun k hk => by
  rw [Nw.pt_sent hk]
  split
  · exact (g.size k hk).int
  · exact isI_zero⟩
def P_fitting (K : PySem.W.Frag) : Pd := fun ds r => ∃ (R : Nw.Ring) (top : Rat), ds = [eRing R, eQ top] ∧ (∃ D, Fk R top D) ∧ r = .raw (fitP K R top)
def P_least_top (K : PySem.W.Frag) : Pd := fun ds r => ∃ (R : Nw.Ring), ds = [eRing R] ∧ RgL R ∧ r = .raw (leastP K R)
def P_rounding_of (K : PySem.W.Frag) : Pd := fun ds r => ∃ (R : Nw.Ring) (s : List Rat), ds = [eRing R, eS s] ∧ (∃ D, Rg R D ∧ Ws R D s) ∧ r = .raw (roundP K R s)
def P_near_whole (K : PySem.W.Frag) : Pd := fun ds r => ∃ (R : Nw.Ring), ds = [eRing R] ∧ RgL R ∧ r = .raw (nearP K R)
end
theorem pe_makeK {P : Program} {w : World} {K : PySem.W.Frag} {mg : Str → Option Value} {base : Heap} {sp : Sp} {X : Cx} {k n : Nat} {p pos : Pos} {e : Expr} {es : List Expr} {t : TA} (T : Tx K mg) (h : HasM P w K mg base k 282 n sp) (hr : Room (k + 1) X.A) (hg : Gl X "Filling") (ha : PA X (e :: es) t)
    (e1 : X.prog = P := by rfl) (e2 : X.w = w := by rfl) (e3 : X.K = K := by rfl) (e4 : X.mg = mg := by rfl) (e5 : X.base = base := by rfl) (he : starEach (e :: es) X.env = (false, eval e X.env) :: starEach es X.env := by rfl) (hpl : (backTo pos (starEach es X.env)).any (·.1) = false := by rfl) :
    PE X (.Call (.Name "Filling" p) (e :: es) [] pos) (tMake 311 sp [] E0 t) := by
  subst e1 e2 e3 e4 e5
  obtain ⟨fd, ps, _, F, b⟩ := h.ex
  exact pe_make T.mkF F hr hg T.g_Filling b .nil pass0 ha (by decide) he hpl
theorem pe_methK0 {P : Program} {w : World} {K : PySem.W.Frag} {mg : Str → Option Value} {base : Heap} {sp : Sp} {X : Cx} {k n : Nat} {f : Addr} {m : Str} {o : Expr} {ta : TE} {apos pos : Pos} {pl : Sem Bool} (h : HasM P w K mg base k f n sp) (he : PE X o ta) (c : Cls K 311) (hm : Meth K 311 m f) (hr : Room k X.A)
    (e1 : X.prog = P := by rfl) (e2 : X.w = w := by rfl) (e3 : X.K = K := by rfl) (e4 : X.mg = mg := by rfl) (e5 : X.base = base := by rfl)
    (ht : eval (.Call (.Attribute o m apos) [] [] pos) X.env = (do
      let ov ← eval o X.env
      standAt apos.atName
      let (f, first) ← holding [ov] (getMethod ov m pl)
      callWith pos f first (backTo pos (starEach [] X.env)) (backToKw pos (keywordEach [] X.env))) := by rfl) : PE X (.Call (.Attribute o m apos) [] [] pos) (tMeth 311 m sp [] E0 ta tNil) := by
  subst e1 e2 e3 e4 e5
  obtain ⟨fd, ps, _, F, b⟩ := h.ex
  exact pe_meth0 he c hm F hr b .nil pass0 ht
section
variable {P : Program} {w : World} {J : Ji} {K : PySem.W.Frag} {mg : Str → Option Value} {base : Heap}
theorem sc_Filling___init__ : FnScope ["self", "ring", "top", "room"] ["self", "ring", "top"] (defScope s_Filling___init__) := ⟨rfl, rfl, rfl, by decide +kernel, rfl, by decide +kernel, by decide +kernel⟩
theorem hm___init__ (T : Tx K mg) (h_table_of : Has P w K mg base 6 "table_of" 1 (P_table_of K)) (h_times : Has P w K mg base 3 "times" 2 P_times) : HasM P w K mg base 7 282 3 (spInit K) := by
  obtain ⟨fd, F⟩ := T.f___init__
  refine ⟨fd, ["self", "ring", "top"], rfl, F.ok (N := ["self", "ring", "top", "room"]) (k := 6) sc_Filling___init__ (fun vs H Q E h => ?_) (fun cdv A outer s H vs Q E hr h => ⟨_, (pss_cons (ps_fld (pv 0) (pv 1) rfl)
  (pss_cons (ps_fld (pv 0) (pe_lc (own := [("room", 3)]) (g := gName 3) rfl sc_Filling___init__.nd (pi_listK K (pe_ix (ixK K) (pv 1) pe_int (fun _ _ => rfl))) (blkOk_by (own := [("room", 3)]) (N := ["self", "ring", "top", "room"]) (sc := (defScope s_Filling___init__)) (by decide +kernel)) (fun _ _ _ _ _ => pg_name (i := 3) sc_Filling___init__.nd rfl (Or.inl rfl)) (fun _ _ _ _ _ => pts_nil) (fun _ _ _ _ _ => by exact (pe_hasK h_times (hr.mono (by decide)) (by rfl) (pa_cons (pv 2) (pa_cons (pv 3) pa_nil))))) rfl)
  (pss_one (ps_fld (pv 0) (pe_hasK h_table_of (hr.mono (by decide)) (by rfl) (pa_cons (pv 1) pa_nil)) rfl)))), ?_⟩), F.binds (fun _ _ _ _ _ _ us hl => match us, hl with | [_, _, _], _ => rfl)⟩
  · obtain ⟨x, dx, R, top, D, O, vr, vt, _, rfl, _⟩ := h
    rfl
  · obtain ⟨x, dx, R, top, D, O, vr, vt, ⟨k, hxO, all⟩, rfl, hx, dr, dt, q⟩ := h
    have g := k.g
    have n8 := g.n8
    have hO : ∀ σ : L2.St, ows σ [.is (.ref x), .dat (eRing R), .dat (eQ top), .un] = [] := fun σ => ows_flat σ _ rfl
    have e0 : Env J0 K O H (L2.start ["self", "ring", "top", "room"] [.ref x, vr, vt]) [.is (.ref x), .dat (eRing R), .dat (eQ top), .un] := by
      refine ⟨?_, ?_, all, fun a ha => absurd ha (by show ¬ a ∈ ([] : List Addr); simp), trivial⟩
      · rw [hO]
        exact .is (.dat dr (.dat dt (.un .nil)))
      · rw [hO]
        simp
    refine raw_fld (r := .dat (eRing R)) (ed_var rfl) e0 fun y H2 x2 r2 => ⟨x, 311, dx, _, e0.sl.getI rfl, x2 _ _ hx, T.cl, T.na_asked, by decide, ?_⟩
    have e1 := env_updO (o := .ins 311 dx (putF "asked" y [])) (e0.mono x2) hxO
    refine raw_fld (r := .dat (.list (frees R top 0))) (ed_of_own (own_is (lc_L (vs := [3]) (ds := R.rooms.map eQ) (fun _ => true) (fun i => eQ (Nw.free R top (Nw.fill R top 0) 0 i)) (fun i hi => by rw [List.mem_singleton.mp hi]; rfl) (by decide) (ed_rooms (ed_var rfl)) (by rw [List.length_map]; have : R.rooms.length ≤ 8 := n8; omega) (fun _ _ _ => eb_yes) fun i d hd _ => ?_) ?_)) e1 fun y2 H3 x3 r3 => ⟨x, 311, dx, _, e1.sl.getI rfl, x3 _ _ upd_same, T.cl, T.na_free, by show 1 < 1000; decide, ?_⟩
    · obtain ⟨hi, rfl⟩ := room_at hd
      rw [free_zero]
      exact ed_times (ed_var rfl) (ed_var rfl) k.ztop (g.z (g.room i hi))
    · unfold frees
      rw [told_all, List.length_map]
    have e2 := env_updO (o := .ins 311 dx (putF "free" y2 (putF "asked" y []))) (e1.mono x3) hxO
    refine raw_fld1 (r := .raw (rowsP K R.n (lefts R 0))) (eg_call (ea_cons (ed_var rfl) ea_nil) ⟨R, rfl, ⟨D, g⟩, rfl⟩) e2 fun y3 H4 x4 r4 => ⟨x, 311, dx, _, e2.sl.getI rfl, x4 _ _ upd_same, T.cl, T.na_left, by show 2 < 1000; decide, ?_⟩
    obtain ⟨lt, rows, rfl, f1, f2, f3, f4, f5, f6, f7⟩ := r4
    rw [hO] at f7
    have f7 : ∀ (i : Nat) (r : Addr), rows[i]? = some r → ∃ rv, H4 r = some (.lst rv) ∧ DpAll K (hide H4 (lt :: (rows ++ O))) rv (lefts R 0 i) := f7
    have newB : ∀ a ∈ lt :: rows, upd H3 x (HO.ins 311 dx (putF "free" y2 (putF "asked" y []))) a = none := fun a ha => by
      rcases List.mem_cons.mp ha with rfl | ha
      · exact f1
      · exact f6 a ha
    have nx : ∀ a ∈ lt :: rows, a ≠ x := fun a ha z => by
      have := newB a ha
      rw [z, upd_same] at this
      cases this
    have xA : Ex (hide H [x]) (upd H3 x (HO.ins 311 dx (putF "free" y2 (putF "asked" y [])))) := by
      have c1 : Ex (hide H [x]) H2 := ex_hide_of x2
      have c2 : Ex (hide H [x]) (upd H2 x (.ins 311 dx (putF "asked" y []))) := ex_hide_trans c1 (ex_hide_upd (List.mem_singleton.mpr rfl))
      exact ex_hide_trans (c2.trans x3) (ex_hide_upd (List.mem_singleton.mpr rfl))
    have xB : Ex (hide H [x]) (upd H4 x (.ins 311 dx (putF "left" (.ref lt) (putF "free" y2 (putF "asked" y []))))) := ex_hide_trans (xA.trans x4) (ex_hide_upd (List.mem_singleton.mpr rfl))
    have hold : ∀ {v : V} {d : PyData}, Dp K (hide (upd H3 x (HO.ins 311 dx (putF "free" y2 (putF "asked" y [])))) O) v d → Dp K (hide (upd H4 x (.ins 311 dx (putF "left" (.ref lt) (putF "free" y2 (putF "asked" y []))))) ((lt :: rows) ++ O)) v d := fun {v d} h => by
      rw [hide_upd (List.mem_append_right _ hxO)]
      have h1 : Dp K (hide (upd H3 x (HO.ins 311 dx (putF "free" y2 (putF "asked" y [])))) ((lt :: rows) ++ O)) v d := by rw [hide_news _ newB]; exact h
      exact Dp.ex h1 (hide_ex x4)
    have dy : Dp K (hide (upd H3 x (HO.ins 311 dx (putF "free" y2 (putF "asked" y [])))) O) y (eRing R) := by
      rw [hide_upd hxO]
      have r2 : Dp K (hide H2 (ows _ _ ++ O)) y (eRing R) := r2
      rw [hO] at r2
      have r2 : Dp K (hide H2 O) y (eRing R) := r2
      have h1 : Dp K (hide (upd H2 x (.ins 311 dx (putF "asked" y []))) O) y (eRing R) := by rw [hide_upd hxO]; exact r2
      exact Dp.ex h1 (hide_ex x3)
    have dy2 : Dp K (hide (upd H3 x (HO.ins 311 dx (putF "free" y2 (putF "asked" y [])))) O) y2 (.list (frees R top 0)) := by
      rw [hide_upd hxO]
      have r3 : Dp K (hide H3 (ows _ _ ++ O)) y2 (.list (frees R top 0)) := r3
      rw [hO] at r3
      exact r3
    refine q _ lt rows xB ?_ f4 (fun a ha => ⟨?_, ?_⟩) ⟨⟨dx, y, y2, upd_same, hold dy, hold dy2⟩, ?_, fun i r hr => ?_⟩
    · refine List.nodup_cons.mpr ⟨fun z => nx x z rfl, List.nodup_cons.mpr ⟨f3, f5⟩⟩
    · cases c : H a with
      | none => rfl
      | some o =>
        have := newB a ha
        rw [xA a o (by rw [hide_out fun y => nx a ha (List.mem_singleton.mp y)]; exact c)] at this
        cases this
    · rw [upd_ne (nx a ha)]
      rcases List.mem_cons.mp ha with rfl | ha
      · rw [f2]
        simp
      · obtain ⟨i, hi⟩ := List.mem_iff_getElem?.mp ha
        obtain ⟨rv, z, _⟩ := f7 i a hi
        rw [z]
        simp
    · rw [upd_ne (nx lt (List.mem_cons_self ..))]
      exact f2
    · obtain ⟨rv, z1, z2⟩ := f7 i r hr
      refine ⟨rv, by rw [upd_ne (nx r (List.mem_cons_of_mem _ (List.mem_of_getElem? hr)))]; exact z1, ?_⟩
      rw [hide_upd (List.mem_append_right _ hxO)]
      exact z2
end
end NwB
end NwD5_
section NwD6_
set_option Elab.async false
set_option linter.all false
set_option maxRecDepth 100000
set_option maxHeartbeats 4000000
namespace NwB
open PySem PySem.Spec PyProof.Rows L2 NwT
open Evl (Ex)
section
variable {J : Ji} {K : PySem.W.Frag} {H H1 H2 H' : Hp} {O W : List Addr} {σ : L2.St} {Γ : List Sl} {te tl ta tb : TE} {R : Nw.Ring} {top : Rat} {D : Nat}
theorem slides_len {s : List Rat} : (Nw.slidesFor R s).length ≤ R.m + 1 := by
  unfold Nw.slidesFor
  have key : ∀ (f : Nat) (s : List Rat), (Nw.slidesGo R f s).length ≤ f := by
    intro f
    induction f with
    | zero => intro s; unfold Nw.slidesGo; simp
    | succ f ih =>
      intro s
      unfold Nw.slidesGo
      cases Nw.nextSlide R s with
      | none => simp
      | some z =>
        simp only [List.length_cons]
        have := ih (Nw.slid s z)
        omega
  exact key _ s
theorem own_dp {v : V} {ds : List PyData} (e : Env J K O H σ Γ) (hl : ds.length ≤ 1000) (r : RD K H H2 (ows σ Γ ++ O) v (.own ds)) : ∃ p, v = .ref p ∧ New H H2 p ∧ Dp K (hide H2 (ows σ Γ ++ O)) v (.list ds) := by
  obtain ⟨p, vs, rfl, h1, h2, h3⟩ := r
  have np : p ∉ ows σ Γ ++ O := fun z => e.there p z h1
  exact ⟨p, rfl, ⟨h1, vs, h2, by rw [h3.len]; exact hl⟩, Dp.lst (SqL.of (by rw [hide_out np]; exact h2)) (DpAll.ex h3 (hide_sub fun a ha => List.mem_cons_of_mem _ ha))⟩
theorem eg_fit (h : EG J K Γ te (.own ((Nw.fill R top R.m).map eQ))) : EG J K Γ (tTup (tCons (tC (.str "sending")) (tCons te tNil))) (.raw (fitP K R top)) := fun O σ H e Q q => by
  show te σ H _
  refine h O σ H e _ fun v H1 x1 r1 => ⟨by show 2 ≤ sizeLine; decide, fun T hT => ?_⟩
  obtain ⟨p, vs, rfl, h1, h2, h3⟩ := r1
  have xT : Ex H1 (upd H1 T (.tup [.str "sending", .ref p])) := Ex.new hT
  exact q _ _ (x1.trans xT) ⟨T, p, vs, rfl, upd_same, h1, xT _ _ h2, DpAll.ex h3 (hide_ex xT)⟩
theorem eg_fit1 (h : EG J K Γ te (.raw (fitP K R top))) : EG J K Γ (tOp (rIx K) te (tC (.int 1))) (.own ((Nw.fill R top R.m).map eQ)) := fun O σ H e Q q =>
  h O σ H e _ fun v H1 x1 r1 => by
    obtain ⟨a, p, vs, rfl, h2, h3, h4, h5⟩ := r1
    exact .inr (.inl ⟨a, [.str "sending", .ref p], 1, .ref p, rfl, rfl, SqT.of h2, rfl, q _ H1 x1 ⟨p, vs, rfl, h3, h4, h5⟩⟩)
theorem tup_dp {T : Addr} {vs : List V} {ds : List PyData} (hT : H T = none) (ho : ∀ p ∈ O, H p ≠ none) (h : DpAll K (hide H O) vs ds) : Dp K (hide (upd H T (.tup vs)) O) (.ref T) (.tuple ds) := by
  have nT : T ∉ O := fun z => ho T z hT
  refine .tup (SqT.of ?_) (DpAll.ex h (hide_ex (Ex.new hT)))
  rw [hide_out nT]
  exact upd_same
theorem out_dp {v : V} {d : PyData} (h : Dp K (hide H (ows σ Γ ++ O)) v d) : Dp K (hide H O) v d := Dp.ex h (hide_sub fun a ha => List.mem_append_right _ ha)
theorem eg_least (hl : (Nw.nearParts R).length ≤ 1000) (h : EG J K Γ te (.own ((Nw.nearParts R).map eQ))) {i j : Nat} (h1 : Γ[i]? = some (.dat (eQ (Nw.gcut R).1))) (h2 : Γ[j]? = some (.dat (eC (Nw.gcut R).2))) : EG J K Γ (tTup (tCons (tVar i) (tCons te (tCons (tVar j) tNil)))) (.raw (leastP K R)) := fun O σ H e Q q => by
  obtain ⟨v1, g1, d1⟩ := e.sl.get h1
  obtain ⟨v2, g2, d2⟩ := e.sl.get h2
  refine ⟨v1, g1, h O σ H e _ fun v H1 x1 r1 => ⟨v2, g2, by show 3 ≤ sizeLine; decide, fun T hT => ?_⟩⟩
  obtain ⟨p, rfl, n1, dp⟩ := own_dp e (by rw [List.length_map]; exact hl) r1
  have xT : Ex H1 (upd H1 T (.tup [v1, .ref p, v2])) := Ex.new hT
  refine q _ _ (x1.trans xT) ⟨tup_dp hT (e.mono x1).there (.cons (Dp.ex d1 (hide_ex x1)) (.cons dp (.cons (Dp.ex d2 (hide_ex x1)) .nil))), T, v1, p, v2, rfl, Evl.fresh_back x1 hT, upd_same, n1.up xT⟩
theorem get_set {σ : L2.St} {i j : Nat} {x : Option V} : (σ.set i x)[j]? = if i = j then (if i < σ.length then some x else none) else σ[j]? := List.getElem?_set
end
section
variable {P : Program} {w : World} {J : Ji} {K : PySem.W.Frag} {mg : Str → Option Value} {base : Heap}
theorem sc_fitting : FnScope ["ring", "top", "cut"] ["ring", "top"] (defScope s_fitting) := ⟨rfl, rfl, rfl, by decide +kernel, rfl, by decide +kernel, by decide +kernel⟩
theorem has_fitting (T : Tx K mg) (h_cut_above : Has P w K mg base 7 "cut_above" 2 P_cut_above) (hm___init__ : HasM P w K mg base 7 282 3 (spInit K)) (hm_sent : HasM P w K mg base 6 308 1 (spSent K)) : Has P w K mg base 9 "fitting" 2 (P_fitting K) := by
  refine has_mk (N := ["ring", "top", "cut"]) (ps := ["ring", "top"]) (k := 8) T.d_fitting sc_fitting (fun _ _ _ _ _ _ us hl => match us, hl with | [_, _], _ => rfl) (fun ds r hp => ?_) (fun f cdv A outer s H E hr => ⟨_, (pss_cons (ps_set (i := 2) sc_fitting.nd rfl (Or.inl rfl) (pe_hasK h_cut_above (hr.mono (by decide)) (by rfl) (pa_cons (pv 0) (pa_cons (pv 1) pa_nil))))
  (pss_cons (ps_if (pt_cmp (pc_notN (pv 2)) rfl) (pss_one (ps_ret (pe_tup (pa_cons pe_str (pa_cons (pv 2) pa_nil))))) pss_nil)
  (pss_one (ps_ret (pe_tup (pa_cons pe_str (pa_cons (pe_methK0 hm_sent (pe_makeK T hm___init__ (hr.mono (by decide)) (by rfl) (pa_cons (pv 0) (pa_cons (pv 1) pa_nil))) T.cl T.m_sent (hr.mono (by decide))) pa_nil))))))), ?_⟩)
  · rcases hp with ⟨_, _, rfl, _⟩
    rfl
  rintro ds r ⟨R, top, rfl, ⟨D, k⟩, rfl⟩
  refine qd (d := .none) (eg_call (ea_cons (ed_var rfl) (ea_cons (ed_var rfl) ea_nil)) ⟨R, top, rfl, ⟨D, k.g⟩, k.ztop, k.cut, rfl⟩) ?_
  refine q0 (eb_is (eb_B (ed_notN (x := .none) (ed_var rfl))) rfl) ?_
  exact sg_ret (r := .raw (fitP K R top)) (eg_fit (eg_sentF k (ed_var rfl) (ed_var rfl))) rfl
theorem sc_least_top : FnScope ["ring", "top", "cut"] ["ring"] (defScope s_least_top) := ⟨rfl, rfl, rfl, by decide +kernel, rfl, by decide +kernel, by decide +kernel⟩
theorem has_least_top (T : Tx K mg) (h_fitting : Has P w K mg base 9 "fitting" 2 (P_fitting K)) (h_greatest_cut : Has P w K mg base 7 "greatest_cut" 1 P_greatest_cut) : Has P w K mg base 10 "least_top" 1 (P_least_top K) := by
  refine has_mk (N := ["ring", "top", "cut"]) (ps := ["ring"]) (k := 9) T.d_least_top sc_least_top (fun _ _ _ _ _ _ us hl => match us, hl with | [_], _ => rfl) (fun ds r hp => ?_) (fun f cdv A outer s H E hr => ⟨_, (pss_cons (ps_asg (pe_hasK h_greatest_cut (hr.mono (by decide)) (by rfl) (pa_cons (pv 0) pa_nil)) (pg_tupK K rfl (pgs_cons (pg_name (i := 1) sc_least_top.nd rfl (Or.inl rfl)) (pgs_cons (pg_name (i := 2) sc_least_top.nd rfl (Or.inl rfl)) pgs_nil))))
  (pss_one (ps_ret (pe_tup (pa_cons (pv 1) (pa_cons (pe_ix (ixK K) (pe_hasK h_fitting (hr.mono (by decide)) (by rfl) (pa_cons (pv 0) (pa_cons (pv 1) pa_nil))) pe_int (fun _ _ => rfl)) (pa_cons (pv 2) pa_nil))))))), ?_⟩)
  · rcases hp with ⟨_, rfl, _⟩
    rfl
  rintro ds r ⟨R, rfl, ⟨D, g, hD⟩, rfl⟩
  obtain ⟨D', k⟩ := fk_of g hD
  refine qu (is := [1, 2]) (ds := [eQ (Nw.gcut R).1, eC (Nw.gcut R).2]) (.cons (.cons .nil)) (eg_call (ea_cons (ed_var rfl) ea_nil) ⟨R, rfl, ⟨D, g⟩, rfl⟩) ?_
  exact sg_ret (r := .raw (leastP K R)) (eg_least (by have h := (fill_ws k).ok.len; have : (Nw.nearParts R).length = R.m := h; have := g.m8; omega) (eg_fit1 (eg_call (ea_cons (ed_var rfl) (ea_cons (ed_var rfl) ea_nil)) ⟨R, (Nw.gcut R).1, rfl, ⟨D', k⟩, rfl⟩)) rfl rfl) rfl
theorem sc_rounding_of : FnScope ["ring", "sending", "slides"] ["ring", "sending"] (defScope s_rounding_of) := ⟨rfl, rfl, rfl, by decide +kernel, rfl, by decide +kernel, by decide +kernel⟩
theorem has_rounding_of (T : Tx K mg) (h_slid_by : Has P w K mg base 6 "slid_by" 3 P_slid_by) (h_slides_for : Has P w K mg base 6 "slides_for" 2 P_slides_for) (h_whole_ways : Has P w K mg base 6 "whole_ways" 2 P_whole_ways) : Has P w K mg base 7 "rounding_of" 2 (P_rounding_of K) := by
  refine has_mk (N := ["ring", "sending", "slides"]) (ps := ["ring", "sending"]) (k := 6) T.d_rounding_of sc_rounding_of (fun _ _ _ _ _ _ us hl => match us, hl with | [_, _], _ => rfl) (fun ds r hp => ?_) (fun f cdv A outer s H E hr => ⟨_, (pss_cons (ps_set (i := 2) sc_rounding_of.nd rfl (Or.inl rfl) (pe_hasK h_slides_for (hr.mono (by decide)) (by rfl) (pa_cons (pv 0) (pa_cons (pv 1) pa_nil))))
  (pss_one (ps_ret (pe_tup (pa_cons (pv 2) (pa_cons (pe_hasK h_whole_ways (hr.mono (by decide)) (by rfl) (pa_cons (pv 0) (pa_cons (pe_hasK h_slid_by (hr.mono (by decide)) (by rfl) (pa_cons (pv 0) (pa_cons (pv 1) (pa_cons (pv 2) pa_nil)))) pa_nil))) pa_nil)))))), ?_⟩)
  · rcases hp with ⟨_, _, rfl, _⟩
    rfl
  rintro ds r ⟨R, s, rfl, ⟨D, g, ws⟩, rfl⟩
  intro B O σ H Dn sb n rr
  have hlen : σ.length = 3 := sb.env.sl.len
  have sok := Nw.slidesFor_ok g.ok ws.ok
  refine raw_step (r := .own ((Nw.slidesFor R s).map eZ)) (eg_call (ea_cons (ed_var rfl) (ea_cons (ed_var rfl) ea_nil)) ⟨R, s, rfl, ⟨D, g, ws⟩, rfl⟩) sb.env fun v1 H1 x1 r1 => ?_
  obtain ⟨p, rfl, n1, dp⟩ := own_dp sb.env (by rw [List.length_map]; have := slides_len (R := R) (s := s); have := g.m8; omega) r1
  have s1 := (sb.mono x1).setD dp 2
  have up1 : ∀ {H : Hp} {v : V} {d : PyData}, Dp K (hide H (ows σ [Sl.dat (eRing R), .dat (eS s), .un] ++ O)) v d → Dp K (hide H (ows (σ.set 2 (some (.ref p))) [Sl.dat (eRing R), .dat (eS s), .dat (eZs (Nw.slidesFor R s))] ++ O)) v d := fun {H v d} h => by rw [ows_flat _ _ rfl] at h ⊢; exact h
  have ew : EG J0 K [.dat (eRing R), .dat (eS s), .dat (eZs (Nw.slidesFor R s))] (tCall (spF K P_whole_ways) [] E0 (tCons (tVar 0) (tCons (tCall (spF K P_slid_by) [] E0 (tCons (tVar 0) (tCons (tVar 1) (tCons (tVar 2) tNil)))) tNil))) (.own ((Nw.wholeWays R (Nw.behind s (Nw.slidesFor R s))).map eW)) := eg_call (ea_cons (ed_var rfl) (ea_cons (eg_call (ea_cons (ed_var rfl) (ea_cons (ed_var rfl) (ea_cons (ed_var rfl) ea_nil))) ⟨R, s, _, rfl, ⟨D, g, ws, slides_am g ws⟩, sok.1, rfl⟩) ea_nil)) ⟨R, _, rfl, ⟨D, g, behind_ws g ws⟩, rfl⟩
  refine ⟨.ref p, by rw [get_set, if_pos rfl, if_pos (by omega)], ew O _ H1 s1.env _ fun v2 H2 x2 r2 => ⟨by show 2 ≤ sizeLine; decide, fun T hT => ?_⟩⟩
  obtain ⟨p2, rfl, n2, dp2⟩ := own_dp s1.env (by rw [List.length_map, Nw.wholeWays_len]; have := g.m8; omega) r2
  have xT : Ex H2 (upd H2 T (.tup [.ref p, .ref p2])) := Ex.new hT
  refine rr _ _ _ _ _ rfl (s1.mono (x2.trans xT)) ⟨tup_dp hT ((s1.mono x2).env.there) (.cons (Dp.ex (up1 dp) (hide_ex x2)) (.cons dp2 .nil)), T, p, p2, rfl, Evl.fresh_back ((sb.ex.trans x1).trans x2) hT, upd_same, ?_, ?_, ?_⟩
  · exact ((n1.up x2).up xT).back sb.ex
  · exact (n2.up xT).back (sb.ex.trans x1)
  · exact n1.ne n2
theorem sc_near_whole : FnScope ["ring", "least", "rounding", "ways"] ["ring"] (defScope s_near_whole) := ⟨rfl, rfl, rfl, by decide +kernel, rfl, by decide +kernel, by decide +kernel⟩
theorem has_near_whole (T : Tx K mg) (h_least_top : Has P w K mg base 10 "least_top" 1 (P_least_top K)) (h_rounding_of : Has P w K mg base 7 "rounding_of" 2 (P_rounding_of K)) (h_sent_by : Has P w K mg base 1 "sent_by" 2 P_sent_by) (h_top_of : Has P w K mg base 6 "top_of" 2 P_top_of) : Has P w K mg base 11 "near_whole" 1 (P_near_whole K) := by
  refine has_mk (N := ["ring", "least", "rounding", "ways"]) (ps := ["ring"]) (k := 10) T.d_near_whole sc_near_whole (fun _ _ _ _ _ _ us hl => match us, hl with | [_], _ => rfl) (fun ds r hp => ?_) (fun f cdv A outer s H E hr => ⟨_, (pss_cons (ps_set (i := 1) sc_near_whole.nd rfl (Or.inl rfl) (pe_hasK h_least_top (hr.mono (by decide)) (by rfl) (pa_cons (pv 0) pa_nil)))
  (pss_cons (ps_set (i := 2) sc_near_whole.nd rfl (Or.inl rfl) (pe_hasK h_rounding_of (hr.mono (by decide)) (by rfl) (pa_cons (pv 0) (pa_cons (pe_ix (ixK K) (pv 1) pe_int (fun _ _ => rfl)) pa_nil))))
  (pss_cons (ps_set (i := 3) sc_near_whole.nd rfl (Or.inl rfl) (pe_callTy (listK K) (by rfl) T.list bb_list (pa_cons (pe_ix (ixK K) (pv 2) pe_int (fun _ _ => rfl)) pa_nil)))
  (pss_one (ps_ret (pe_tup (pa_cons (pv 3) (pa_cons (pe_ix (ixK K) (pe_hasK h_top_of (hr.mono (by decide)) (by rfl) (pa_cons (pv 0) (pa_cons (pe_hasK h_sent_by (hr.mono (by decide)) (by rfl) (pa_cons (pv 0) (pa_cons (pv 3) pa_nil))) pa_nil))) pe_int (fun _ _ => rfl)) (pa_cons (pv 2) (pa_cons (pv 1) pa_nil)))))))))), ?_⟩)
  · rcases hp with ⟨_, rfl, _⟩
    rfl
  rintro ds r ⟨R, rfl, gl, rfl⟩
  obtain ⟨D, g, ws⟩ := gl.near
  intro B O σ H Dn sb n rr
  have hlen : σ.length = 4 := sb.env.sl.len
  refine raw_step (r := .raw (leastP K R)) (eg_call (ea_cons (ed_var rfl) ea_nil) ⟨R, rfl, gl, rfl⟩) sb.env fun v1 H1 x1 r1 => ?_
  obtain ⟨d1, k1⟩ := (show Dp K (hide H1 (ows σ [Sl.dat (eRing R), .un, .un, .un] ++ O)) v1 (dLeast R) ∧ SkLeast H H1 v1 from r1)
  have s1 := (sb.mono x1).setD d1 1
  refine raw_step (r := .raw (roundP K R (Nw.nearParts R))) (eg_call (ea_cons (ed_var rfl) (ea_cons (ed_ixT (ed_var rfl) ed_int rfl) ea_nil)) ⟨R, Nw.nearParts R, rfl, ⟨D, g, ws⟩, rfl⟩) s1.env fun v2 H2 x2 r2 => ?_
  obtain ⟨d2, k2⟩ := (show Dp K (hide H2 (ows (σ.set 1 (some v1)) [Sl.dat (eRing R), .dat (dLeast R), .un, .un] ++ O)) v2 (dRound R (Nw.nearParts R)) ∧ SkRound H1 H2 v2 from r2)
  have s2 := (s1.mono x2).setD d2 2
  refine raw_step (r := .own ((Nw.nearWays R).map eW)) (own_listOf (el_dat (ed_ixT (ed_var rfl) ed_int rfl))) s2.env fun v3 H3 x3 r3 => ?_
  obtain ⟨p1, rfl, n3, d3⟩ := own_dp s2.env (by rw [List.length_map]; have : (Nw.nearWays R).length = R.m := Nw.wholeWays_len; have := g.m8; omega) r3
  have s3 := (s2.mono x3).setD d3 3
  have et : ED J0 K [.dat (eRing R), .dat (dLeast R), .dat (dRound R (Nw.nearParts R)), .dat (eWs (Nw.nearWays R))] (tOp (rIx K) (tCall (spF K P_top_of) [] E0 (tCons (tVar 0) (tCons (tCall (spF K P_sent_by) [] E0 (tCons (tVar 0) (tCons (tVar 3) tNil))) tNil))) (tC (.int 0))) (eQ (Nw.topOf R (Nw.sent R (Nw.nearWays R))).1) := ed_ixT (eg_call (ea_cons (ed_var rfl) (ea_cons (ed_of_own (eg_call (ea_cons (ed_var rfl) (ea_cons (ed_var rfl) ea_nil)) ⟨R, Nw.nearWays R, rfl, Nw.wholeWays_len, g.m8, rfl⟩)) ea_nil)) ⟨R, _, rfl, ⟨D, g, sent_ws g _⟩, rfl⟩) ed_int rfl
  have up : ∀ {H : Hp} {v : V} {d : PyData} {σ σ' : L2.St} {Γ Γ' : List Sl}, Γ.all flatS = true → Γ'.all flatS = true → Dp K (hide H (ows σ Γ ++ O)) v d → Dp K (hide H (ows σ' Γ' ++ O)) v d := fun {H v d σ σ' Γ Γ'} h1 h2 h => by rw [ows_flat _ _ h1] at h; rw [ows_flat _ _ h2]; exact h
  refine ⟨.ref p1, by rw [get_set, if_pos rfl, if_pos (by simp [hlen])], et O _ H3 s3.env _ fun v4 H4 x4 r4 => ⟨v2, by rw [get_set, if_neg (by decide), get_set, if_pos rfl, if_pos (by simp [hlen])], v1, by rw [get_set, if_neg (by decide), get_set, if_neg (by decide), get_set, if_pos rfl, if_pos (by omega)], by show 4 ≤ sizeLine; decide, fun T hT => ?_⟩⟩
  have xT : Ex H4 (upd H4 T (.tup [.ref p1, v4, v2, v1])) := Ex.new hT
  obtain ⟨a1, vt1, q4, vc1, rfl, t10, t1, m4⟩ := k1
  obtain ⟨a2, q2, q3, rfl, t20, t2, m2, m3, ne23⟩ := k2
  have x14 := (x2.trans x3).trans x4
  have x24 := x3.trans x4
  have dp1 := Dp.ex (up (Γ' := [Sl.dat (eRing R), .dat (dLeast R), .dat (dRound R (Nw.nearParts R)), .dat (eWs (Nw.nearWays R))]) (σ' := ((σ.set 1 (some (.ref a1))).set 2 (some (.ref a2))).set 3 (some (.ref p1))) rfl rfl d3) (hide_ex x4)
  have dp2 := Dp.ex (up (Γ' := [Sl.dat (eRing R), .dat (dLeast R), .dat (dRound R (Nw.nearParts R)), .dat (eWs (Nw.nearWays R))]) (σ' := ((σ.set 1 (some (.ref a1))).set 2 (some (.ref a2))).set 3 (some (.ref p1))) rfl rfl d2) (hide_ex x24)
  have dp3 := Dp.ex (up (Γ' := [Sl.dat (eRing R), .dat (dLeast R), .dat (dRound R (Nw.nearParts R)), .dat (eWs (Nw.nearWays R))]) (σ' := ((σ.set 1 (some (.ref a1))).set 2 (some (.ref a2))).set 3 (some (.ref p1))) rfl rfl d1) (hide_ex x14)
  refine rr _ _ _ _ _ rfl (s3.mono (x4.trans xT)) ⟨T, p1, a2, a1, q2, q3, q4, v4, rfl, ⟨⟨vt1, vc1, upd_same, xT _ _ (x24 _ _ t2), xT _ _ (x14 _ _ t1)⟩, tup_dp hT ((s3.mono x4).env.there) (.cons dp1 (.cons r4 (.cons dp2 (.cons dp3 .nil)))), Dp.ex dp1 (hide_ex xT), Dp.ex r4 (hide_ex xT), Dp.ex dp2 (hide_ex xT), Dp.ex dp3 (hide_ex xT)⟩, ⟨Evl.fresh_back (((sb.ex.trans x1).trans x2).trans (x3.trans x4)) hT, Evl.fresh_back (sb.ex.trans x1) t20, Evl.fresh_back sb.ex t10⟩, ⟨?_, ?_, ?_, ?_⟩, ?_⟩
  · exact ((n3.up x4).up xT).back ((sb.ex.trans x1).trans x2)
  · exact ((m2.up x24).up xT).back (sb.ex.trans x1)
  · exact ((m3.up x24).up xT).back (sb.ex.trans x1)
  · exact ((m4.up x14).up xT).back sb.ex
  · have e1 : p1 ≠ q2 := fun z => m2.ne n3 z.symm
    have e2 : p1 ≠ q3 := fun z => m3.ne n3 z.symm
    have e3 : p1 ≠ q4 := fun z => (m4.up x2).ne n3 z.symm
    have e4 : q2 ≠ q4 := fun z => m4.ne m2 z.symm
    have e5 : q3 ≠ q4 := fun z => m4.ne m3 z.symm
    simp [e1, e2, e3, e4, e5, ne23]
end
end NwB
end NwD6_
section NwM_
set_option Elab.async false
set_option linter.all false
set_option maxRecDepth 100000
set_option maxHeartbeats 4000000
namespace NwB
open PySem PySem.Spec PyProof.Rows L2 NwT
open Evl (Ex)
/-! ### a state that is drawn from: a list of an int, an int of 31 bits, a truth value -/
abbrev St3 := Int × Fin 2147483648 × Bool
def stD (s : St3) : List PyData := [.int s.1, .int (s.2.1.val : Nat), .bool s.2.2]
def stV (s : St3) : List V := [.int s.1, .int (s.2.1.val : Nat), .bl s.2.2]
theorem stV_dp {K : PySem.W.Frag} {H : Hp} (s : St3) : DpAll K H (stV s) (stD s) := .cons (.int _) (.cons (.int _) (.cons (.bl _) .nil))
theorem stV_of {K : PySem.W.Frag} {H : Hp} {s : St3} {vs : List V} (h : DpAll K H vs (stD s)) : vs = stV s := by
  obtain ⟨a, b, c, rfl, h1, h2, h3⟩ := dpall3 h
  rw [dp_int h1, dp_int h2, dp_bl h3]
  rfl
/-- what is read may draw from the state: what comes is one of D -/
def EM (J : Ji) (K : PySem.W.Frag) (Γ : St3 → List Sl) (te : TE) (D : PyData → Prop) : Prop := ∀ (st : St3) (O : List Addr) (σ : L2.St) (H : Hp), Env J K O H σ (Γ st) → ∀ Q : VK,
  (∀ v H2 st' d, D d → ows σ (Γ st') = ows σ (Γ st) → Ex (hide H (ows σ (Γ st))) H2 → Env J K O H2 σ (Γ st') → Dp K (hide H2 (ows σ (Γ st') ++ O)) v d → Q v H2) → te σ H Q
def EMA (J : Ji) (K : PySem.W.Frag) (Γ : St3 → List Sl) (ta : TA) (Ds : List PyData → Prop) : Prop := ∀ (st : St3) (O : List Addr) (σ : L2.St) (H : Hp), Env J K O H σ (Γ st) → ∀ Q : List V → Hp → Prop,
  (∀ vs H2 st' ds, Ds ds → ows σ (Γ st') = ows σ (Γ st) → Ex (hide H (ows σ (Γ st))) H2 → Env J K O H2 σ (Γ st') → DpAll K (hide H2 (ows σ (Γ st') ++ O)) vs ds → Q vs H2) → ta σ H Q
def In (A : Int → Prop) : PyData → Prop := fun d => ∃ i, A i ∧ d = .int i
section
variable {J : Ji} {K : PySem.W.Frag} {H H1 H2 H' : Hp} {O W : List Addr} {σ : L2.St} {Γ : St3 → List Sl} {te tl ta tb : TE} {tA : TA} {D D1 D2 : PyData → Prop} {Ds : List PyData → Prop} {A B C : Int → Prop} {N : List Sl → Prop} {R : List Sl → Rs → Prop} {u : TS}
theorem keepM {s1 s2 : List Addr} (e : s2 = s1) (x : Ex (hide H s1) H2) : Ex (hide H (s1 ++ O)) (hide H2 (s2 ++ O)) := by
  rw [e]
  exact ex_hide_mono (fun a ha => List.mem_append_left _ ha) x
theorem stepM {s1 s2 : List Addr} (e : s2 = s1) (x : Ex (hide H s1) H1) (y : Ex (hide H1 s2) H2) : Ex (hide H s1) H2 := ex_hide_trans x (by rw [e] at y; exact y)
theorem em_of {d : PyData} (h : ∀ st, ED J K (Γ st) te d) (hd : D d) : EM J K Γ te D := fun st O σ H e Q q => h st O σ H e Q fun v H2 x r => q v H2 st d hd rfl (ex_hide_of x) (e.mono x) r
theorem em_imp (h : EM J K Γ te D1) (i : ∀ d, D1 d → D d) : EM J K Γ te D := fun st O σ H e Q q => h st O σ H e Q fun v H2 st' d hd => q v H2 st' d (i d hd)
theorem em_int {i : Int} (h : A i) : EM J K Γ (tC (.int i)) (In A) := em_of (fun _ => ed_int) ⟨i, h, rfl⟩
theorem em_ed {i : Int} (h : ∀ st, ED J K (Γ st) te (.int i)) (ha : A i) : EM J K Γ te (In A) := em_of h ⟨i, ha, rfl⟩
theorem em_op {r : R2} (h1 : EM J K Γ ta D1) (h2 : EM J K Γ tb D2) (h : ∀ x y, D1 x → D2 y → ∀ (O : List Addr) (H : Hp) (v u : V) (Q : VK), Dp K (hide H O) v x → Dp K (hide H O) u y → (∀ w d, D d → (∀ H, Dp K H w d) → Q w H) → r v u H Q) : EM J K Γ (tOp r ta tb) D := fun st O σ H e Q q =>
  h1 st O σ H e _ fun v H1 st1 d1 g1 o1 x1 e1 r1 => h2 st1 O σ H1 e1 _ fun u H2 st2 d2 g2 o2 x2 e2 r2 => h d1 d2 g1 g2 _ H2 v u Q (Dp.ex r1 (keepM o2 x2)) r2 fun w d hd hw => q w H2 st2 d hd (o2.trans o1) (stepM o1 x1 x2) e2 (hw _)
theorem em_opI {g : Int → Int → Int} (h1 : EM J K Γ ta (In A)) (h2 : EM J K Γ tb (In B)) (h : ∀ i j, A i → B j → C (g i j)) : EM J K Γ (tOp (rI0 fun i j => .int (g i j)) ta tb) (In C) :=
  em_op h1 h2 fun x y ⟨i, hi, ex⟩ ⟨j, hj, ey⟩ O H v u Q d1 d2 q => by
    subst ex ey
    rw [dp_int d1, dp_int d2]
    exact ⟨i, j, rfl, rfl, q _ _ ⟨_, h i j hi hj, rfl⟩ fun _ => .int _⟩
theorem em_opC {Cc : Int → Int → Prop} {g : Int → Int → Int} (h1 : EM J K Γ ta (In A)) (h2 : EM J K Γ tb (In B)) (h : ∀ i j, A i → B j → Cc i j ∧ C (g i j)) : EM J K Γ (tOp (rI Cc fun i j => .int (g i j)) ta tb) (In C) :=
  em_op h1 h2 fun x y ⟨i, hi, ex⟩ ⟨j, hj, ey⟩ O H v u Q d1 d2 q => by
    subst ex ey
    rw [dp_int d1, dp_int d2]
    exact ⟨i, j, rfl, rfl, (h i j hi hj).1, q _ _ ⟨_, (h i j hi hj).2, rfl⟩ fun _ => .int _⟩
/-- a sign of a text -/
theorem em_char {z : Str} (hz : z.length ≤ 100000) (h1 : ∀ st, ED J K (Γ st) ta (.str z)) (h2 : EM J K Γ tb (In fun i => 0 ≤ i ∧ i < z.length)) : EM J K Γ (tOp (rIx K) ta tb) (fun d => ∃ c ∈ z.cps.toList, d = .str ⟨#[c]⟩) := fun st O σ H e Q q =>
  h1 st O σ H e _ fun v H1 x1 r1 => h2 st O σ H1 (e.mono x1) _ fun u H2 st2 d2 g2 o2 x2 e2 r2 => by
    obtain ⟨i, ⟨i0, i1⟩, rfl⟩ := g2
    rw [dp_str r1, dp_int r2]
    have hl : z.cps.toList.length = z.length := by simp [Str.length]
    obtain ⟨n, rfl⟩ : ∃ n : Nat, i = n := ⟨i.toNat, by omega⟩
    have hn : n < z.cps.toList.length := by omega
    refine .inr (.inr ⟨z, (n : Int), z.cps.toList[n], rfl, rfl, Evl.sz_of hz, atI_at (List.getElem?_eq_getElem hn), ?_⟩)
    exact q _ H2 st2 _ ⟨_, List.getElem_mem hn, rfl⟩ o2 ((hide_ex x1).trans x2) e2 (.str _)
theorem emA_nil : EMA J K Γ tNil (fun ds => ds = []) := fun st O σ H e Q q => q [] H st [] rfl rfl hide_le e .nil
theorem emA_cons (h : EM J K Γ te D) (hr : EMA J K Γ tA Ds) : EMA J K Γ (tCons te tA) (fun l => ∃ d ds, D d ∧ Ds ds ∧ l = d :: ds) := fun st O σ H e Q q =>
  h st O σ H e _ fun v H1 st1 d1 g1 o1 x1 e1 r1 => hr st1 O σ H1 e1 _ fun vs H2 st2 ds g2 o2 x2 e2 r2 => q _ H2 st2 _ ⟨d1, ds, g1, g2, rfl⟩ (o2.trans o1) (stepM o1 x1 x2) e2 (.cons (Dp.ex r1 (keepM o2 x2)) r2)
theorem emA_of {ds : List PyData} (h : ∀ st, EA J K (Γ st) tA ds) (hd : Ds ds) : EMA J K Γ tA Ds := fun st O σ H e Q q => h st O σ H e Q fun vs H2 x r => q vs H2 st ds hd rfl (ex_hide_of x) (e.mono x) r
theorem em_lst (h : EMA J K Γ tA Ds) (hl : ∀ ds, Ds ds → ds.length ≤ 100000) : EM J K Γ (tLst tA) (fun d => ∃ ds, Ds ds ∧ d = .list ds) := fun st O σ H e Q q =>
  h st O σ H e _ fun vs H1 st1 ds g1 o1 x1 e1 r1 => ⟨by rw [r1.len]; exact Evl.sz_of (hl ds g1), fun p hp => by
    have xp : Ex H1 (upd H1 p (.lst vs)) := Ex.new hp
    have np : p ∉ ows σ (Γ st1) ++ O := fun z => e1.there p z hp
    refine q _ _ st1 _ ⟨ds, g1, rfl⟩ o1 (x1.trans xp) (e1.mono xp) (.lst (SqL.of ?_) (DpAll.ex r1 (hide_ex xp)))
    rw [hide_out np]
    exact upd_same⟩
theorem em_tup (h : EMA J K Γ tA Ds) (hl : ∀ ds, Ds ds → ds.length ≤ 100000) : EM J K Γ (tTup tA) (fun d => ∃ ds, Ds ds ∧ d = .tuple ds) := fun st O σ H e Q q =>
  h st O σ H e _ fun vs H1 st1 ds g1 o1 x1 e1 r1 => ⟨by rw [r1.len]; exact Evl.sz_of (hl ds g1), fun p hp => by
    have xp : Ex H1 (upd H1 p (.tup vs)) := Ex.new hp
    have np : p ∉ ows σ (Γ st1) ++ O := fun z => e1.there p z hp
    refine q _ _ st1 _ ⟨ds, g1, rfl⟩ o1 (x1.trans xp) (e1.mono xp) (.tup (SqT.of ?_) (DpAll.ex r1 (hide_ex xp)))
    rw [hide_out np]
    exact upd_same⟩
/-! ### calls -/
def spS (K : PySem.W.Frag) (Pre : List PyData → Prop) (Pr : List PyData → PyData → Prop) : Sp := fun vs H Q _ => ∃ (O : List Addr) (p : Addr) (ws : List V) (ds : List PyData) (st : St3), vs = .ref p :: ws ∧ H p = some (.lst (stV st)) ∧ p ∉ O ∧ (∀ q ∈ O, H q ≠ none) ∧ DpAll K (hide H (p :: O)) ws ds ∧ Pre ds ∧
  ∀ v H2 st' d, Pr ds d → Ex (hide H [p]) H2 → H2 p = some (.lst (stV st')) → Dp K (hide H2 (p :: O)) v d → Q v H2
def spN (K : PySem.W.Frag) (Pre : List PyData → Prop) (Pr : List PyData → PyData → Prop) : Sp := fun vs H Q _ => ∃ (O : List Addr) (ds : List PyData), Pre ds ∧ DpAll K (hide H O) vs ds ∧ (∀ q ∈ O, H q ≠ none) ∧ ∀ v H2 d, Pr ds d → Ex H H2 → Dp K (hide H2 O) v d → Q v H2
variable {E : XK} {Pre : List PyData → Prop} {Pr : List PyData → PyData → Prop} {i : Nat} {ds : List PyData}
theorem em_callS {w : Option Addr} (hi : ∀ st, (Γ st)[i]? = some (.ownP w (stD st))) (hs : ∀ st st', (Γ st).set i (.ownP w (stD st')) = Γ st') (ha : ∀ st, EA J K (Γ st) tA ds) (hp : Pre ds) : EM J K Γ (tCall (spS K Pre Pr) [] E (tCons (tVar i) tA)) (Pr ds) := fun st O σ H e Q q => by
  obtain ⟨p, vs, s1, h1, d1, m1⟩ := e.sl.getO (hi st)
  obtain rfl := stV_of d1
  refine ⟨_, s1, ha st O σ H e _ fun ws H1 x1 r1 => ?_⟩
  show spS K Pre Pr ((.ref p :: ws) ++ []) H1 Q E
  rw [List.append_nil]
  have e1 := e.mono x1
  have mem : ∀ a, a ∈ p :: (ows σ (Γ st) ++ O).filter (fun a => a ≠ p) ↔ a ∈ ows σ (Γ st) ++ O := fun a => by
    by_cases z : a = p
    · subst z
      simp [m1]
    · simp [z]
  refine ⟨(ows σ (Γ st) ++ O).filter (fun a => a ≠ p), p, ws, ds, st, rfl, x1 _ _ h1, by simp, fun a ha => e1.there a (List.mem_filter.mp ha).1, by rw [hide_cong mem]; exact r1, hp, fun v H2 st' d hd x2 h2 dv => ?_⟩
  obtain ⟨b1, b2⟩ := e1.put (stV_dp st') (hi st) s1
  rw [hs] at b1 b2
  have xx : Ex (upd H1 p (.lst (stV st'))) H2 := fun a o z => by
    by_cases c : a = p
    · subst c
      rw [upd_same] at z
      rw [h2]
      exact z
    · rw [upd_ne c] at z
      refine x2 a o ?_
      rw [hide_out fun y => c (List.mem_singleton.mp y)]
      exact z
  refine q v H2 st' d hd b2 ?_ (b1.mono xx) ?_
  · exact (hide_ex x1).trans ((hide_sub fun a ha => by rw [List.mem_singleton.mp ha]; exact m1).trans x2)
  · rw [b2, ← hide_cong mem]
    exact dv
/-- the state is new, and then gone -/
theorem em_callF {s0 : St3} (h0 : ∀ st, EG J K (Γ st) te (.own (stD s0))) (ha : ∀ st, EA J K (Γ st) tA ds) (hp : Pre ds) : EM J K Γ (tCall (spS K Pre Pr) [] E (tCons te tA)) (Pr ds) := fun st O σ H e Q q =>
  h0 st O σ H e _ fun v H1 x1 r1 => by
    obtain ⟨p, vs, rfl, a1, a2, a3⟩ := r1
    obtain rfl := stV_of a3
    have e1 := env_news (L := [p]) e (fun a ha => by rw [List.mem_singleton.mp ha]; exact a1) x1 (fun a ha => by rw [List.mem_singleton.mp ha, a2]; simp)
    refine ha st _ σ H1 e1 _ fun ws H2 x2 r2 => ?_
    show spS K Pre Pr ((.ref p :: ws) ++ []) H2 Q E
    rw [List.append_nil]
    have mem : ∀ a, a ∈ ows σ (Γ st) ++ ([p] ++ O) ↔ a ∈ p :: (ows σ (Γ st) ++ O) := fun a => by
      simp only [List.mem_append, List.mem_cons, List.not_mem_nil, or_false]
      constructor
      · rintro (h | h | h)
        · exact .inr (.inl h)
        · exact .inl h
        · exact .inr (.inr h)
      · rintro (h | h | h)
        · exact .inr (.inl h)
        · exact .inl h
        · exact .inr (.inr h)
    have np : p ∉ ows σ (Γ st) ++ O := fun z => e.there p z a1
    refine ⟨ows σ (Γ st) ++ O, p, ws, ds, s0, rfl, x2 _ _ a2, np, (e.mono (x1.trans x2)).there, by rw [← hide_cong mem]; exact r2, hp, fun v H3 st' d hd x3 h3 dv => ?_⟩
    have xx : Ex H H3 := fun a o z => by
      refine x3 a o ?_
      rw [hide_out fun y => ?_]
      · exact x2 _ _ (x1 _ _ z)
      · rw [List.mem_singleton.mp y, a1] at z
        cases z
    exact q v H3 st d hd rfl (ex_hide_of xx) (e.mono xx) (Dp.ex dv (hide_sub fun a ha => List.mem_cons_of_mem _ ha))
/-- a call whose answer is one of some -/
theorem em_callN (ha : ∀ st, EA J K (Γ st) tA ds) (hp : Pre ds) : EM J K Γ (tCall (spN K Pre Pr) [] E tA) (Pr ds) := fun st O σ H e Q q =>
  ha st O σ H e _ fun vs H1 x1 r1 => by
    rw [List.append_nil]
    exact ⟨_, ds, hp, r1, (e.mono x1).there, fun v H2 d hd x2 dv => q v H2 st d hd rfl (ex_hide_of (x1.trans x2)) (e.mono (x1.trans x2)) dv⟩
/-! ### statements -/
theorem Sb.mut {B : Hp} {st st' : St3} (s : Sb J K B O H σ (Γ st)) (o : ows σ (Γ st') = ows σ (Γ st)) (x : Ex (hide H (ows σ (Γ st))) H2) (e : Env J K O H2 σ (Γ st')) : Sb J K B O H2 σ (Γ st') := ⟨e, s.lifted.trans x, by rw [o]; exact s.new⟩
theorem sgm_asg {j : Nat} {st : St3} (h : EM J K Γ te D) (k : ∀ st d, D d → Lq N ((Γ st).set j (.dat d))) : SG J K (Γ st) (tAsg te (gName j)) N R := fun B O σ H Dn s n r =>
  h st O σ H s.env _ fun v H1 st1 d hd o x e r1 => by
    obtain ⟨Γ2, l, c⟩ := k st1 d hd
    exact n Γ2 _ H1 c (((s.mut o x e).setD r1 j).le l)
theorem qm {j : Nat} {st : St3} (h : EM J K Γ te D) (k : ∀ st d, D d → SG J K ((Γ st).set j (.dat d)) u N R) : SG J K (Γ st) (tSeq (tAsg te (gName j)) u) N R :=
  sg_seq (N' := fun Γ' => ∃ st d, D d ∧ Γ' = (Γ st).set j (.dat d)) (sgm_asg h fun st d hd => lq_refl ⟨st, d, hd, rfl⟩) fun Γ' e => by
    obtain ⟨st, d, hd, rfl⟩ := e
    exact k st d hd
/-- two names for a pair -/
theorem qm2 {a b : Nat} {st : St3} {D : PyData → PyData → Prop} (h : EM J K Γ te (fun d => ∃ x y, D x y ∧ d = .tuple [x, y])) (k : ∀ st x y, D x y → SG J K (((Γ st).set a (.dat x)).set b (.dat y)) u N R) : SG J K (Γ st) (tSeq (tAsg te (gTup K 2 (gCons (gName a) (gCons (gName b) gNil)))) u) N R :=
  sg_seq (N' := fun Γ' => ∃ st x y, D x y ∧ Γ' = ((Γ st).set a (.dat x)).set b (.dat y)) (fun B O σ H Dn s n r => h st O σ H s.env _ fun v H1 st1 d hd o x e r1 => by
    obtain ⟨dx, dy, hxy, rfl⟩ := hd
    obtain ⟨p, vs, rfl, h1, h2⟩ := dp_tup r1
    exact ⟨p, vs, rfl, Evl.ex_t hide_le h1, h2.len, gn_run (.cons (.cons .nil)) (s.mut o x e) h2 rfl fun σ' s' => n _ σ' H1 ⟨st1, dx, dy, hxy, rfl⟩ s'⟩) fun Γ' e => by
    obtain ⟨st, x, y, hxy, rfl⟩ := e
    exact k st x y hxy
theorem sgm_app {a : Nat} {st : St3} {w : Option Addr} {es : List PyData} (ho : ∀ st, (Γ st)[a]? = some (.ownP w es)) (h : EM J K Γ te D) (hl : es.length < 100000) (k : ∀ st d, D d → Lq N ((Γ st).set a (.ownP w (es ++ [d])))) : SG J K (Γ st) (tDrop (tBM K "list" rAppend (tVar a) (tCons te tNil))) N R := fun B O σ H Dn s n r => by
  obtain ⟨p, vs, e1, e2, e3, m⟩ := s.env.sl.getO (ho st)
  refine ⟨_, e1, .inl ⟨rfl, vs, SqL.of e2⟩, h st O σ H s.env _ fun v H1 st1 d hd o x e r1 => ?_⟩
  obtain ⟨Γ2, l, c⟩ := k st1 d hd
  have s1 := s.mut o x e
  obtain ⟨p', vs', f1, f2, f3, m'⟩ := e.sl.getO (ho st1)
  rw [e1] at f1
  cases f1
  obtain ⟨b1, b2⟩ := e.put (DpAll.append f3 (.cons r1 .nil)) (ho st1) e1
  refine ⟨p, vs', v, rfl, rfl, f2, by rw [f3.len]; exact Evl.sz_lt hl, ?_⟩
  refine n Γ2 _ _ c (Sb.le ⟨b1, fun a o z => ?_, by rw [b2]; exact s1.new⟩ l)
  rw [upd_ne fun y => by rw [y, s1.new p m'] at z; cases z]
  exact s1.ex a o z
theorem sg_freeze {Γ : List Sl} {i : Nat} {w : Option Addr} {ds : List PyData} {t : TS} (h : Γ[i]? = some (.ownP w ds)) (k : SG J K (Γ.set i (.dat (.list ds))) t N R) : SG J K Γ t N R := fun B O σ H Dn s n r => by
  obtain ⟨p, vs, e1, e2, e3, m⟩ := s.env.sl.getO h
  have hσ : σ.set i (some (.ref p)) = σ := by
    refine List.ext_getElem? fun j => ?_
    rw [List.getElem?_set]
    by_cases c : i = j
    · subst c
      rw [if_pos rfl, if_pos (List.getElem?_eq_some_iff.mp e1).1, e1]
    · rw [if_neg c]
  have np : ∀ {W : List Addr} {σ : L2.St} {Γ : List Sl}, EnvL K H W σ Γ → ∀ {i : Nat} {d : PyData}, Γ[i]? = some (.ownP w ds) → σ[i]? = some (some (.ref p)) → p ∉ ows σ (Γ.set i (.dat d)) := by
    intro W σ Γ h
    induction h with
    | nil => intro i d e; simp at e
    | @un x σ Γ h ih =>
      intro i d g1 g2
      cases i with
      | zero => cases (show some Sl.un = some _ from g1)
      | succ i => show p ∉ ows (x :: σ) (.un :: Γ.set i (.dat d)); rw [ows_un]; exact ih (i := i) g1 g2
    | @is x σ Γ h ih =>
      intro i d g1 g2
      cases i with
      | zero => cases (show some (Sl.is _) = some _ from g1)
      | succ i => show p ∉ ows (some x :: σ) (.is x :: Γ.set i (.dat d)); rw [ows_is]; exact ih (i := i) g1 g2
    | @dat x dx σ Γ hx h ih =>
      intro i d g1 g2
      cases i with
      | zero => cases (show some (Sl.dat _) = some _ from g1)
      | succ i => show p ∉ ows (some x :: σ) (.dat dx :: Γ.set i (.dat d)); rw [ows_dat]; exact ih (i := i) g1 g2
    | @own y rq vs' es σ Γ h0 h1 h2 h3 h ih =>
      intro i d g1 g2
      cases i with
      | zero =>
        cases (show some (some (V.ref y)) = some _ from g2)
        show p ∉ ows (some (.ref p) :: σ) (.dat d :: Γ)
        rw [ows_dat]
        exact h3
      | succ i =>
        show p ∉ ows (some (.ref y) :: σ) (.ownP rq es :: Γ.set i (.dat d))
        rw [ows_own]
        intro z
        rcases List.mem_cons.mp z with z | z
        · obtain ⟨p', _, q1, _, _, q2⟩ := h.getO (i := i) g1
          rw [show σ[i]? = some (some (V.ref p)) from g2] at q1
          cases q1
          exact h3 (by rw [← z]; exact q2)
        · exact ih (i := i) g1 g2 z
  have npp := np s.env.sl (d := .list ds) h e1
  have nO := s.env.dis p m
  have e0 : EnvL K H ((ows σ Γ ++ O).filter fun a => a ≠ p) σ Γ := s.env.sl.sub fun a ha => (List.mem_filter.mp ha).1
  have nf : p ∉ (ows σ Γ ++ O).filter fun a => a ≠ p := by simp
  obtain ⟨g1, g2⟩ := e0.setD (v := .ref p) (d := .list ds) (.lst (SqL.of (by rw [hide_out nf]; exact e2)) (DpAll.ex e3 (hide_sub fun a ha => (List.mem_filter.mp ha).1))) i
  rw [hσ] at g1 g2
  have sub : ∀ a ∈ ows σ (Γ.set i (.dat (.list ds))) ++ O, a ∈ (ows σ Γ ++ O).filter fun a => a ≠ p := fun a ha => by
    refine List.mem_filter.mpr ⟨mem_app g2 a ha, ?_⟩
    rw [decide_eq_true_iff]
    rintro rfl
    rcases List.mem_append.mp ha with ha | ha
    · exact npp ha
    · exact nO ha
  refine k B O σ H Dn ⟨⟨g1.sub sub, fun a ha => s.env.dis a (g2 a ha), s.env.all, s.env.foot, J.sub (mem_app g2) (fun a ha => List.mem_append_right _ (s.env.foot a ha)) s.env.inv⟩, s.ex, fun a ha => s.new a (g2 a ha)⟩ n r
end
/-! ### defs -/
structure HasX (P : Program) (w : World) (K : PySem.W.Frag) (mg : Str → Option Value) (base : Heap) (k : Nat) (x : Str) (n : Nat) (sp : Sp) : Prop where
  ex : ∃ f fd ps, ps.length = n ∧ FnOk P w K mg base CX0 k f fd ps sp ∧ mg x = some (.ref f) ∧ PySem.W.keepIn K (.ref f) = true ∧ Binds K fd ps []
def entryS (p : Addr) (N : List Str) (st : St3) (ds : List PyData) : List Sl := (.ownP (some p) (stD st) :: ds.map .dat) ++ List.replicate (N.length - (ds.length + 1)) .un
section
variable {P : Program} {w : World} {K : PySem.W.Frag} {mg : Str → Option Value} {base : Heap} {Pre : List PyData → Prop} {Pr : List PyData → PyData → Prop}
theorem has_mkS {x : Str} {st : Stmt} {N ps : List Str} {k : Nat} (D : Dfn K mg x st) (S : FnScope N ps (defScope st)) (hb : ∀ (kV doc pm : Value) (an : Option Addr) (cdv ct : Value) (us : List Value), us.length = ps.length → bindArgs (PySem.W.fnOf x x (defArgs st) (defBody st) (defScope st) .none kV doc pm an cdv ct) ⟨us, []⟩ = pure (ps.zip us))
    (hn : ∀ ds, Pre ds → ds.length + 1 = ps.length)
    (body : ∀ (f : Addr) (cdv : Value) (A : Around) (outer : List PySem.Env) (s : Shared) (H : Hp) (E : XK), Room k (A.deeper (envOfC x (defScope st) s.heap.objs.size f cdv)) →
      ∃ t, PSs (cxOf CX0 P w K mg base N x (defScope st) f cdv A outer s H E).nox (defBody st) t ∧ ∀ p ds, Pre ds → ∀ s3, SG J0 K (entryS p N s3 ds) t (fun _ => False) (fun Γ' r' => ∃ s4 d, Γ'[0]? = some (.ownP (some p) (stD s4)) ∧ r' = .dat d ∧ Pr ds d)) : HasX P w K mg base (k + 1) x ps.length (spS K Pre Pr) := by
  obtain ⟨f, fd, F, hm⟩ := D.ex
  refine ⟨f, fd, ps, rfl, F.ok S (fun vs H Q E h => ?_) (fun cdv A outer s H vs Q E hr h => ?_), hm, F.kp, F.binds hb⟩
  · obtain ⟨O, p, ws, ds, s3, rfl, _, _, _, h1, hp, _⟩ := h
    rw [List.length_cons, h1.len]
    exact hn ds hp
  · obtain ⟨O, p, ws, ds, s3, rfl, h0, np, ho, h1, hp, q⟩ := h
    obtain ⟨t, ht, hs⟩ := body f cdv A outer s H E hr
    refine ⟨t, ht, ?_⟩
    have flat : (ds.map Sl.dat).all flatS = true := by
      rw [List.all_eq_true]
      intro y hy
      obtain ⟨_, _, rfl⟩ := List.mem_map.mp hy
      rfl
    have o0 : ows (some (.ref p) :: ws.map some) (.ownP (some p) (stD s3) :: ds.map .dat) = [p] := by
      rw [ows_own, ows_flat _ _ flat]
    have key : ∀ {ws : List V} {ds : List PyData}, DpAll K (hide H (p :: O)) ws ds → EnvL K H (p :: O) (ws.map some) (ds.map .dat) := by
      intro ws ds h
      induction ds generalizing ws with
      | nil =>
        cases h
        exact .nil
      | cons d ds ih =>
        cases h with
        | cons h1 h2 => exact .dat h1 (ih h2)
    have e0 : Env J0 K O H (some (.ref p) :: ws.map some) (.ownP (some p) (stD s3) :: ds.map .dat) := by
      refine ⟨?_, ?_, ho, fun a z => absurd z (by show ¬ a ∈ ([] : List Addr); simp), trivial⟩
      · rw [o0]
        exact .own (fun a z => (Option.some.inj z).symm) h0 (stV_dp s3) (by rw [ows_flat _ _ flat]; simp) (key h1)
      · rw [o0]
        intro a ha
        rw [List.mem_singleton.mp ha]
        exact np
    have e1 := env_pad (N.length - (ds.length + 1)) e0
    have o1 := ows_pad (N.length - (ds.length + 1)) e0.sl.len
    have est : L2.start N (.ref p :: ws) = (some (.ref p) :: ws.map some) ++ List.replicate (N.length - (ds.length + 1)) none := by
      unfold L2.start
      rw [List.length_cons, h1.len]
      rfl
    rw [est]
    refine hs p ds hp s3 (hide H [p]) O _ H _ ⟨e1, hide_le, ?_⟩ (fun _ _ _ z => z.elim) fun v H' σ' Γ' r' z sb rd => ?_
    · intro a ha
      have ha : a ∈ ows ((some (.ref p) :: ws.map some) ++ List.replicate (N.length - (ds.length + 1)) none) ((.ownP (some p) (stD s3) :: ds.map .dat) ++ List.replicate (N.length - (ds.length + 1)) .un) := ha
      rw [o1, o0] at ha
      exact hide_in ha
    · obtain ⟨s4, d, g1, rfl, g2⟩ := z
      obtain ⟨p', vs', q1, q2, q3, q4, q5⟩ := sb.env.sl.getO' g1
      obtain rfl := q5 p rfl
      obtain rfl := stV_of q3
      refine q v H' s4 d g2 sb.ex q2 (Dp.ex rd (hide_sub fun a ha => ?_))
      rcases List.mem_cons.mp ha with rfl | ha
      · exact List.mem_append_left _ q4
      · exact List.mem_append_right _ ha
theorem has_mkN {x : Str} {st : Stmt} {N ps : List Str} {k : Nat} (D : Dfn K mg x st) (S : FnScope N ps (defScope st)) (hb : ∀ (kV doc pm : Value) (an : Option Addr) (cdv ct : Value) (us : List Value), us.length = ps.length → bindArgs (PySem.W.fnOf x x (defArgs st) (defBody st) (defScope st) .none kV doc pm an cdv ct) ⟨us, []⟩ = pure (ps.zip us))
    (hn : ∀ ds, Pre ds → ds.length = ps.length)
    (body : ∀ (f : Addr) (cdv : Value) (A : Around) (outer : List PySem.Env) (s : Shared) (H : Hp) (E : XK), Room k (A.deeper (envOfC x (defScope st) s.heap.objs.size f cdv)) →
      ∃ t, PSs (cxOf CX0 P w K mg base N x (defScope st) f cdv A outer s H E).nox (defBody st) t ∧ ∀ ds, Pre ds → SG J0 K (entry N ds) t (fun _ => False) (fun _ r' => ∃ d, r' = .dat d ∧ Pr ds d)) : HasX P w K mg base (k + 1) x ps.length (spN K Pre Pr) := by
  obtain ⟨f, fd, F, hm⟩ := D.ex
  refine ⟨f, fd, ps, rfl, F.ok S (fun vs H Q E h => ?_) (fun cdv A outer s H vs Q E hr h => ?_), hm, F.kp, F.binds hb⟩
  · obtain ⟨O, ds, hp, h1, _⟩ := h
    rw [h1.len]
    exact hn ds hp
  · obtain ⟨O, ds, hp, h1, ho, q⟩ := h
    obtain ⟨t, ht, hs⟩ := body f cdv A outer s H E hr
    refine ⟨t, ht, hs ds hp H O (L2.start N vs) H _ (entry_ok h1 ho) (fun _ _ _ z => z.elim) fun v H' σ' Γ' r' e x rd => ?_⟩
    obtain ⟨d, rfl, hd⟩ := e
    exact q v H' d hd x.ex (rd_out rd)
theorem pe_hasX {sp : Sp} {X : Cx} {k n : Nat} {x : Str} {p pos : Pos} {e : Expr} {es : List Expr} {t : TA} (h : HasX P w K mg base k x n sp) (hr : Room k X.A) (hg : Gl X x) (ha : PA X (e :: es) t)
    (e1 : X.prog = P := by rfl) (e2 : X.w = w := by rfl) (e3 : X.K = K := by rfl) (e4 : X.mg = mg := by rfl) (e5 : X.base = base := by rfl) (hdb : (x == ("__debug__" : Str)) = false := by decide)
    (he : starEach (e :: es) X.env = (false, eval e X.env) :: starEach es X.env := by rfl) (hpl : (backTo pos (starEach es X.env)).any (·.1) = false := by rfl) : PE X (.Call (.Name x p) (e :: es) [] pos) (tCall sp [] E0 t) := by
  subst e1 e2 e3 e4 e5
  obtain ⟨f, fd, ps, _, F, hm, kp, b⟩ := h.ex
  exact pe_call F hr hg hm kp b .nil pass0 ha hdb he hpl
end
end NwB
end NwM_
section NwL1_
set_option Elab.async false
set_option linter.all false
set_option maxRecDepth 100000
set_option maxHeartbeats 4000000
namespace NwB
open PySem PySem.Spec PyProof.Rows L2 NwT
open Evl (Ex)
/-! ### the law's own: drawing -/
def begunS (ns : List Int) (k : Nat) : St3 := (ns.getD k 0, ⟨((ns.getD k 0 % 2147483587 + 48271 * (k : Int) * (k : Int) + 13) % 2147483587).toNat, by omega⟩, decide (ns.getD k 0 ≥ 10 ^ 18))
def P__law_begun : Pd := fun ds r => ∃ (ns : List Int) (k : Nat), ds = [.list (ns.map .int), eN k] ∧ k ≤ 100 ∧ ns.length ≤ 1000 ∧ r = .own (stD (begunS ns k))
def Pre_take : List PyData → Prop := fun ds => ∃ m : Nat, ds = [eN m] ∧ 0 < m ∧ m ≤ 1000000000000
def Pr_take : List PyData → PyData → Prop := fun ds d => ∃ m r : Nat, ds = [eN m] ∧ r < m ∧ d = eN r
def P__law_low : Pd := fun ds r => ∃ t b : Int, ds = [.int t, .int b] ∧ 0 < b ∧ b.natAbs < 2 ^ 3000 ∧ r = .dat (eQ (Rat.divInt t b))
/-- an amount that is drawn -/
def Am2 (l : Nat) (q : Rat) : Prop := ∃ t b : Nat, 0 < b ∧ b ≤ 12 ∧ l ≤ t ∧ t ≤ l + 1000000000000 ∧ q = Rat.divInt (t : Int) (b : Int)
def Pre_amount : List PyData → Prop := fun ds => ∃ l k : Nat, ds = [eN l, eN k] ∧ l ≤ 1 ∧ k < 5
def Pr_amount : List PyData → PyData → Prop := fun ds d => ∃ (l k : Nat) (q : Rat), ds = [eN l, eN k] ∧ Am2 l q ∧ d = eQ q
section
variable {P : Program} {w : World} {J : Ji} {K : PySem.W.Frag} {mg : Str → Option Value} {base : Heap}
theorem ints_at {ns : List Int} {k : Nat} (h : k < ns.length) : (ns.map PyData.int)[k]? = some (.int (ns.getD k 0)) := by
  rw [List.getElem?_map, List.getElem?_eq_getElem h, List.getD_eq_getElem?_getD, List.getElem?_eq_getElem h]
  rfl
theorem pow_ok {i j : Int} (h0 : 0 ≤ j) (h1 : j ≤ 100) (h2 : i.natAbs < 2 ^ 64) : CPow i j := ⟨h0, by omega, h2⟩
theorem mulS {i j : Int} (hi : i.natAbs < 2 ^ 1000) (hj : j.natAbs < 2 ^ 1000) : CMulW i j := wide_mul hi hj (by decide) (by decide) (by decide)
theorem small1 {i : Int} (h0 : 0 ≤ i) (h1 : i < 4611686018427387904) : i.natAbs < 2 ^ 1000 := Nat.lt_of_lt_of_le (show i.natAbs < 2 ^ 62 by omega) (Nat.pow_le_pow_right (by decide) (by decide))
theorem sc__law_begun : FnScope ["_law_script", "_law_k", "_law_cell"] ["_law_script", "_law_k"] (defScope s__law_begun) := ⟨rfl, rfl, rfl, by decide +kernel, rfl, by decide +kernel, by decide +kernel⟩
theorem has__law_begun (T : Tx K mg) : Has P w K mg base 1 "_law_begun" 2 P__law_begun := by
  refine has_mk (N := ["_law_script", "_law_k", "_law_cell"]) (ps := ["_law_script", "_law_k"]) (k := 0) T.d__law_begun sc__law_begun (fun _ _ _ _ _ _ us hl => match us, hl with | [_, _], _ => rfl) (fun ds r hp => ?_) (fun f cdv A outer s H E hr => ⟨_, (pss_cons (ps_set (i := 2) sc__law_begun.nd rfl (Or.inl rfl) pe_int)
  (pss_cons (ps_if (pt_cmpR op_lt (pv 1) (pe_callB (lenK K) (by rfl) T.len bb_len (pa_cons (pv 0) pa_nil)) (nomark _)) (pss_one (ps_set (i := 2) sc__law_begun.nd rfl (Or.inl rfl) (pe_ix (ixK K) (pv 0) (pv 1) (fun _ _ => rfl)))) pss_nil)
  (pss_one (ps_ret (pe_lst (pa_cons (pv 2) (pa_cons (pe_op op_mod (pe_op op_add (pe_op op_add (pe_op op_mod (pv 2) pe_int) (pe_op op_mulW (pe_op op_mulW pe_int (pv 1)) (pv 1))) pe_int) pe_int) (pa_cons (pe_cmpR op_ge (pv 2) (pe_op op_pow pe_int pe_int) (nomark _)) pa_nil)))))))), ?_⟩)
  · rcases hp with ⟨_, _, rfl, _⟩
    rfl
  rintro ds r ⟨ns, k, rfl, hk, hn, rfl⟩
  have fin : ∀ {Γ : List Sl}, Γ[1]? = some (.dat (eN k)) → Γ[2]? = some (.dat (.int (ns.getD k 0))) → EG J0 K Γ (tLst (tCons (tVar 2) (tCons (tOp (rI (fun _ j => 0 < j) fun i j => .int (i % j)) (tOp (rI0 fun i j => .int (i + j)) (tOp (rI0 fun i j => .int (i + j)) (tOp (rI (fun _ j => 0 < j) fun i j => .int (i % j)) (tVar 2) (tC (.int 2147483587))) (tOp (rI CMulW fun i j => .int (i * j)) (tOp (rI CMulW fun i j => .int (i * j)) (tC (.int 48271)) (tVar 1)) (tVar 1))) (tC (.int 13))) (tC (.int 2147483587))) (tCons (tOp (rI0 fun i j => .bl (decide (i ≥ j))) (tVar 2) (tOp (rI CPow fun i j => .int (i ^ j.toNat)) (tC (.int 10)) (tC (.int 18)))) tNil)))) (.own (stD (begunS ns k))) := fun {Γ} h1 h2 => by
    refine own_is (own_lst (ea_cons (ed_var h2) (ea_cons (ed_opC (ed_opI (ed_opI (ed_opC (ed_var h2) ed_int (by show (0 : Int) < 2147483587; decide)) (ed_opC (ed_opC ed_int (ed_var h1) (mulS (by decide) (small1 (by omega) (by omega)))) (ed_var h1) (mulS (small1 (by omega) (by omega)) (small1 (by omega) (by omega))))) ed_int) ed_int (by show (0 : Int) < 2147483587; decide)) (ea_cons (ed_opB (ed_var h2) (ed_opC ed_int ed_int (pow_ok (by decide) (by decide) (by decide)))) ea_nil)))) ?_
    unfold stD begunS
    have e : (((ns.getD k 0 % 2147483587 + 48271 * (k : Int) * (k : Int) + 13) % 2147483587).toNat : Int) = (ns.getD k 0 % 2147483587 + 48271 * (k : Int) * (k : Int) + 13) % 2147483587 := by omega
    simp only [e]
    rfl
  refine qd (d := .int 0) ed_int ?_
  refine sg_seq (N' := fun Γ' => Γ' = [.dat (.list (ns.map .int)), .dat (eN k), .dat (.int (ns.getD k 0))]) (sg_if (b := decide (k < ns.length)) (eb_is (eb_test (ed_opB (ed_var rfl) (ed_lenL (el_dat (ed_var rfl))))) ?_) (fun h => ?_) fun h => ?_) ?_
  · rw [List.length_map]
    exact decide_eq_decide.mpr (by omega)
  · exact sg_asg (ed_ixL (el_dat (ed_var rfl)) (ed_var rfl) (atI_at (ints_at (of_decide_eq_true h)))) (lq_refl rfl)
  · have h' := of_decide_eq_false h
    have e : ns.getD k 0 = 0 := by
      rw [List.getD_eq_getElem?_getD, List.getElem?_eq_none (by omega)]
      rfl
    rw [e]
    exact sg_next (lq_refl rfl)
  · rintro Γ' rfl
    exact sg_ret (fin rfl rfl) rfl
theorem sc__law_take : FnScope ["_law_state", "_law_many", "_law_digit", "_law_drawn", "_law_turn"] ["_law_state", "_law_many"] (defScope s__law_take) := ⟨rfl, rfl, rfl, by decide +kernel, rfl, by decide +kernel, by decide +kernel⟩
theorem has__law_take (T : Tx K mg) : HasX P w K mg base 1 "_law_take" 2 (spS K Pre_take Pr_take) := by
  refine has_mkS (N := ["_law_state", "_law_many", "_law_digit", "_law_drawn", "_law_turn"]) (ps := ["_law_state", "_law_many"]) (k := 0) T.d__law_take sc__law_take (fun _ _ _ _ _ _ us hl => match us, hl with | [_, _], _ => rfl) (fun ds hp => ?_) (fun f cdv A outer s H E hr => ⟨_, (pss_cons (ps_if (pt_val (pe_ix (ixK K) (pv 0) pe_int (fun _ _ => rfl))) (pss_cons (ps_set (i := 2) sc__law_take.nd rfl (Or.inl rfl) (pe_op op_mod (pe_ix (ixK K) (pv 0) pe_int (fun _ _ => rfl)) (pv 1)))
  (pss_cons (ps_asg (pe_op op_fdivW (pe_ix (ixK K) (pv 0) pe_int (fun _ _ => rfl)) (pv 1)) (pg_sub (pv 0) pe_int set_list))
  (pss_cons (ps_asg (pe_cmpR op_gt (pe_ix (ixK K) (pv 0) pe_int (fun _ _ => rfl)) pe_int (nomark _)) (pg_sub (pv 0) pe_int set_list))
  (pss_one (ps_ret (pv 2)))))) pss_nil)
  (pss_cons (ps_set (i := 3) sc__law_take.nd rfl (Or.inl rfl) pe_int)
  (pss_cons (ps_for PassesOwn.never rfl (pi_range1 rfl T.range (pa_cons (pe_op op_add pe_int (pe_op op_mulW pe_int (pe_callTy call_int1 (by rfl) T.int bb_int (pa_cons (pe_cmpR op_gt (pv 1) (pe_op op_pow pe_int pe_int) (nomark _)) pa_nil)))) pa_nil)) (pg_name (i := 4) sc__law_take.nd rfl (Or.inl rfl))
  (pss_cons (ps_asg (pe_op op_mod (pe_op op_add (pe_op op_mulW (pe_ix (ixK K) (pv 0) pe_int (fun _ _ => rfl)) pe_int) pe_int) pe_int) (pg_sub (pv 0) pe_int set_list))
  (pss_one (ps_set (i := 3) sc__law_take.nd rfl (Or.inl rfl) (pe_op op_add (pe_op op_mulW (pv 3) pe_int) (pe_op op_mod (pe_op op_mulW (pe_ix (ixK K) (pv 0) pe_int (fun _ _ => rfl)) (pe_ix (ixK K) (pv 0) pe_int (fun _ _ => rfl))) pe_int))))))
  (pss_one (ps_ret (pe_op op_mod (pe_op op_fdivW (pv 3) pe_int) (pv 1))))))), ?_⟩)
  · rcases hp with ⟨_, rfl, _⟩
    rfl
  rintro p ds ⟨m, rfl, m0, m1⟩ s3
  obtain ⟨a, b, c⟩ := s3
  show SG J0 K [.ownP (some p) (stD (a, b, c)), .dat (eN m), .un, .un, .un] _ _ _
  have mi : (0 : Int) < (m : Nat) := by omega
  have md : ∀ x : Int, CDivW x ((m : Nat) : Int) := fun x => wide_div (b := 60) mi (by rw [Int.natAbs_natCast]; omega) (by decide) (by decide)
  have fin : ∀ x : Int, ∃ r : Nat, r < m ∧ x % (m : Nat) = (r : Nat) := fun x => by
    have h1 := Int.emod_nonneg x (show ((m : Nat) : Int) ≠ 0 by omega)
    have h2 := Int.emod_lt_of_pos x mi
    exact ⟨(x % (m : Nat)).toNat, by omega, by omega⟩
  refine q2 (b := c) (eb_test (ed_ixL (el_own rfl) ed_int rfl)) (fun h => ?_) fun h => ?_
  · refine qd (d := .int (a % (m : Nat))) (ed_opC (ed_ixL (el_own rfl) ed_int rfl) (ed_var rfl) mi) ?_
    refine sg_seq (N' := fun Γ' => Γ' = [.ownP (some p) (stD (a / (m : Nat), b, c)), .dat (eN m), .dat (.int (a % (m : Nat))), .un, .un]) (sg_put (j := 0) (d := .int (a / (m : Nat))) (ed_opC (ed_ixL (el_own rfl) ed_int rfl) (ed_var rfl) (md _)) rfl ed_int (by show 0 < 3; decide) (lq_refl rfl)) ?_
    rintro Γ' rfl
    refine sg_seq (N' := fun Γ' => Γ' = [.ownP (some p) (stD (a / (m : Nat), b, decide (a / (m : Nat) > 0))), .dat (eN m), .dat (.int (a % (m : Nat))), .un, .un]) (sg_put (j := 2) (d := .bool (decide (a / (m : Nat) > 0))) (ed_opB (ed_ixL (el_own rfl) ed_int rfl) ed_int) rfl ed_int (by show 2 < 3; decide) (lq_refl rfl)) ?_
    rintro Γ' rfl
    obtain ⟨r, hr1, hr2⟩ := fin a
    exact sg_ret (ed_var rfl) ⟨_, _, rfl, rfl, m, r, rfl, hr1, by rw [hr2]; rfl⟩
  · refine qd (d := .int 0) ed_int ?_
    refine sg_seq (N' := fun Γ' => ∃ (s4 : St3) (dr : Int), Γ' = [.ownP (some p) (stD s4), .dat (eN m), .un, .dat (.int dr), .un]) (sg_forR (n := 1 + 8 * (if m > 1000000 then 1 else 0)) (fun i Γ' => ∃ (s4 : St3) (dr : Int), 0 ≤ dr ∧ dr.natAbs < 2 ^ (31 * i + 1) ∧ Γ' = [.ownP (some p) (stD s4), .dat (eN m), .un, .dat (.int dr), .un]) (ea_cons (ed_is (ed_opI ed_int (ed_opC (i := 8) (j := if decide ((m : Int) > 10 ^ 6) then 1 else 0) ed_int (ed_intB (ed_opB (g := fun i j => decide (i > j)) (ed_var rfl) (ed_opC (i := 10) (j := 6) ed_int ed_int (pow_ok (by decide) (by decide) (by decide))))) (mulS (by decide) (by split <;> decide)))) ?_) ea_nil) (by split <;> omega) ⟨_, Le.refl _, (a, b, c), 0, by omega, by decide, rfl⟩ ?_ ?_) ?_
    · by_cases e : m > 1000000
      · rw [if_pos e, decide_eq_true (show ((m : Nat) : Int) > 10 ^ 6 by omega)]
        rfl
      · rw [if_neg e, decide_eq_false (show ¬ ((m : Nat) : Int) > 10 ^ 6 by omega)]
        rfl
    · rintro i Γ' hi ⟨⟨a', b', c'⟩, dr, d0, d1, rfl⟩
      have i8 : i ≤ 8 := by split at hi <;> omega
      have bb := b'.isLt
      have dl : dr.natAbs < 2 ^ 1000 := Nat.lt_of_lt_of_le d1 (Nat.pow_le_pow_right (by decide) (by omega))
      refine sg_seq (N' := fun Γ' => ∃ x : Fin 2147483648, x.val < 2147483647 ∧ Γ' = [.ownP (some p) (stD (a', x, c')), .dat (eN m), .un, .dat (.int dr), .dat (eN i)]) (sg_put (j := 1) (d := .int (((b'.val * 39373 + 17) % 2147483647 : Nat) : Int)) (ed_is (ed_opC (ed_opI (ed_opC (i := (b'.val : Nat)) (ed_ixL (el_own rfl) ed_int rfl) ed_int (mulS (small1 (by omega) (by omega)) (by decide))) ed_int) ed_int (by show (0 : Int) < 2147483647; decide)) (congrArg PyData.int (by omega))) rfl ed_int (by show 1 < 3; decide) (lq_refl ⟨⟨(b'.val * 39373 + 17) % 2147483647, by omega⟩, by show (b'.val * 39373 + 17) % 2147483647 < 2147483647; omega, rfl⟩)) ?_
      rintro Γ' ⟨xf, xl, rfl⟩
      generalize hx : xf.val = x at xl
      have sq : ((x : Nat) : Int) * (x : Nat) % 2147483629 = ((x * x % 2147483629 : Nat) : Int) := by
        rw [Int.natCast_emod, Int.natCast_mul]
        rfl
      refine sg_asg (d := .int (dr * 2147483629 + ((x : Nat) : Int) * (x : Nat) % 2147483629)) (ed_opI (ed_opC (ed_var rfl) ed_int (mulS dl (by decide))) (ed_opC (ed_opC (i := (x : Nat)) (j := (x : Nat)) (ed_ixL (el_own rfl) ed_int (by subst hx; rfl)) (ed_ixL (el_own rfl) ed_int (by subst hx; rfl)) (mulS (small1 (by omega) (by omega)) (small1 (by omega) (by omega)))) ed_int (by show (0 : Int) < 2147483629; decide))) ⟨_, .same (.same (.same (.same (.un .nil)))), lq_refl ⟨_, _, ?_, ?_, rfl⟩⟩
      · rw [sq]
        have : 0 ≤ dr * 2147483629 := Int.mul_nonneg d0 (by decide)
        omega
      · rw [sq]
        have hm := Nat.mod_lt (x * x) (show 0 < 2147483629 by decide)
        have e1 : (dr * 2147483629 + ((x * x % 2147483629 : Nat) : Int)).natAbs = dr.natAbs * 2147483629 + x * x % 2147483629 := by omega
        rw [e1]
        have e2 : 31 * (i + 1) + 1 = (31 * i + 1) + 31 := by omega
        rw [e2, Nat.pow_add]
        have e3 : (dr.natAbs + 1) * 2147483629 ≤ 2 ^ (31 * i + 1) * 2 ^ 31 := Nat.mul_le_mul d1 (by decide)
        omega
    · rintro Γ' ⟨s4, dr, _, _, rfl⟩
      exact lq_refl ⟨s4, dr, rfl⟩
    · rintro Γ' ⟨s4, dr, rfl⟩
      obtain ⟨r, hr1, hr2⟩ := fin (dr / 64)
      exact sg_ret (ed_opC (ed_opC (ed_var rfl) ed_int (wide_div (b := 10) (by decide) (by decide) (by decide) (by decide))) (ed_var rfl) mi) ⟨s4, _, rfl, rfl, m, r, rfl, hr1, by rw [hr2]; rfl⟩
theorem sc__law_low : FnScope ["_law_top", "_law_bottom", "_law_one", "_law_share"] ["_law_top", "_law_bottom"] (defScope s__law_low) := ⟨rfl, rfl, rfl, by decide +kernel, rfl, by decide +kernel, by decide +kernel⟩
theorem has__law_low (T : Tx K mg) : Has P w K mg base 1 "_law_low" 2 P__law_low := by
  refine has_mk (N := ["_law_top", "_law_bottom", "_law_one", "_law_share"]) (ps := ["_law_top", "_law_bottom"]) (k := 0) T.d__law_low sc__law_low (fun _ _ _ _ _ _ us hl => match us, hl with | [_, _], _ => rfl) (fun ds r hp => ?_) (fun f cdv A outer s H E hr => ⟨_, (pss_cons (ps_set (i := 2) sc__law_low.nd rfl (Or.inl rfl) (pe_callB call_abs (by rfl) T.abs bb_abs (pa_cons (pv 0) pa_nil)))
  (pss_cons (ps_set (i := 3) sc__law_low.nd rfl (Or.inl rfl) (pe_callB call_abs (by rfl) T.abs bb_abs (pa_cons (pv 1) pa_nil)))
  (pss_cons (ps_while PassesOwn.never (pt_cmpR (neK K hr.units) (pv 2) pe_int (nomark _))
  (pss_one (ps_par (i := 2) (j := 3) (by rfl) sc__law_low.nd rfl rfl (by decide) rfl rfl (pa_cons (pe_op op_mod (pv 3) (pv 2)) (pa_cons (pv 2) pa_nil)) (by rfl))))
  (pss_cons (ps_if (pt_cmpR op_lt (pv 1) pe_int (nomark _)) (pss_one (ps_set (i := 3) sc__law_low.nd rfl (Or.inl rfl) (pe_op op_sub pe_int (pv 3)))) pss_nil)
  (pss_one (ps_ret (pe_tup (pa_cons (pe_op op_fdivW (pv 0) (pv 3)) (pa_cons (pe_op op_fdivW (pv 1) (pv 3)) pa_nil))))))))), ?_⟩)
  · rcases hp with ⟨_, _, rfl, _⟩
    rfl
  rintro ds r ⟨t, b, rfl, b0, b1, rfl⟩
  have g0 : 0 < Nat.gcd t.natAbs b.natAbs := Nat.gcd_pos_of_pos_right _ (by omega)
  have gl : Nat.gcd t.natAbs b.natAbs < 2 ^ 3000 := Nat.lt_of_le_of_lt (Nat.gcd_le_right _ (by omega)) b1
  have md : ∀ x : Int, CDivW x ((Nat.gcd t.natAbs b.natAbs : Nat) : Int) := fun x => wide_div (b := 3000) (by omega) (by rw [Int.natAbs_natCast]; exact gl) (by decide) (by decide)
  refine qd (d := eN t.natAbs) (ed_abs (ed_var rfl)) ?_
  refine qd (d := eN b.natAbs) (ed_abs (ed_var rfl)) ?_
  refine sg_seq (N' := fun Γ' => ∃ x, Γ' = [.dat (.int t), .dat (.int b), x, .dat (eN (Nat.gcd t.natAbs b.natAbs))]) (sg_while (fun m Γ' => ∃ y : Nat, Γ' = [.dat (.int t), .dat (.int b), .dat (eN m), .dat (eN y)] ∧ Nat.gcd m y = Nat.gcd t.natAbs b.natAbs) t.natAbs ⟨_, Le.refl _, b.natAbs, rfl, rfl⟩ ?_) ?_
  · rintro m Γ' ⟨y, rfl, e⟩
    refine ⟨!decide (m = 0), eb_is (eb_test (ed_neI (ed_var rfl) ed_int)) (congrArg not (decide_eq_decide.mpr (by omega))), fun h => ?_, fun h => ?_⟩
    · have h' : m ≠ 0 := by simpa using h
      refine sg_par (d := eN (y % m)) (e := eN m) (ea_cons (ed_is (ed_opC (ed_var rfl) (ed_var rfl) (by show (0 : Int) < (m : Nat); omega)) (congrArg PyData.int (Int.natCast_emod _ _).symm)) (ea_cons (ed_var rfl) ea_nil)) (lq_refl (lq_refl ⟨y % m, Nat.mod_lt _ (by omega), m, rfl, ?_⟩))
      rw [← e]
      exact (Nat.gcd_rec m y).symm
    · have h' : m = 0 := by simpa using h
      subst h'
      rw [Nat.gcd_zero_left] at e
      exact lq_refl ⟨_, by rw [e]⟩
  · rintro Γ' ⟨x, rfl⟩
    refine q0 (eb_is (eb_test (ed_opB (ed_var rfl) ed_int)) (decide_eq_false (by omega))) ?_
    refine sg_ret (ed_is (ed_tup (ea_cons (ed_opC (ed_var rfl) (ed_var rfl) (md _)) (ea_cons (ed_opC (ed_var rfl) (ed_var rfl) (md _)) ea_nil))) (d' := eQ (Rat.divInt t b)) ?_) rfl
    unfold eQ
    rw [low_num b0, low_den b0]
    rfl
def kA (k : Nat) : Nat := [1, 1, 4, 12, 12].getD k 1
def kB (k : Nat) : Nat := [3, 10, 10, 40, 1000000000000].getD k 1
theorem kA_at : ∀ k : Nat, k < 5 → ([.int 1, .int 1, .int 4, .int 12, .int 12] : List PyData)[k]? = some (eN (kA k)) ∧ 0 < kA k ∧ kA k ≤ 12
  | 0, _ => ⟨rfl, by decide, by decide⟩
  | 1, _ => ⟨rfl, by decide, by decide⟩
  | 2, _ => ⟨rfl, by decide, by decide⟩
  | 3, _ => ⟨rfl, by decide, by decide⟩
  | 4, _ => ⟨rfl, by decide, by decide⟩
  | n + 5, h => absurd h (by omega)
theorem kB_at : ∀ k : Nat, k < 5 → ([.int 3, .int 10, .int 10, .int 40, .int 1000000000000] : List PyData)[k]? = some (eN (kB k)) ∧ 0 < kB k ∧ kB k ≤ 1000000000000
  | 0, _ => ⟨rfl, by decide, by decide⟩
  | 1, _ => ⟨rfl, by decide, by decide⟩
  | 2, _ => ⟨rfl, by decide, by decide⟩
  | 3, _ => ⟨rfl, by decide, by decide⟩
  | 4, _ => ⟨rfl, by decide, by decide⟩
  | n + 5, h => absurd h (by omega)
theorem em_take {Γ : St3 → List Sl} {w : Option Addr} {i m : Nat} {ta : TE} {E : XK} (hi : ∀ st, (Γ st)[i]? = some (.ownP w (stD st))) (hs : ∀ st st', (Γ st).set i (.ownP w (stD st')) = Γ st') (ha : ∀ st, ED J K (Γ st) ta (eN m)) (h0 : 0 < m) (h1 : m ≤ 1000000000000) :
    EM J K Γ (tCall (spS K Pre_take Pr_take) [] E (tCons (tVar i) (tCons ta tNil))) (In fun j => 0 ≤ j ∧ j < m) :=
  em_imp (em_callS hi hs (fun st => ea_cons (ha st) ea_nil) ⟨m, rfl, h0, h1⟩) fun d hd => by
    obtain ⟨m', r, e, hr, rfl⟩ := hd
    have e : m = m' := by
      have := (List.cons.inj e).1
      have := PyData.int.inj this
      omega
    subst e
    exact ⟨(r : Nat), ⟨by omega, by omega⟩, rfl⟩
theorem sc__law_amount : FnScope ["_law_state", "_law_least", "_law_kind", "_law_bottom", "_law_top"] ["_law_state", "_law_least", "_law_kind"] (defScope s__law_amount) := ⟨rfl, rfl, rfl, by decide +kernel, rfl, by decide +kernel, by decide +kernel⟩
theorem has__law_amount (T : Tx K mg) (h__law_low : Has P w K mg base 1 "_law_low" 2 P__law_low) (h__law_take : HasX P w K mg base 1 "_law_take" 2 (spS K Pre_take Pr_take)) : HasX P w K mg base 2 "_law_amount" 3 (spS K Pre_amount Pr_amount) := by
  refine has_mkS (N := ["_law_state", "_law_least", "_law_kind", "_law_bottom", "_law_top"]) (ps := ["_law_state", "_law_least", "_law_kind"]) (k := 1) T.d__law_amount sc__law_amount (fun _ _ _ _ _ _ us hl => match us, hl with | [_, _, _], _ => rfl) (fun ds hp => ?_) (fun f cdv A outer s H E hr => ⟨_, (pss_cons (ps_set (i := 3) sc__law_amount.nd rfl (Or.inl rfl) (pe_op op_add pe_int (pe_hasX h__law_take (hr.mono (by decide)) (by rfl) (pa_cons (pv 0) (pa_cons (pe_ix (ixK K) (pe_lst (pa_cons pe_int (pa_cons pe_int (pa_cons pe_int (pa_cons pe_int (pa_cons pe_int pa_nil)))))) (pv 2) (fun _ _ => rfl)) pa_nil)))))
  (pss_cons (ps_set (i := 4) sc__law_amount.nd rfl (Or.inl rfl) (pe_op op_add (pv 1) (pe_hasX h__law_take (hr.mono (by decide)) (by rfl) (pa_cons (pv 0) (pa_cons (pe_ix (ixK K) (pe_lst (pa_cons pe_int (pa_cons pe_int (pa_cons pe_int (pa_cons pe_int (pa_cons (pe_op op_pow pe_int pe_int) pa_nil)))))) (pv 2) (fun _ _ => rfl)) pa_nil)))))
  (pss_one (ps_ret (pe_hasK h__law_low (hr.mono (by decide)) (by rfl) (pa_cons (pv 4) (pa_cons (pv 3) pa_nil))))))), ?_⟩)
  · rcases hp with ⟨_, _, rfl, _⟩
    rfl
  rintro p ds ⟨l, k, rfl, hl, hk⟩ s3
  obtain ⟨a1, a2, a3⟩ := kA_at k hk
  obtain ⟨b1, b2, b3⟩ := kB_at k hk
  refine qm (Γ := fun st => [.ownP (some p) (stD st), .dat (eN l), .dat (eN k), .un, .un]) (st := s3) (D := In fun j => 1 ≤ j ∧ j ≤ 12) (em_opI (A := fun i => i = 1) (em_int rfl) (em_take (m := kA k) (fun _ => rfl) (fun _ _ => rfl) (fun _ => ed_ixL (el_dat (ed_of_own (own_lst (ea_cons ed_int (ea_cons ed_int (ea_cons ed_int (ea_cons ed_int (ea_cons ed_int ea_nil)))))))) (ed_var rfl) (atI_at a1)) a2 (by omega)) fun i j hi hj => by omega) fun s4 d hd => ?_
  obtain ⟨jb, ⟨jb1, jb2⟩, rfl⟩ := hd
  refine qm (Γ := fun st => [.ownP (some p) (stD st), .dat (eN l), .dat (eN k), .dat (.int jb), .un]) (st := s4) (D := In fun j => (l : Int) ≤ j ∧ j ≤ l + 1000000000000) (em_opI (A := fun i => i = l) (em_ed (i := (l : Nat)) (fun _ => ed_var rfl) rfl) (em_take (m := kB k) (fun _ => rfl) (fun _ _ => rfl) (fun _ => ed_ixL (el_dat (ed_of_own (own_lst (ea_cons ed_int (ea_cons ed_int (ea_cons ed_int (ea_cons ed_int (ea_cons (ed_is (ed_opC (i := 10) (j := 12) ed_int ed_int (pow_ok (by decide) (by decide) (by decide))) (d' := .int 1000000000000) rfl) ea_nil)))))))) (ed_var rfl) (atI_at b1)) b2 b3) fun i j hi hj => by omega) fun s5 d hd => ?_
  obtain ⟨jt, ⟨jt1, jt2⟩, rfl⟩ := hd
  refine sg_ret (eg_call (ea_cons (ed_var rfl) (ea_cons (ed_var rfl) ea_nil)) ⟨jt, jb, rfl, by omega, ?_, rfl⟩) ⟨s5, _, rfl, rfl, l, k, _, rfl, ⟨jt.toNat, jb.toNat, by omega, by omega, by omega, by omega, ?_⟩, rfl⟩
  · exact Nat.lt_of_lt_of_le (show jb.natAbs < 2 ^ 62 by omega) (Nat.pow_le_pow_right (by decide) (by decide))
  · rw [Int.toNat_of_nonneg (by omega), Int.toNat_of_nonneg (by omega)]
end
end NwB
end NwL1_
section NwL2_
set_option Elab.async false
set_option linter.all false
set_option maxRecDepth 100000
set_option maxHeartbeats 4000000
namespace NwB
open PySem PySem.Spec PyProof.Rows L2 NwT
open Evl (Ex)
/-! ### texts -/
def Ltr (x : Str) : Prop := ∀ c ∈ x.cps.toList, 97 ≤ c ∧ c ≤ 122
theorem cps_app (a b : Str) : (a ++ b).cps = a.cps ++ b.cps := rfl
theorem Ltr.app {a b : Str} (ha : Ltr a) (hb : Ltr b) : Ltr (a ++ b) := fun c hc => by
  rw [cps_app, Array.toList_append] at hc
  rcases List.mem_append.mp hc with h | h
  · exact ha c h
  · exact hb c h
theorem size_app (a b : Str) : (a ++ b).cps.size = a.cps.size + b.cps.size := by rw [cps_app, Array.size_append]
theorem Ltr.cut {a : Str} (ha : Ltr a) (lo hi : Option Int) : Ltr (cutS a lo hi) := fun c hc => by
  have e : (cutS a lo hi).cps.toList = (a.cps.toList.drop (HT.sIx a.length 0 lo)).take (HT.sIx a.length a.length hi - HT.sIx a.length 0 lo) := rfl
  rw [e] at hc
  exact ha c (List.mem_of_mem_drop (List.mem_of_mem_take hc))
theorem join_ltr : ∀ ys : List Str, (∀ y ∈ ys, Ltr y ∧ y.cps.size = 1) → Ltr (Str.join "" ys) ∧ (Str.join "" ys).cps.size = ys.length
  | [], _ => ⟨fun c hc => by
      have e : (Str.join "" []).cps.toList = [] := rfl
      rw [e] at hc
      simp at hc, rfl⟩
  | [y], h => by
    obtain ⟨h1, h2⟩ := h y (List.mem_cons_self ..)
    exact ⟨h1, h2⟩
  | y :: z :: r, h => by
    obtain ⟨h1, h2⟩ := h y (List.mem_cons_self ..)
    obtain ⟨i1, i2⟩ := join_ltr (z :: r) fun x hx => h x (List.mem_cons_of_mem _ hx)
    have e0 : ("" : Str).cps = #[] := by decide +kernel
    have e : Str.join "" (y :: z :: r) = y ++ "" ++ Str.join "" (z :: r) := rfl
    rw [e]
    refine ⟨Ltr.app (Ltr.app h1 fun c hc => by rw [e0] at hc; simp at hc) i1, ?_⟩
    rw [size_app, size_app, h2, i2, e0]
    simp
    omega
def abc : Str := "abcdefghijklmnopqrstuvwxyz"
theorem abc_len : abc.length = 26 := by decide +kernel
theorem abc_ltr : Ltr abc := by
  have h : abc.cps.toList.all (fun c => decide (97 ≤ c) && decide (c ≤ 122)) = true := by decide +kernel
  intro c hc
  have := List.all_eq_true.mp h c hc
  rw [Bool.and_eq_true, decide_eq_true_iff, decide_eq_true_iff] at this
  exact this
section
variable {J : Ji} {K : PySem.W.Frag} {H H1 H2 H' : Hp} {O W : List Addr} {σ : L2.St} {Γ : St3 → List Sl} {Γ0 : List Sl} {te tl ta tb tn : TE} {tA : TA} {D D1 D2 : PyData → Prop}
theorem ed_lenS {z : Str} (hz : z.length ≤ 100000) (ha : ED J K Γ0 ta (.str z)) : ED J K Γ0 (tCB (fun xs H Q => ∃ z : Str, xs = [.str z] ∧ z.length ≤ sizeLine ∧ Q (.int z.length) H) (tCons ta tNil)) (.int (z.length : Nat)) := fun O σ H e Q q =>
  ha O σ H e _ fun v H1 x1 r1 => by
    rw [dp_str r1]
    exact ⟨z, rfl, Evl.sz_of hz, q _ H1 x1 (.int _)⟩
theorem ed_addS {i j : Str} (hi : i.length + j.length ≤ 100000) (ha : ED J K Γ0 ta (.str i)) (hb : ED J K Γ0 tb (.str j)) : ED J K Γ0 (tOp (fun x y H Q => ∃ i j : Str, x = .str i ∧ y = .str j ∧ i.length + j.length ≤ sizeLine ∧ Q (.str (i ++ j)) H) ta tb) (.str (i ++ j)) :=
  two_op ha hb fun O H v u Q h1 h2 q => by rw [dp_str h1, dp_str h2]; exact ⟨i, j, rfl, rfl, Evl.sz_of hi, q _ fun _ => .str _⟩
theorem ed_cutS {tl th : TO} {z : Str} {lo hi : Option Int} (hz : z.length ≤ 100000) (ha : ED J K Γ0 ta (.str z)) (h1 : EO J K Γ0 tl lo) (h2 : EO J K Γ0 th hi) : ED J K Γ0 (tSl rSlS ta tl th) (.str (cutS z lo hi)) := fun O σ H e Q q =>
  ha O σ H e _ fun v H1 x1 r1 => h1 O σ H1 (e.mono x1) _ fun H2 x2 => h2 O σ H2 ((e.mono x1).mono x2) _ fun H3 x3 => by
    rw [dp_str r1]
    exact ⟨z, rfl, Evl.sz_of hz, q _ H3 ((x1.trans x2).trans x3) (.str _)⟩
theorem ed_ixS {z : Str} {n : Nat} (hz : z.length ≤ 100000) (hn : n < z.length) (ha : ED J K Γ0 ta (.str z)) (hb : ED J K Γ0 tb (.int (n : Nat))) : ED J K Γ0 (tOp (rIx K) ta tb) (.str ⟨#[z.cps.toList.getD n 0]⟩) :=
  two_op ha hb fun O H v u Q h1 h2 q => by
    rw [dp_str h1, dp_int h2]
    have hl : z.cps.toList.length = z.length := by simp [Str.length]
    have h3 : n < z.cps.toList.length := by omega
    have e : z.cps.toList.getD n 0 = z.cps.toList[n] := by rw [List.getD_eq_getElem?_getD, List.getElem?_eq_getElem h3]; rfl
    rw [e] at q
    exact .inr (.inr ⟨z, (n : Int), _, rfl, rfl, Evl.sz_of hz, atI_at (List.getElem?_eq_getElem h3), q _ fun _ => .str _⟩)
theorem em_join {A : List Str → Prop} (h : EM J K Γ te (fun d => ∃ ys : List Str, A ys ∧ d = .list (ys.map .str))) (hA : ∀ ys, A ys → ys.length ≤ 100 ∧ ∀ y ∈ ys, y.cps.size = 1) :
    EM J K Γ (tM1 (fun x xs H Q => ∃ a p, ∃ ys : List Str, x = .str a ∧ xs = [.ref p] ∧ (SqL K H p (ys.map V.str) ∨ SqT K H p (ys.map V.str)) ∧ (ys.map (·.length)).sum + ys.length * a.length ≤ 16777216 ∧ Q (.str (Txt.join a ys)) H) (tC (.str "")) te) (fun d => ∃ ys : List Str, A ys ∧ d = .str (Str.join "" ys)) := fun st O σ H e Q q => by
  refine ⟨⟨_, rfl⟩, h st O σ H e _ fun v H1 st1 d g1 o1 x1 e1 r1 => ?_⟩
  obtain ⟨ys, hy, rfl⟩ := g1
  obtain ⟨p, vs, rfl, a1, a2⟩ := dp_lst r1
  obtain rfl := dpall_strs a2
  obtain ⟨b1, b2⟩ := hA ys hy
  refine ⟨"", p, ys, rfl, rfl, .inl (Evl.ex_l hide_le a1), ?_, ?_⟩
  · have e0 : ("" : Str).length = 0 := by decide +kernel
    have key : ∀ l : List Str, (∀ y ∈ l, y.cps.size = 1) → (l.map (·.length)).sum = l.length := by
      intro l
      induction l with
      | nil => exact fun _ => rfl
      | cons a l ih =>
        intro hl
        rw [List.map_cons, List.sum_cons, ih fun y hy => hl y (List.mem_cons_of_mem _ hy), List.length_cons]
        have : a.length = 1 := hl a (List.mem_cons_self ..)
        omega
    rw [key ys b2, e0]
    omega
  · rw [TL.join_eq]
    exact q _ H1 st1 _ ⟨ys, hy, rfl⟩ o1 x1 e1 (.str _)
/-! ### a comprehension that draws -/
theorem EnvL.set_any {x : Option V} {Γ : List Sl} (h : EnvL K H W σ Γ) : ∀ {j : Nat}, Γ[j]? = some .un → EnvL K H W (σ.set j x) Γ ∧ ows (σ.set j x) Γ = ows σ Γ := by
  induction h with
  | nil => intro j e; simp at e
  | @un y σ Γ h ih =>
    intro j e
    cases j with
    | zero => exact ⟨.un h, by show ows (x :: σ) (.un :: Γ) = _; rw [ows_un, ows_un]⟩
    | succ j =>
      obtain ⟨a, b⟩ := ih (j := j) e
      exact ⟨.un a, by show ows (y :: σ.set j x) (.un :: Γ) = _; rw [ows_un, ows_un, b]⟩
  | @dat v d σ Γ hx h ih =>
    intro j e
    cases j with
    | zero => cases (show some (Sl.dat _) = some _ from e)
    | succ j =>
      obtain ⟨a, b⟩ := ih (j := j) e
      exact ⟨.dat hx a, by show ows (some v :: σ.set j x) (.dat d :: Γ) = _; rw [ows_dat, ows_dat, b]⟩
  | @is v σ Γ h ih =>
    intro j e
    cases j with
    | zero => cases (show some (Sl.is _) = some _ from e)
    | succ j =>
      obtain ⟨a, b⟩ := ih (j := j) e
      exact ⟨.is a, by show ows (some v :: σ.set j x) (.is v :: Γ) = _; rw [ows_is, ows_is, b]⟩
  | @own p q vs ds σ Γ h0 h1 h2 h3 h ih =>
    intro j e
    cases j with
    | zero => cases (show some (Sl.ownP _ _) = some _ from e)
    | succ j =>
      obtain ⟨a, b⟩ := ih (j := j) e
      exact ⟨.own h0 h1 h2 (by rw [b]; exact h3) a, by show ows (some (.ref p) :: σ.set j x) (.ownP q ds :: Γ) = _; rw [ows_own, ows_own, b]⟩
theorem Env.set_any {x : Option V} {Γ : List Sl} {j : Nat} (h : Env J K O H σ Γ) (e : Γ[j]? = some .un) : Env J K O H (σ.set j x) Γ ∧ ows (σ.set j x) Γ = ows σ Γ := by
  obtain ⟨a, b⟩ := h.sl.set_any (x := x) e
  exact ⟨⟨by rw [b]; exact a, by rw [b]; exact h.dis, h.all, h.foot, by rw [b]; exact h.inv⟩, b⟩
theorem env_updD {Γ : List Sl} {Dd : Addr} {ws : List V} (h : Env J K (Dd :: O) H σ Γ) (hf : Dd ∉ J.foot) : Env J K (Dd :: O) (upd H Dd (.lst ws)) σ Γ := by
  have hD : Dd ∈ ows σ Γ ++ Dd :: O := List.mem_append_right _ (List.mem_cons_self ..)
  refine ⟨h.sl.mut (F := [Dd]) (ex_hide_upd (List.mem_singleton.mpr rfl)) (fun a ha => by rw [List.mem_singleton.mp ha]; exact hD) fun p hp z => h.dis p hp (by rw [List.mem_singleton.mp z]; exact List.mem_cons_self ..), h.dis, fun p hp => ?_, h.foot, J.chg hD hf h.inv⟩
  by_cases z : p = Dd
  · rw [z, upd_same]
    simp
  · rw [upd_ne z]
    exact h.all p hp
theorem em_lcR {j : Nat} {A : Int → Prop} {De : PyData → Prop} (hv : ∀ st, (Γ st)[j]? = some .un) (hl : EM J K Γ tn (In A)) (hA : ∀ i, A i → 0 ≤ i ∧ i ≤ 40000)
    (he : ∀ i : Nat, EM J K (fun st => (Γ st).set j (.dat (eN i))) te De) : EM J K Γ (tLc (iRng1 (tCons tn tNil)) (gName j) tYes te [j]) (fun d => ∃ n ds, A n ∧ (ds.length : Int) = n ∧ (∀ x ∈ ds, De x) ∧ d = .list ds) := fun st O σ H e Q q =>
  hl st O σ H e _ fun v H1 st1 d1 g1 o1 x1 e1 r1 => by
    obtain ⟨i1, hi1, rfl⟩ := g1
    obtain ⟨n0, n1⟩ := hA i1 hi1
    rw [dp_int r1]
    refine ⟨i1, rfl, by omega, by omega, fun Dd hD => ?_⟩
    obtain ⟨n, rfl⟩ : ∃ n : Nat, i1 = n := ⟨i1.toNat, by omega⟩
    rw [Int.toNat_natCast]
    have hf : Dd ∉ J.foot := fun z => e1.all Dd (e1.foot Dd z) hD
    have eL := env_news (L := [Dd]) e1 (fun a ha => by rw [List.mem_singleton.mp ha]; exact hD) (Ex.new (o := .lst []) hD) (fun a ha => by rw [List.mem_singleton.mp ha, upd_same]; simp)
    obtain ⟨eW, oW⟩ := eL.set_any (x := none) (hv st1)
    refine lc_range (lo := 0) (n := n) (fun i H' => ∃ (acc : List V) (ds : List PyData) (st2 : St3), H' Dd = some (.lst acc) ∧ DpAll K (hide H' (ows σ (Γ st2) ++ Dd :: O)) acc ds ∧ ds.length = i ∧ (∀ x ∈ ds, De x) ∧ ows σ (Γ st2) = ows σ (Γ st1) ∧ Ex (hide H1 (ows σ (Γ st1))) H' ∧ Env J K (Dd :: O) H' (σ.set j none) (Γ st2))
      ⟨[], [], st1, upd_same, .nil, rfl, by simp, rfl, ex_hide_of (Ex.new hD), eW⟩ (fun i H' hi c => ?_) (fun H' c => ?_)
    · obtain ⟨acc, ds, st2, c1, c2, c3, c4, c5, c6, c7⟩ := c
      have ez : (0 : Int) + (i : Int) = (i : Int) := Int.zero_add _
      rw [ez]
      obtain ⟨s2, _⟩ := c7.setD (.int (i : Int)) j
      have o7 : ows (σ.set j none) (Γ st2) = ows σ (Γ st2) := ows_set_none (hv st2)
      have hu : ows ((σ.set j none).set j (some (.int (i : Int)))) ((Γ st2).set j (.dat (eN i))) = ows (σ.set j none) (Γ st2) := ows_set_un (hv st2)
      refine ⟨?_, ?_⟩
      · show ((σ.set j none).set j (some _)).set j none = σ.set j none
        rw [List.set_set, List.set_set]
      show te _ H' _
      refine he i st2 _ _ _ s2 _ fun y H4 st3 d3 g3 o3 x3 e3 r3 => ?_
      have hu3 : ows ((σ.set j none).set j (some (.int (i : Int)))) ((Γ st3).set j (.dat (eN i))) = ows (σ.set j none) (Γ st3) := ows_set_un (hv st3)
      have o33 : ows (σ.set j none) (Γ st3) = ows σ (Γ st3) := ows_set_none (hv st3)
      have oA : ows σ (Γ st3) = ows σ (Γ st2) := by rw [← o33, ← o7, ← hu, ← hu3]; exact o3
      have nD : Dd ∉ ows σ (Γ st2) := fun z => c7.dis Dd (by rw [o7]; exact z) (List.mem_cons_self ..)
      have x3' : Ex (hide H' (ows σ (Γ st2))) H4 := by rw [hu, o7] at x3; exact x3
      have h4D : H4 Dd = some (.lst acc) := x3' _ _ (by rw [hide_out nD]; exact c1)
      have e3' : Env J K (Dd :: O) H4 (σ.set j none) (Γ st3) := by
        have l : Le ((Γ st3).set j (.dat (eN i))) (Γ st3) := by
          have key : ∀ (l : List Sl) (j : Nat), l[j]? = some .un → Le (l.set j (.dat (eN i))) l := by
            intro l
            induction l with
            | nil => intro j z; simp at z
            | cons a l ih =>
              intro j z
              cases j with
              | zero =>
                cases (show some a = some _ from z)
                exact .un (Le.refl l)
              | succ j => exact .same (ih j z)
          exact key _ _ (hv st3)
        have h1 := (e3.le l).1
        have h2 := (h1.set_any (x := none) (hv st3)).1
        rw [List.set_set, List.set_set] at h2
        exact h2
      refine ⟨acc, h4D, by rw [c2.len, c3]; exact Evl.sz_lt (by omega), acc ++ [y], ds ++ [d3], st3, upd_same, ?_, by rw [List.length_append, c3]; rfl, fun x hx => ?_, oA.trans c5, ?_, env_updD e3' hf⟩
      · rw [hide_upd (List.mem_append_right _ (List.mem_cons_self ..)), oA]
        refine DpAll.append (DpAll.ex c2 (ex_hide_mono (fun a ha => List.mem_append_left _ ha) x3')) (.cons ?_ .nil)
        rw [hu3, o33, oA] at r3
        exact r3
      · rcases List.mem_append.mp hx with hx | hx
        · exact c4 x hx
        · rw [List.mem_singleton.mp hx]
          exact g3
      · have z1 : Ex (hide H1 (ows σ (Γ st1))) H4 := ex_hide_trans c6 (by rw [← c5]; exact x3')
        exact fun a o z => by
          have na : a ≠ Dd := fun y => by
            have := (hide_some z).2
            rw [y, hD] at this
            cases this
          rw [upd_ne na]
          exact z1 a o z
    · obtain ⟨acc, ds, st2, c1, c2, c3, c4, c5, c6, c7⟩ := c
      have o7 : ows (σ.set j none) (Γ st2) = ows σ (Γ st2) := ows_set_none (hv st2)
      have nD : Dd ∉ ows σ (Γ st2) ++ O := fun z => by
        rw [c5] at z
        exact e1.there Dd z hD
      have hj : j < σ.length := by rw [e1.sl.len]; exact (List.getElem?_eq_some_iff.mp (hv st1)).1
      have e9 : Env J K (Dd :: O) H' σ (Γ st2) := by
        have h2 := (c7.set_any (x := σ[j]) (hv st2)).1
        rw [List.set_set, List.set_getElem_self] at h2
        exact h2
      have sub : ∀ a ∈ ows σ (Γ st2) ++ O, a ∈ ows σ (Γ st2) ++ Dd :: O := fun a ha => by
        rcases List.mem_append.mp ha with ha | ha
        · exact List.mem_append_left _ ha
        · exact List.mem_append_right _ (List.mem_cons_of_mem _ ha)
      have e10 : Env J K O H' σ (Γ st2) := ⟨e9.sl.sub sub, fun a ha z => e9.dis a ha (List.mem_cons_of_mem _ z), fun a ha => e9.all a (List.mem_cons_of_mem _ ha), e1.foot, J.sub sub (fun a ha => List.mem_append_right _ (e1.foot a ha)) e9.inv⟩
      refine q (.ref Dd) H' st2 _ ⟨(n : Int), ds, hi1, by rw [c3], c4, rfl⟩ (c5.trans o1) ?_ e10 (.lst (SqL.of (by rw [hide_out nD]; exact c1)) (DpAll.ex c2 (hide_sub sub)))
      exact stepM o1 x1 c6
end
end NwB
end NwL2_
section NwL3_
set_option Elab.async false
set_option linter.all false
set_option maxRecDepth 100000
set_option maxHeartbeats 4000000
namespace NwB
open PySem PySem.Spec PyProof.Rows L2 NwT
open Evl (Ex)
def Pre_names : List PyData → Prop := fun ds => ∃ m : Nat, ds = [eN m] ∧ m ≤ 8
def NameOk (x : Str) : Prop := Ltr x ∧ x.cps.size ≤ 20
def Pr_names : List PyData → PyData → Prop := fun ds d => ∃ (m : Nat) (xs : List Str), ds = [eN m] ∧ xs.length = m ∧ (∀ x ∈ xs, NameOk x) ∧ d = .list (xs.map .str)
def Pre_rooms : List PyData → Prop := fun ds => ∃ n k : Nat, ds = [eN n, eN k] ∧ 1 ≤ n ∧ n ≤ 8 ∧ k < 5
def Pr_rooms : List PyData → PyData → Prop := fun ds d => ∃ (n k : Nat) (rs : List Rat), ds = [eN n, eN k] ∧ rs.length = n ∧ (∀ q ∈ rs, Am2 1 q) ∧ d = eS rs
def Pre_ends : List PyData → Prop := fun ds => ∃ s n k : Nat, ds = [eN s, eN n, eN k] ∧ 2 ≤ n ∧ n ≤ 8 ∧ k ≤ 8
def Pr_ends : List PyData → PyData → Prop := fun ds d => ∃ s n k a b : Nat, ds = [eN s, eN n, eN k] ∧ a < n ∧ b < n ∧ a ≠ b ∧ d = .tuple [eN a, eN b]
theorem shift_ne {n k h : Nat} (h0 : 0 < h) (h1 : h < n) : k % n ≠ (k + h) % n := fun z => by
  have := Nat.sub_mod_eq_zero_of_mod_eq z.symm
  rw [Nat.add_sub_cancel_left, Nat.mod_eq_of_lt h1] at this
  omega
theorem one_am : Am2 1 1 := ⟨1, 1, by decide, by decide, by decide, by decide, by decide +kernel⟩
theorem eQ_one : PyData.tuple [.int 1, .int 1] = eQ 1 := by
  have h1 : (1 : Rat).num = 1 := by decide +kernel
  have h2 : (1 : Rat).den = 1 := by decide +kernel
  unfold eQ
  rw [h1, h2]
  rfl
section
variable {P : Program} {w : World} {J : Ji} {K : PySem.W.Frag} {mg : Str → Option Value} {base : Heap}
theorem sc__law_names : FnScope ["_law_state", "_law_many", "_law_letters", "_law_base", "_law_at", "_law_turn", "_law_k"] ["_law_state", "_law_many"] (defScope s__law_names) := ⟨rfl, rfl, rfl, by decide +kernel, rfl, by decide +kernel, by decide +kernel⟩
theorem has__law_names (T : Tx K mg) (h__law_take : HasX P w K mg base 1 "_law_take" 2 (spS K Pre_take Pr_take)) : HasX P w K mg base 2 "_law_names" 2 (spS K Pre_names Pr_names) := by
  refine has_mkS (N := ["_law_state", "_law_many", "_law_letters", "_law_base", "_law_at", "_law_turn", "_law_k"]) (ps := ["_law_state", "_law_many"]) (k := 1) T.d__law_names sc__law_names (fun _ _ _ _ _ _ us hl => match us, hl with | [_, _], _ => rfl) (fun ds hp => ?_) (fun f cdv A outer s H E hr => ⟨_, (pss_cons (ps_set (i := 2) sc__law_names.nd rfl (Or.inr rfl) pe_str)
  (pss_cons (ps_set (i := 3) sc__law_names.nd rfl (Or.inr rfl) (pe_join pe_str (pe_lc (own := [("_law_k", 6)]) (g := gName 6) rfl sc__law_names.nd (pi_range1 rfl T.range (pa_cons (pe_op op_add pe_int (pe_hasX h__law_take (hr.mono (by decide)) (by rfl) (pa_cons (pv 0) (pa_cons pe_int pa_nil)))) pa_nil)) (blkOk_by (own := [("_law_k", 6)]) (N := ["_law_state", "_law_many", "_law_letters", "_law_base", "_law_at", "_law_turn", "_law_k"]) (sc := (defScope s__law_names)) (by decide +kernel)) (fun _ _ _ _ _ => pg_name (i := 6) sc__law_names.nd rfl (Or.inl rfl)) (fun _ _ _ _ _ => pts_nil) (fun _ _ _ _ _ => by exact (pe_ix (ixK K) (pv 2) (pe_hasX h__law_take (hr.mono (by decide)) (by rfl) (pa_cons (pv 0) (pa_cons pe_int pa_nil))) (fun _ _ => rfl))))))
  (pss_cons (ps_set (i := 4) sc__law_names.nd rfl (Or.inr rfl) (pe_hasX h__law_take (hr.mono (by decide)) (by rfl) (pa_cons (pv 0) (pa_cons (pe_callB call_len_str (by rfl) T.len bb_len (pa_cons (pv 3) pa_nil)) pa_nil))))
  (pss_cons (ps_set (i := 5) sc__law_names.nd rfl (Or.inr rfl) (pe_hasX h__law_take (hr.mono (by decide)) (by rfl) (pa_cons (pv 0) (pa_cons pe_int pa_nil))))
  (pss_one (ps_ret (pe_lc (own := [("_law_k", 6)]) (g := gName 6) rfl sc__law_names.nd (pi_range1 rfl T.range (pa_cons (pv 1) pa_nil)) (blkOk_by (own := [("_law_k", 6)]) (N := ["_law_state", "_law_many", "_law_letters", "_law_base", "_law_at", "_law_turn", "_law_k"]) (sc := (defScope s__law_names)) (by decide +kernel)) (fun _ _ _ _ _ => pg_name (i := 6) sc__law_names.nd rfl (Or.inl rfl)) (fun _ _ _ _ _ => pts_nil) (fun _ _ _ _ _ => by exact (pe_op op_add_str (pe_op op_add_str (pe_slice sl_str (pv 3) po_none (po_some (pv 4))) (pe_ix (ixK K) (pv 2) (pe_op op_mod (pe_op op_add (pv 5) (pv 6)) pe_int) (fun _ _ => rfl))) (pe_slice sl_str (pv 3) (po_some (pe_op op_add (pv 4) pe_int)) po_none)))))))))), ?_⟩)
  · rcases hp with ⟨_, rfl, _⟩
    rfl
  rintro p ds ⟨m, rfl, m8⟩ s3
  refine qd (d := .str abc) ed_str ?_
  refine qm (Γ := fun st => [.ownP (some p) (stD st), .dat (eN m), .dat (.str abc), .un, .un, .un, .un]) (st := s3) (em_join (A := fun ys => 1 ≤ ys.length ∧ ys.length ≤ 8 ∧ ∀ y ∈ ys, Ltr y ∧ y.cps.size = 1) (em_imp (em_lcR (j := 6) (A := fun i => 1 ≤ i ∧ i ≤ 8) (De := fun d => ∃ c ∈ abc.cps.toList, d = .str ⟨#[c]⟩) (fun _ => rfl) (em_opI (A := fun i => i = 1) (em_int rfl) (em_take (m := 8) (fun _ => rfl) (fun _ _ => rfl) (fun _ => ed_int) (by decide) (by decide)) fun i j hi hj => by omega) (fun i hi => by omega) fun i => em_char (z := abc) (by rw [abc_len]; decide) (fun _ => ed_var rfl) (em_imp (em_take (m := 26) (fun _ => rfl) (fun _ _ => rfl) (fun _ => ed_int) (by decide) (by decide)) fun d hd => by rw [abc_len]; exact hd)) fun d hd => ?_) fun ys hy => ⟨by omega, fun y h => (hy.2.2 y h).2⟩) fun s4 d hd => ?_
  · obtain ⟨n, xs, ⟨n1, n2⟩, hl, hx, rfl⟩ := hd
    have key : ∀ xs : List PyData, (∀ x ∈ xs, ∃ c ∈ abc.cps.toList, x = .str ⟨#[c]⟩) → ∃ ys : List Str, xs = ys.map .str ∧ ∀ y ∈ ys, Ltr y ∧ y.cps.size = 1 := by
      intro xs
      induction xs with
      | nil => exact fun _ => ⟨[], rfl, by simp⟩
      | cons x xs ih =>
        intro h
        obtain ⟨ys, e, hy⟩ := ih fun z hz => h z (List.mem_cons_of_mem _ hz)
        obtain ⟨c, hc, rfl⟩ := h x (List.mem_cons_self ..)
        refine ⟨⟨#[c]⟩ :: ys, by rw [e]; rfl, fun y hy' => ?_⟩
        rcases List.mem_cons.mp hy' with rfl | hy'
        · exact ⟨fun c' hc' => by
            have : c' = c := by simpa using hc'
            rw [this]
            exact abc_ltr c hc, rfl⟩
        · exact hy y hy'
    obtain ⟨ys, rfl, hy⟩ := key xs hx
    rw [List.length_map] at hl
    exact ⟨ys, ⟨by omega, by omega, hy⟩, rfl⟩
  obtain ⟨ys, ⟨y1, y2, y3⟩, rfl⟩ := hd
  obtain ⟨zl, zs⟩ := join_ltr ys y3
  generalize hz : Str.join "" ys = z at zl zs ⊢
  have zlen : z.length = ys.length := zs
  refine qm (Γ := fun st => [.ownP (some p) (stD st), .dat (eN m), .dat (.str abc), .dat (.str z), .un, .un, .un]) (st := s4) (em_take (m := z.length) (fun _ => rfl) (fun _ _ => rfl) (fun _ => ed_lenS (by omega) (ed_var rfl)) (by omega) (by omega)) fun s5 d hd => ?_
  obtain ⟨ia, ⟨ia0, ia1⟩, rfl⟩ := hd
  refine qm (Γ := fun st => [.ownP (some p) (stD st), .dat (eN m), .dat (.str abc), .dat (.str z), .dat (.int ia), .un, .un]) (st := s5) (em_take (m := 26) (fun _ => rfl) (fun _ _ => rfl) (fun _ => ed_int) (by decide) (by decide)) fun s6 d hd => ?_
  obtain ⟨it, ⟨it0, it1⟩, rfl⟩ := hd
  have clen : ∀ lo hi, (cutS z lo hi).length ≤ 8 := fun lo hi => Nat.le_trans (cutS_length z lo hi) (by omega)
  have one : ∀ c : Nat, (⟨#[c]⟩ : Str).length = 1 := fun _ => rfl
  have alen : ∀ a b : Str, (a ++ b).length = a.length + b.length := size_app
  refine sg_ret (ed_of_own (own_is (lc_R (vs := [6]) (n := m) (fun _ => true) (fun k => .str (cutS z none (some ia) ++ ⟨#[abc.cps.toList.getD (((it + (k : Int)) % 26).toNat) 0]⟩ ++ cutS z (some (ia + 1)) none)) (fun i hi => by rw [List.mem_singleton.mp hi]; rfl) (by decide) (ea_cons (ed_var rfl) ea_nil) (by omega) (fun _ _ => eb_yes) fun k hk _ => ed_addS ?_ (ed_addS ?_ (ed_cutS (by omega) (ed_var rfl) eo_none (eo_some (ed_var rfl))) (ed_ixS (by rw [abc_len]; decide) (by rw [abc_len]; omega) (ed_var rfl) (ed_is (ed_opC (ed_opI (ed_var rfl) (ed_var rfl)) ed_int (by show (0 : Int) < 26; decide)) (congrArg PyData.int ?_)))) (ed_cutS (by omega) (ed_var rfl) (eo_some (ed_opI (ed_var rfl) ed_int)) eo_none)) (d' := ((List.range m).map fun k : Nat => cutS z none (some ia) ++ ⟨#[abc.cps.toList.getD (((it + (k : Int)) % 26).toNat) 0]⟩ ++ cutS z (some (ia + 1)) none).map .str) ?_)) ⟨s6, _, rfl, rfl, m, _, rfl, ?_, ?_, rfl⟩
  · rw [alen, one]
    have := clen none (some ia)
    have := clen (some (ia + 1)) none
    omega
  · rw [one]
    have := clen none (some ia)
    omega
  · omega
  · rw [told_all, List.map_map]
    rfl
  · rw [List.length_map, List.length_range]
  · intro x hx
    obtain ⟨k, _, rfl⟩ := List.mem_map.mp hx
    have hn : ((it + (k : Int)) % 26).toNat < abc.cps.toList.length := by
      have : abc.cps.toList.length = 26 := by rw [← abc_len]; simp [Str.length]
      omega
    refine ⟨Ltr.app (Ltr.app (zl.cut _ _) fun c hc => ?_) (zl.cut _ _), ?_⟩
    · have : c = abc.cps.toList.getD (((it + (k : Int)) % 26).toNat) 0 := by simpa using hc
      rw [this, List.getD_eq_getElem?_getD, List.getElem?_eq_getElem hn]
      exact abc_ltr _ (List.getElem_mem hn)
    · have h1 := clen none (some ia)
      have h2 := clen (some (ia + 1)) none
      have h3 := alen (cutS z none (some ia) ++ ⟨#[abc.cps.toList.getD (((it + (k : Int)) % 26).toNat) 0]⟩) (cutS z (some (ia + 1)) none)
      have h4 := alen (cutS z none (some ia)) ⟨#[abc.cps.toList.getD (((it + (k : Int)) % 26).toNat) 0]⟩
      rw [one] at h4
      show (_ : Str).length ≤ 20
      omega
theorem em_amount {Γ : St3 → List Sl} {w : Option Addr} {i l k : Nat} {ta tb : TE} {E : XK} (hi : ∀ st, (Γ st)[i]? = some (.ownP w (stD st))) (hs : ∀ st st', (Γ st).set i (.ownP w (stD st')) = Γ st') (ha : ∀ st, ED J K (Γ st) ta (eN l)) (hb : ∀ st, ED J K (Γ st) tb (eN k)) (h0 : l ≤ 1) (h1 : k < 5) :
    EM J K Γ (tCall (spS K Pre_amount Pr_amount) [] E (tCons (tVar i) (tCons ta (tCons tb tNil)))) (fun d => ∃ q, Am2 l q ∧ d = eQ q) :=
  em_imp (em_callS hi hs (fun st => ea_cons (ha st) (ea_cons (hb st) ea_nil)) ⟨l, k, rfl, h0, h1⟩) fun d hd => by
    obtain ⟨l', k', q, e, hq, rfl⟩ := hd
    have e : l = l' := by
      have := (List.cons.inj e).1
      have := PyData.int.inj this
      omega
    subst e
    exact ⟨q, hq, rfl⟩
theorem sc__law_rooms : FnScope ["_law_state", "_law_ties_here", "_law_kind", "_law_alike", "_law_one", "_law_rooms_here", "_law_more"] ["_law_state", "_law_ties_here", "_law_kind"] (defScope s__law_rooms) := ⟨rfl, rfl, rfl, by decide +kernel, rfl, by decide +kernel, by decide +kernel⟩
theorem has__law_rooms (T : Tx K mg) (h__law_amount : HasX P w K mg base 2 "_law_amount" 3 (spS K Pre_amount Pr_amount)) (h__law_take : HasX P w K mg base 1 "_law_take" 2 (spS K Pre_take Pr_take)) : HasX P w K mg base 3 "_law_rooms" 3 (spS K Pre_rooms Pr_rooms) := by
  refine has_mkS (N := ["_law_state", "_law_ties_here", "_law_kind", "_law_alike", "_law_one", "_law_rooms_here", "_law_more"]) (ps := ["_law_state", "_law_ties_here", "_law_kind"]) (k := 2) T.d__law_rooms sc__law_rooms (fun _ _ _ _ _ _ us hl => match us, hl with | [_, _, _], _ => rfl) (fun ds hp => ?_) (fun f cdv A outer s H E hr => ⟨_, (pss_cons (ps_set (i := 3) sc__law_rooms.nd rfl (Or.inl rfl) (pe_hasX h__law_take (hr.mono (by decide)) (by rfl) (pa_cons (pv 0) (pa_cons pe_int pa_nil))))
  (pss_cons (ps_set (i := 4) sc__law_rooms.nd rfl (Or.inl rfl) (pe_hasX h__law_amount (hr.mono (by decide)) (by rfl) (pa_cons (pv 0) (pa_cons pe_int (pa_cons (pv 2) pa_nil)))))
  (pss_cons (ps_if (pt_cmpR (eqK K hr.units) (pv 3) pe_int (nomark _)) (pss_one (ps_set (i := 4) sc__law_rooms.nd rfl (Or.inl rfl) (pe_tup (pa_cons pe_int (pa_cons pe_int pa_nil))))) pss_nil)
  (pss_cons (ps_set (i := 5) sc__law_rooms.nd rfl (Or.inl rfl) (pe_lst (pa_cons (pv 4) pa_nil)))
  (pss_cons (ps_while PassesOwn.never (pt_cmpR op_lt (pe_callB (lenK K) (by rfl) T.len bb_len (pa_cons (pv 5) pa_nil)) (pv 1) (nomark _))
  (pss_cons (ps_set (i := 6) sc__law_rooms.nd rfl (Or.inl rfl) (pe_hasX h__law_amount (hr.mono (by decide)) (by rfl) (pa_cons (pv 0) (pa_cons pe_int (pa_cons (pv 2) pa_nil)))))
  (pss_one (ps_expr (pe_bm PySem.F.plainAttrs_list PySem.F.slot_list_append PySem.F.type_list_append mt_append (pv 5) (pa_cons (pe_ix (ixK K) (pe_lst (pa_cons (pv 4) (pa_cons (pv 6) pa_nil))) (pe_callTy call_int1 (by rfl) T.int bb_int (pa_cons (pe_cmpR (eqK K hr.units) (pv 3) pe_int (nomark _)) pa_nil)) (fun _ _ => rfl)) pa_nil))))))
  (pss_one (ps_ret (pv 5)))))))), ?_⟩)
  · rcases hp with ⟨_, _, rfl, _⟩
    rfl
  rintro p ds ⟨n, k, rfl, n1, n8, hk⟩ s3
  refine qm (Γ := fun st => [.ownP (some p) (stD st), .dat (eN n), .dat (eN k), .un, .un, .un, .un]) (st := s3) (em_take (m := 3) (fun _ => rfl) (fun _ _ => rfl) (fun _ => ed_int) (by decide) (by decide)) fun s4 d hd => ?_
  obtain ⟨al, ⟨al0, al1⟩, rfl⟩ := hd
  refine qm (Γ := fun st => [.ownP (some p) (stD st), .dat (eN n), .dat (eN k), .dat (.int al), .un, .un, .un]) (st := s4) (em_amount (l := 1) (k := k) (fun _ => rfl) (fun _ _ => rfl) (fun _ => ed_int) (fun _ => ed_var rfl) (by decide) hk) fun s5 d hd => ?_
  obtain ⟨q0', hq0, rfl⟩ := hd
  refine sg_seq (N' := fun Γ' => ∃ q, Am2 1 q ∧ Γ' = [.ownP (some p) (stD s5), .dat (eN n), .dat (eN k), .dat (.int al), .dat (eQ q), .un, .un]) (sg_if (b := decide (al = 0)) (eb_test (ed_eqI (ed_var rfl) ed_int)) (fun h => ?_) fun h => ?_) ?_
  · exact sg_asg (d := eQ 1) (ed_is (ed_tup (ea_cons ed_int (ea_cons ed_int ea_nil))) eQ_one) (lq_refl ⟨1, one_am, rfl⟩)
  · exact sg_next (lq_refl ⟨q0', hq0, rfl⟩)
  rintro Γ' ⟨q, hq, rfl⟩
  refine qo (ds := [eQ q]) (own_lst (ea_cons (ed_var rfl) ea_nil)) ?_
  refine sg_seq (N' := fun Γ' => ∃ (st : St3) (rs : List Rat), rs.length = n ∧ (∀ q ∈ rs, Am2 1 q) ∧ Γ' = [.ownP (some p) (stD st), .dat (eN n), .dat (eN k), .dat (.int al), .dat (eQ q), .own (rs.map eQ), .un]) (sg_while (fun m Γ' => ∃ (st : St3) (rs : List Rat), rs.length + m = n ∧ (∀ q ∈ rs, Am2 1 q) ∧ Γ' = [.ownP (some p) (stD st), .dat (eN n), .dat (eN k), .dat (.int al), .dat (eQ q), .own (rs.map eQ), .un]) (n - 1) ⟨_, Le.refl _, s5, [q], by show 1 + (n - 1) = n; omega, fun x hx => by rw [List.mem_singleton.mp hx]; exact hq, rfl⟩ ?_) ?_
  · rintro m Γ' ⟨st, rs, hl, hr2, rfl⟩
    refine ⟨decide (rs.length < n), eb_is (eb_test (ed_opB (ed_lenL (el_own rfl)) (ed_var rfl))) (by rw [List.length_map]; exact decide_eq_decide.mpr (by omega)), fun h => ?_, fun h => ?_⟩
    · have h := of_decide_eq_true h
      refine qm (Γ := fun st => [.ownP (some p) (stD st), .dat (eN n), .dat (eN k), .dat (.int al), .dat (eQ q), .own (rs.map eQ), .un]) (st := st) (em_amount (l := 1) (k := k) (fun _ => rfl) (fun _ _ => rfl) (fun _ => ed_int) (fun _ => ed_var rfl) (by decide) hk) fun s6 d hd => ?_
      obtain ⟨qm', hqm, rfl⟩ := hd
      have fin : ∀ q2, Am2 1 q2 → Lq (Lq fun Γ2 => ∃ m', m' < m ∧ ∃ (st : St3) (rs : List Rat), rs.length + m' = n ∧ (∀ q ∈ rs, Am2 1 q) ∧ Γ2 = [.ownP (some p) (stD st), .dat (eN n), .dat (eN k), .dat (.int al), .dat (eQ q), .own (rs.map eQ), .un]) [.ownP (some p) (stD s6), .dat (eN n), .dat (eN k), .dat (.int al), .dat (eQ q), .own (rs.map eQ ++ [eQ q2]), .dat (eQ qm')] := fun q2 h2 => by
        refine ⟨_, .same (.same (.same (.same (.same (.same (.un .nil)))))), lq_refl ⟨m - 1, by omega, s6, rs ++ [q2], by rw [List.length_append]; show rs.length + 1 + (m - 1) = n; omega, fun x hx => ?_, by rw [List.map_append]; rfl⟩⟩
        rcases List.mem_append.mp hx with hx | hx
        · exact hr2 x hx
        · rw [List.mem_singleton.mp hx]
          exact h2
      by_cases c : al = 2
      · exact sg_app rfl (ed_ixL (el_dat (ed_of_own (own_lst (ea_cons (ed_var rfl) (ea_cons (ed_var rfl) ea_nil))))) (ed_intB (ed_eqI (ed_var rfl) ed_int)) (by rw [decide_eq_true c]; rfl)) (by rw [List.length_map]; omega) (fin qm' hqm)
      · exact sg_app rfl (ed_ixL (el_dat (ed_of_own (own_lst (ea_cons (ed_var rfl) (ea_cons (ed_var rfl) ea_nil))))) (ed_intB (ed_eqI (ed_var rfl) ed_int)) (by rw [decide_eq_false c]; rfl)) (by rw [List.length_map]; omega) (fin q hq)
    · have h := of_decide_eq_false h
      exact lq_refl ⟨st, rs, by omega, hr2, rfl⟩
  · rintro Γ' ⟨st, rs, hl, hr2, rfl⟩
    exact sg_freeze (i := 5) rfl (sg_ret (ed_var rfl) ⟨st, _, rfl, rfl, n, k, rs, rfl, hl, hr2, rfl⟩)
theorem sc__law_ends : FnScope ["_law_state", "_law_shape", "_law_places", "_law_k", "_law_one", "_law_other"] ["_law_state", "_law_shape", "_law_places", "_law_k"] (defScope s__law_ends) := ⟨rfl, rfl, rfl, by decide +kernel, rfl, by decide +kernel, by decide +kernel⟩
theorem has__law_ends (T : Tx K mg) (h__law_take : HasX P w K mg base 1 "_law_take" 2 (spS K Pre_take Pr_take)) : HasX P w K mg base 2 "_law_ends" 4 (spS K Pre_ends Pr_ends) := by
  refine has_mkS (N := ["_law_state", "_law_shape", "_law_places", "_law_k", "_law_one", "_law_other"]) (ps := ["_law_state", "_law_shape", "_law_places", "_law_k"]) (k := 1) T.d__law_ends sc__law_ends (fun _ _ _ _ _ _ us hl => match us, hl with | [_, _, _, _], _ => rfl) (fun ds hp => ?_) (fun f cdv A outer s H E hr => ⟨_, (pss_cons (ps_set (i := 4) sc__law_ends.nd rfl (Or.inl rfl) (pe_hasX h__law_take (hr.mono (by decide)) (by rfl) (pa_cons (pv 0) (pa_cons (pv 2) pa_nil))))
  (pss_cons (ps_set (i := 5) sc__law_ends.nd rfl (Or.inl rfl) (pe_op op_mod (pe_op op_add (pe_op op_add (pv 4) pe_int) (pe_hasX h__law_take (hr.mono (by decide)) (by rfl) (pa_cons (pv 0) (pa_cons (pe_op op_sub (pv 2) pe_int) pa_nil)))) (pv 2)))
  (pss_cons (ps_if (pt_cmpR (eqK K hr.units) (pv 1) pe_int (nomark _)) (pss_one (ps_ret (pe_tup (pa_cons (pe_op op_mod (pv 3) (pv 2)) (pa_cons (pe_op op_mod (pe_op op_add (pv 3) (pe_op op_fdivW (pv 2) pe_int)) (pv 2)) pa_nil))))) pss_nil)
  (pss_cons (ps_if (pt_cmpR (eqK K hr.units) (pv 1) pe_int (nomark _)) (pss_one (ps_ret (pe_tup (pa_cons (pe_op op_mulW (pe_op op_mod (pv 3) pe_int) (pe_op op_sub (pv 2) pe_int)) (pa_cons (pe_op op_mulW (pe_op op_sub pe_int (pe_op op_mod (pv 3) pe_int)) (pe_op op_sub (pv 2) pe_int)) pa_nil))))) pss_nil)
  (pss_cons (ps_if (pt_cmpR (eqK K hr.units) (pv 1) pe_int (nomark _)) (pss_one (ps_ret (pe_tup (pa_cons pe_int (pa_cons (pe_op op_add pe_int (pe_op op_mod (pv 5) (pe_op op_sub (pv 2) pe_int))) pa_nil))))) pss_nil)
  (pss_one (ps_ret (pe_tup (pa_cons (pv 4) (pa_cons (pv 5) pa_nil)))))))))), ?_⟩)
  · rcases hp with ⟨_, _, _, rfl, _⟩
    rfl
  rintro p ds ⟨sh, n, k, rfl, n2, n8, hk⟩ s3
  refine qm (Γ := fun st => [.ownP (some p) (stD st), .dat (eN sh), .dat (eN n), .dat (eN k), .un, .un]) (st := s3) (em_take (m := n) (fun _ => rfl) (fun _ _ => rfl) (fun _ => ed_var rfl) (by omega) (by omega)) fun s4 d hd => ?_
  obtain ⟨ione, ⟨o0, o1⟩, rfl⟩ := hd
  obtain ⟨one, rfl⟩ : ∃ a : Nat, ione = a := ⟨ione.toNat, by omega⟩
  refine qm (Γ := fun st => [.ownP (some p) (stD st), .dat (eN sh), .dat (eN n), .dat (eN k), .dat (eN one), .un]) (st := s4) (D := In fun j => 0 ≤ j ∧ j < n ∧ j ≠ one) (em_opC (A := fun i => one + 1 ≤ i ∧ i < one + n) (B := fun j => j = n) (em_opI (A := fun i => i = one + 1) (em_ed (i := (one : Int) + 1) (fun _ => ed_opI (ed_var rfl) ed_int) rfl) (em_take (m := n - 1) (fun _ => rfl) (fun _ _ => rfl) (fun _ => ed_is (ed_opI (ed_var rfl) ed_int) (congrArg PyData.int (by omega))) (by omega) (by omega)) fun i j hi hj => by omega) (em_ed (i := (n : Nat)) (fun _ => ed_var rfl) rfl) fun i j hi hj => ?_) fun s5 d hd => ?_
  · obtain ⟨h1, h2⟩ := hi
    subst hj
    refine ⟨by show (0 : Int) < (n : Nat); omega, Int.emod_nonneg _ (by omega), Int.emod_lt_of_pos _ (by omega), fun z => ?_⟩
    by_cases c : i < n
    · rw [Int.emod_eq_of_lt (by omega) c] at z
      omega
    · have e : i % (n : Nat) = (i - n) % (n : Nat) := (Int.sub_emod_right i n).symm
      rw [e, Int.emod_eq_of_lt (by omega) (by omega)] at z
      omega
  obtain ⟨iother, ⟨p0, p1, p2⟩, rfl⟩ := hd
  obtain ⟨other, rfl⟩ : ∃ a : Nat, iother = a := ⟨iother.toNat, by omega⟩
  have n0 : (0 : Int) < (n : Nat) := by omega
  have pair : ∀ {Γ : List Sl} {ta tb : TE} {a b : Nat} {x y : Int}, ED J0 K Γ ta (.int x) → ED J0 K Γ tb (.int y) → x = a → y = b → ED J0 K Γ (tTup (tCons ta (tCons tb tNil))) (.tuple [eN a, eN b]) := fun h1 h2 e1 e2 => ed_is (ed_tup (ea_cons h1 (ea_cons h2 ea_nil))) (by rw [e1, e2]; rfl)
  have small : ∀ x : Int, x.natAbs < 100 → x.natAbs < 2 ^ 1000 := fun x h => Nat.lt_of_lt_of_le (show x.natAbs < 2 ^ 7 by omega) (Nat.pow_le_pow_right (by decide) (by decide))
  refine q2 (b := decide (sh = 1)) (eb_is (eb_test (ed_eqI (ed_var rfl) ed_int)) (decide_eq_decide.mpr (by omega))) (fun h => ?_) fun h => ?_
  · refine sg_ret (pair (a := k % n) (b := (k + n / 2) % n) (ed_opC (ed_var rfl) (ed_var rfl) n0) (ed_opC (ed_opI (ed_var rfl) (ed_opC (ed_var rfl) ed_int (wide_div (b := 10) (by decide) (by decide) (by decide) (by decide)))) (ed_var rfl) n0) (by omega) ?_) ⟨s5, _, rfl, rfl, sh, n, k, k % n, (k + n / 2) % n, rfl, Nat.mod_lt _ (by omega), Nat.mod_lt _ (by omega), ?_, rfl⟩
    · rw [Int.natCast_emod, Int.natCast_add, Int.natCast_ediv]
      rfl
    · exact shift_ne (by omega) (by omega)
  refine q2 (b := decide (sh = 2)) (eb_is (eb_test (ed_eqI (ed_var rfl) ed_int)) (decide_eq_decide.mpr (by omega))) (fun h => ?_) fun h => ?_
  · refine sg_ret (pair (a := k % 2 * (n - 1)) (b := (1 - k % 2) * (n - 1)) (ed_opC (ed_opC (ed_var rfl) ed_int (by show (0 : Int) < 2; decide)) (ed_opI (ed_var rfl) ed_int) (mulS (small _ (by omega)) (small _ (by omega)))) (ed_opC (ed_opI ed_int (ed_opC (ed_var rfl) ed_int (by show (0 : Int) < 2; decide))) (ed_opI (ed_var rfl) ed_int) (mulS (small _ (by omega)) (small _ (by omega)))) ?_ ?_) ⟨s5, _, rfl, rfl, sh, n, k, _, _, rfl, ?_, ?_, ?_, rfl⟩
    · rw [Int.natCast_mul, Int.natCast_emod, Int.natCast_sub (by omega)]
      rfl
    · rw [Int.natCast_mul, Int.natCast_sub (by omega), Int.natCast_emod, Int.natCast_sub (by omega)]
      rfl
    · rcases Nat.mod_two_eq_zero_or_one k with e | e <;> rw [e] <;> omega
    · rcases Nat.mod_two_eq_zero_or_one k with e | e <;> rw [e] <;> omega
    · rcases Nat.mod_two_eq_zero_or_one k with e | e <;> rw [e] <;> omega
  refine q2 (b := decide (sh = 3)) (eb_is (eb_test (ed_eqI (ed_var rfl) ed_int)) (decide_eq_decide.mpr (by omega))) (fun h => ?_) fun h => ?_
  · have hm := Nat.mod_lt other (show 0 < n - 1 by omega)
    refine sg_ret (pair (a := 0) (b := 1 + other % (n - 1)) ed_int (ed_opI ed_int (ed_opC (ed_var rfl) (ed_opI (ed_var rfl) ed_int) (by show (0 : Int) < (n : Nat) - 1; omega))) rfl ?_) ⟨s5, _, rfl, rfl, sh, n, k, 0, 1 + other % (n - 1), rfl, by omega, by omega, by omega, rfl⟩
    rw [Int.natCast_add, Int.natCast_emod, Int.natCast_sub (by omega)]
    rfl
  · exact sg_ret (pair (a := one) (b := other) (ed_var rfl) (ed_var rfl) rfl rfl) ⟨s5, _, rfl, rfl, sh, n, k, one, other, rfl, by omega, by omega, by omega, rfl⟩
end
end NwB
end NwL3_
section NwL4_
set_option Elab.async false
set_option linter.all false
set_option maxRecDepth 100000
set_option maxHeartbeats 4000000
namespace NwB
open PySem PySem.Spec PyProof.Rows L2 NwT
open Evl (Ex)
structure AO (n : Nat) (a : Nw.Ask) : Prop where
  ok : Nw.AskOk n a
  am : Am2 0 a.size
  name : NameOk ⟨a.name⟩
/-- a ring that is drawn -/
structure GoodR (R : Nw.Ring) : Prop where
  g : Rg R 27720
  room : ∀ q ∈ R.rooms, Am2 1 q
  ask : ∀ a ∈ R.asks, AO R.n a
theorem GoodR.L {R : Nw.Ring} (h : GoodR R) : RgL R := ⟨27720, h.g, by decide⟩
theorem am_bd {l : Nat} {q : Rat} (hl : l ≤ 1) (h : Am2 l q) : Bd 27720 (2 ^ 41) q ∧ 0 ≤ q ∧ (l = 1 → 0 < q) := by
  obtain ⟨t, b, b0, b1, t0, t1, rfl⟩ := h
  have bp := nat_cast_pos b0
  have e : Rat.divInt (t : Int) (b : Int) = (t : Rat) / (b : Rat) := Rat.divInt_eq_div _ _
  rw [e]
  obtain ⟨c, hc⟩ : ∃ c, 27720 = b * c := by
    have key : ∀ b : Nat, b ≤ 12 → 0 < b → ∃ c, 27720 = b * c := fun b h1 h0 => by
      match b, h1, h0 with
      | 1, _, _ => exact ⟨27720, rfl⟩
      | 2, _, _ => exact ⟨13860, rfl⟩
      | 3, _, _ => exact ⟨9240, rfl⟩
      | 4, _, _ => exact ⟨6930, rfl⟩
      | 5, _, _ => exact ⟨5544, rfl⟩
      | 6, _, _ => exact ⟨4620, rfl⟩
      | 7, _, _ => exact ⟨3960, rfl⟩
      | 8, _, _ => exact ⟨3465, rfl⟩
      | 9, _, _ => exact ⟨3080, rfl⟩
      | 10, _, _ => exact ⟨2772, rfl⟩
      | 11, _, _ => exact ⟨2520, rfl⟩
      | 12, _, _ => exact ⟨2310, rfl⟩
    exact key b b1 b0
  have tn := nat_cast_nonneg (D := t)
  have b1' : (1 : Rat) ≤ (b : Rat) := (show ((1 : Nat) : Rat) ≤ (b : Rat) from Rat.natCast_le_natCast.mpr b0)
  have qt : (t : Rat) / (b : Rat) * (b : Rat) = (t : Rat) := Rat.div_mul_cancel (by grind)
  have q0 : 0 ≤ (t : Rat) / (b : Rat) := Rat.not_lt.mp fun z => by
    have h1 := Rat.mul_lt_mul_of_pos_right z bp
    rw [qt, Rat.zero_mul] at h1
    grind
  have qle : (t : Rat) / (b : Rat) ≤ (t : Rat) := by
    have h1 := Rat.mul_le_mul_of_nonneg_left b1' q0
    rw [qt] at h1
    grind
  have tle : (t : Rat) ≤ ((2 ^ 41 : Nat) : Rat) := Rat.natCast_le_natCast.mpr (Nat.le_trans (show t ≤ 1 + 1000000000000 by omega) (by decide))
  refine ⟨⟨⟨(t * c : Nat), ?_⟩, ?_, by grind⟩, q0, fun h1 => ?_⟩
  · rw [show (((t * c : Nat) : Int) : Rat) = ((t * c : Nat) : Rat) from rfl, Rat.natCast_mul, hc, Rat.natCast_mul]
    have : (t : Rat) / (b : Rat) * ((b : Rat) * (c : Rat)) = ((t : Rat) / (b : Rat) * (b : Rat)) * (c : Rat) := by grind
    rw [this, qt]
  · have := nat_cast_nonneg (D := 2 ^ 41)
    grind
  · have tp : (0 : Rat) < (t : Rat) := nat_cast_pos (by omega)
    refine Rat.not_le.mp fun z => ?_
    have h2 : (t : Rat) / (b : Rat) = 0 := by grind
    rw [h2] at qt
    grind
theorem goodR {rs : List Rat} {as : List Nw.Ask} (h2 : 2 ≤ rs.length) (h8 : rs.length ≤ 8) (m8 : as.length ≤ 8) (hr : ∀ q ∈ rs, Am2 1 q) (ha : ∀ a ∈ as, AO rs.length a) : GoodR ⟨rs, as⟩ := by
  have ra : ∀ i, i < rs.length → Am2 1 (Nw.Ring.room ⟨rs, as⟩ i) := fun i hi => by
    unfold Nw.Ring.room
    rw [List.getD_eq_getElem?_getD, List.getElem?_eq_getElem hi]
    exact hr _ (List.getElem_mem hi)
  have aa : ∀ k, k < as.length → AO rs.length (Nw.Ring.at ⟨rs, as⟩ k) := fun k hk => by
    unfold Nw.Ring.at
    rw [List.getD_eq_getElem?_getD, List.getElem?_eq_getElem hk]
    exact ha _ (List.getElem_mem hk)
  exact ⟨⟨⟨h2, fun i hi => (am_bd (by decide) (ra i hi)).2.2 rfl, fun k hk => (aa k hk).ok⟩, h8, m8, by decide, by decide, fun i hi => (am_bd (by decide) (ra i hi)).1, fun k hk => (am_bd (by decide) (aa k hk).am).1⟩, hr, ha⟩
def Pre_ring : List PyData → Prop := fun ds => ∃ (ns : List Int) (k : Nat), ds = [.list (ns.map .int), eN k, eN 8, eN 8] ∧ k ≤ 10 ∧ ns.length ≤ 1000
def Pr_ring : List PyData → PyData → Prop := fun _ d => ∃ R, GoodR R ∧ d = eRing R
theorem eN_inj {a b : Nat} (h : eN a = eN b) : a = b := by
  have := PyData.int.inj h
  omega
section
variable {P : Program} {w : World} {J : Ji} {K : PySem.W.Frag} {mg : Str → Option Value} {base : Heap}
theorem sc__law_ring : FnScope ["_law_script", "_law_at", "_law_most", "_law_count", "_law_state", "_law_places", "_law_many", "_law_kinds", "_law_shape", "_law_names_here", "_law_rooms_here", "_law_asks", "_law_k", "_law_one", "_law_other"] ["_law_script", "_law_at", "_law_most", "_law_count"] (defScope s__law_ring) := ⟨rfl, rfl, rfl, by decide +kernel, rfl, by decide +kernel, by decide +kernel⟩
theorem has__law_ring (T : Tx K mg) (h__law_amount : HasX P w K mg base 2 "_law_amount" 3 (spS K Pre_amount Pr_amount)) (h__law_begun : Has P w K mg base 1 "_law_begun" 2 P__law_begun) (h__law_ends : HasX P w K mg base 2 "_law_ends" 4 (spS K Pre_ends Pr_ends)) (h__law_names : HasX P w K mg base 2 "_law_names" 2 (spS K Pre_names Pr_names)) (h__law_rooms : HasX P w K mg base 3 "_law_rooms" 3 (spS K Pre_rooms Pr_rooms)) (h__law_take : HasX P w K mg base 1 "_law_take" 2 (spS K Pre_take Pr_take)) : HasX P w K mg base 4 "_law_ring" 4 (spN K Pre_ring Pr_ring) := by
  refine has_mkN (N := ["_law_script", "_law_at", "_law_most", "_law_count", "_law_state", "_law_places", "_law_many", "_law_kinds", "_law_shape", "_law_names_here", "_law_rooms_here", "_law_asks", "_law_k", "_law_one", "_law_other"]) (ps := ["_law_script", "_law_at", "_law_most", "_law_count"]) (k := 3) T.d__law_ring sc__law_ring (fun _ _ _ _ _ _ us hl => match us, hl with | [_, _, _, _], _ => rfl) (fun ds hp => ?_) (fun f cdv A outer s H E hr => ⟨_, (pss_cons (ps_set (i := 4) sc__law_ring.nd rfl (Or.inl rfl) (pe_hasK h__law_begun (hr.mono (by decide)) (by rfl) (pa_cons (pv 0) (pa_cons (pv 1) pa_nil))))
  (pss_cons (ps_set (i := 5) sc__law_ring.nd rfl (Or.inl rfl) (pe_op op_add pe_int (pe_hasX h__law_take (hr.mono (by decide)) (by rfl) (pa_cons (pv 4) (pa_cons (pe_op op_sub (pv 2) pe_int) pa_nil)))))
  (pss_cons (ps_set (i := 6) sc__law_ring.nd rfl (Or.inl rfl) (pe_hasX h__law_take (hr.mono (by decide)) (by rfl) (pa_cons (pv 4) (pa_cons (pe_op op_add (pv 3) pe_int) pa_nil))))
  (pss_cons (ps_set (i := 7) sc__law_ring.nd rfl (Or.inl rfl) (pe_lst (pa_cons (pe_hasX h__law_take (hr.mono (by decide)) (by rfl) (pa_cons (pv 4) (pa_cons pe_int pa_nil))) (pa_cons (pe_hasX h__law_take (hr.mono (by decide)) (by rfl) (pa_cons (pv 4) (pa_cons pe_int pa_nil))) pa_nil))))
  (pss_cons (ps_set (i := 8) sc__law_ring.nd rfl (Or.inl rfl) (pe_hasX h__law_take (hr.mono (by decide)) (by rfl) (pa_cons (pv 4) (pa_cons pe_int pa_nil))))
  (pss_cons (ps_set (i := 9) sc__law_ring.nd rfl (Or.inl rfl) (pe_hasX h__law_names (hr.mono (by decide)) (by rfl) (pa_cons (pv 4) (pa_cons (pv 6) pa_nil))))
  (pss_cons (ps_set (i := 10) sc__law_ring.nd rfl (Or.inl rfl) (pe_hasX h__law_rooms (hr.mono (by decide)) (by rfl) (pa_cons (pe_hasK h__law_begun (hr.mono (by decide)) (by rfl) (pa_cons (pv 0) (pa_cons (pe_op op_add (pv 1) pe_int) pa_nil))) (pa_cons (pv 5) (pa_cons (pe_ix (ixK K) (pv 7) pe_int (fun _ _ => rfl)) pa_nil)))))
  (pss_cons (ps_set (i := 4) sc__law_ring.nd rfl (Or.inl rfl) (pe_hasK h__law_begun (hr.mono (by decide)) (by rfl) (pa_cons (pv 0) (pa_cons (pe_op op_add (pv 1) pe_int) pa_nil))))
  (pss_cons (ps_set (i := 11) sc__law_ring.nd rfl (Or.inl rfl) (pe_lst pa_nil))
  (pss_cons (ps_for PassesOwn.never rfl (pi_range1 rfl T.range (pa_cons (pv 6) pa_nil)) (pg_name (i := 12) sc__law_ring.nd rfl (Or.inl rfl))
  (pss_cons (ps_asg (pe_hasX h__law_ends (hr.mono (by decide)) (by rfl) (pa_cons (pv 4) (pa_cons (pv 8) (pa_cons (pv 5) (pa_cons (pv 12) pa_nil))))) (pg_tupK K rfl (pgs_cons (pg_name (i := 13) sc__law_ring.nd rfl (Or.inl rfl)) (pgs_cons (pg_name (i := 14) sc__law_ring.nd rfl (Or.inl rfl)) pgs_nil))))
  (pss_one (ps_expr (pe_bm PySem.F.plainAttrs_list PySem.F.slot_list_append PySem.F.type_list_append mt_append (pv 11) (pa_cons (pe_tup (pa_cons (pe_ix (ixK K) (pv 9) (pv 12) (fun _ _ => rfl)) (pa_cons (pv 13) (pa_cons (pv 14) (pa_cons (pe_hasX h__law_amount (hr.mono (by decide)) (by rfl) (pa_cons (pv 4) (pa_cons pe_int (pa_cons (pe_ix (ixK K) (pv 7) pe_int (fun _ _ => rfl)) pa_nil)))) pa_nil))))) pa_nil))))))
  (pss_one (ps_ret (pe_tup (pa_cons (pv 10) (pa_cons (pv 11) pa_nil))))))))))))))), ?_⟩)
  · rcases hp with ⟨_, _, rfl, _⟩
    rfl
  rintro ds ⟨ns, k, rfl, hk, hn⟩
  refine qo (ds := stD (begunS ns k)) (eg_call (ea_cons (ed_var rfl) (ea_cons (ed_var rfl) ea_nil)) ⟨ns, k, rfl, by omega, hn, rfl⟩) ?_
  refine qm (Γ := fun st => [.dat (.list (ns.map .int)), .dat (eN k), .dat (eN 8), .dat (eN 8), .own (stD st), .un, .un, .un, .un, .un, .un, .un, .un, .un, .un]) (st := begunS ns k) (D := In fun j => 2 ≤ j ∧ j ≤ 8) (em_opI (A := fun i => i = 2) (em_int rfl) (em_take (m := 7) (fun _ => rfl) (fun _ _ => rfl) (fun _ => ed_is (ed_opI (ed_var rfl) ed_int) rfl) (by decide) (by decide)) fun i j hi hj => by omega) fun s1 d hd => ?_
  obtain ⟨ip, ⟨p0, p1⟩, rfl⟩ := hd
  obtain ⟨n, rfl⟩ : ∃ a : Nat, ip = a := ⟨ip.toNat, by omega⟩
  refine qm (Γ := fun st => [.dat (.list (ns.map .int)), .dat (eN k), .dat (eN 8), .dat (eN 8), .own (stD st), .dat (eN n), .un, .un, .un, .un, .un, .un, .un, .un, .un]) (st := s1) (em_take (m := 9) (fun _ => rfl) (fun _ _ => rfl) (fun _ => ed_is (ed_opI (ed_var rfl) ed_int) rfl) (by decide) (by decide)) fun s2 d hd => ?_
  obtain ⟨im, ⟨m0, m1⟩, rfl⟩ := hd
  obtain ⟨m, rfl⟩ : ∃ a : Nat, im = a := ⟨im.toNat, by omega⟩
  have tk5 : ∀ {Γ : St3 → List Sl} {i : Nat}, (∀ st, (Γ st)[i]? = some (.ownP none (stD st))) → (∀ st st', (Γ st).set i (.ownP none (stD st')) = Γ st') → EM J0 K Γ (tCall (spS K Pre_take Pr_take) [] E0 (tCons (tVar i) (tCons (tC (.int 5)) tNil))) (fun d => ∃ a : Nat, a < 5 ∧ d = eN a) := fun h1 h2 => em_imp (em_take (m := 5) h1 h2 (fun _ => ed_int) (by decide) (by decide)) fun d hd => by
    obtain ⟨i, ⟨i0, i1⟩, rfl⟩ := hd
    exact ⟨i.toNat, by omega, by unfold eN; rw [Int.toNat_of_nonneg i0]⟩
  refine qm (Γ := fun st => [.dat (.list (ns.map .int)), .dat (eN k), .dat (eN 8), .dat (eN 8), .own (stD st), .dat (eN n), .dat (eN m), .un, .un, .un, .un, .un, .un, .un, .un]) (st := s2) (D := fun d => ∃ a b : Nat, a < 5 ∧ b < 5 ∧ d = .list [eN a, eN b]) (em_imp (em_lst (emA_cons (tk5 (fun _ => rfl) (fun _ _ => rfl)) (emA_cons (tk5 (fun _ => rfl) (fun _ _ => rfl)) emA_nil)) fun ds hd => ?_) fun d hd => ?_) fun s3 d hd => ?_
  · obtain ⟨_, _, _, ⟨_, _, _, rfl, rfl⟩, rfl⟩ := hd
    show 2 ≤ 100000
    decide
  · obtain ⟨_, ⟨_, _, ⟨a, ha, rfl⟩, ⟨_, _, ⟨b, hb, rfl⟩, rfl, rfl⟩, rfl⟩, rfl⟩ := hd
    exact ⟨a, b, ha, hb, rfl⟩
  obtain ⟨ka, kb, hka, hkb, rfl⟩ := hd
  refine qm (Γ := fun st => [.dat (.list (ns.map .int)), .dat (eN k), .dat (eN 8), .dat (eN 8), .own (stD st), .dat (eN n), .dat (eN m), .dat (.list [eN ka, eN kb]), .un, .un, .un, .un, .un, .un, .un]) (st := s3) (em_take (m := 6) (fun _ => rfl) (fun _ _ => rfl) (fun _ => ed_int) (by decide) (by decide)) fun s4 d hd => ?_
  obtain ⟨ish, ⟨h0, h1⟩, rfl⟩ := hd
  obtain ⟨sh, rfl⟩ : ∃ a : Nat, ish = a := ⟨ish.toNat, by omega⟩
  refine qm (Γ := fun st => [.dat (.list (ns.map .int)), .dat (eN k), .dat (eN 8), .dat (eN 8), .own (stD st), .dat (eN n), .dat (eN m), .dat (.list [eN ka, eN kb]), .dat (eN sh), .un, .un, .un, .un, .un, .un]) (st := s4) (em_callS (fun _ => rfl) (fun _ _ => rfl) (fun _ => ea_cons (ed_var rfl) ea_nil) (ds := [eN m]) ⟨m, rfl, by omega⟩) fun s5 d hd => ?_
  obtain ⟨m', xs, em, hxl, hxs, rfl⟩ := hd
  obtain rfl := eN_inj (List.cons.inj em).1
  refine qm (Γ := fun st => [.dat (.list (ns.map .int)), .dat (eN k), .dat (eN 8), .dat (eN 8), .own (stD st), .dat (eN n), .dat (eN m), .dat (.list [eN ka, eN kb]), .dat (eN sh), .dat (.list (xs.map .str)), .un, .un, .un, .un, .un]) (st := s5) (em_callF (s0 := begunS ns (k + 1)) (ds := [eN n, eN ka]) (fun _ => eg_call (ea_cons (ed_var rfl) (ea_cons (ed_is (ed_opI (ed_var rfl) ed_int) (d' := eN (k + 1)) rfl) ea_nil)) ⟨ns, k + 1, rfl, by omega, hn, rfl⟩) (fun _ => ea_cons (ed_var rfl) (ea_cons (ed_ixL (el_dat (ed_var rfl)) ed_int rfl) ea_nil)) ⟨n, ka, rfl, by omega, by omega, hka⟩) fun s6 d hd => ?_
  obtain ⟨n', _, rs, en, hrl, hrs, rfl⟩ := hd
  obtain rfl := eN_inj (List.cons.inj en).1
  refine qo (ds := stD (begunS ns (k + 2))) (eg_call (ea_cons (ed_var rfl) (ea_cons (ed_is (ed_opI (ed_var rfl) ed_int) (d' := eN (k + 2)) rfl) ea_nil)) ⟨ns, k + 2, rfl, by omega, hn, rfl⟩) ?_
  refine qo (ds := []) (own_lst ea_nil) ?_
  refine sg_seq (N' := fun Γ' => ∃ (st : St3) (as : List Nw.Ask), as.length = m ∧ (∀ a ∈ as, AO n a) ∧ Γ' = [.dat (.list (ns.map .int)), .dat (eN k), .dat (eN 8), .dat (eN 8), .own (stD st), .dat (eN n), .dat (eN m), .dat (.list [eN ka, eN kb]), .dat (eN sh), .dat (.list (xs.map .str)), .dat (eS rs), .own (as.map eAsk), .un, .un, .un]) (sg_forR (n := m) (fun i Γ' => ∃ (st : St3) (as : List Nw.Ask), as.length = i ∧ (∀ a ∈ as, AO n a) ∧ Γ' = [.dat (.list (ns.map .int)), .dat (eN k), .dat (eN 8), .dat (eN 8), .own (stD st), .dat (eN n), .dat (eN m), .dat (.list [eN ka, eN kb]), .dat (eN sh), .dat (.list (xs.map .str)), .dat (eS rs), .own (as.map eAsk), .un, .un, .un]) (ea_cons (ed_var rfl) ea_nil) (by omega) ⟨_, Le.refl _, begunS ns (k + 2), [], rfl, by simp, rfl⟩ ?_ fun Γ' e => lq_refl e) ?_
  · rintro i Γ' hi ⟨st, as, hal, has, rfl⟩
    refine qm2 (Γ := fun st => [.dat (.list (ns.map .int)), .dat (eN k), .dat (eN 8), .dat (eN 8), .own (stD st), .dat (eN n), .dat (eN m), .dat (.list [eN ka, eN kb]), .dat (eN sh), .dat (.list (xs.map .str)), .dat (eS rs), .own (as.map eAsk), .dat (eN i), .un, .un]) (st := st) (D := fun x y => ∃ a b : Nat, a < n ∧ b < n ∧ a ≠ b ∧ x = eN a ∧ y = eN b) (em_imp (em_callS (fun _ => rfl) (fun _ _ => rfl) (fun _ => ea_cons (ed_var rfl) (ea_cons (ed_var rfl) (ea_cons (ed_var rfl) ea_nil))) (ds := [eN sh, eN n, eN i]) ⟨sh, n, i, rfl, by omega, by omega, by omega⟩) fun d hd => ?_) fun s7 x y hxy => ?_
    · obtain ⟨_, n', _, a, b, en, ha, hb, hab, rfl⟩ := hd
      obtain rfl := eN_inj (List.cons.inj (List.cons.inj en).2).1
      exact ⟨_, _, ⟨a, b, ha, hb, hab, rfl, rfl⟩, rfl⟩
    obtain ⟨a, b, ha, hb, hab, rfl, rfl⟩ := hxy
    have hix : i < xs.length := by omega
    refine sgm_app (Γ := fun st => [.dat (.list (ns.map .int)), .dat (eN k), .dat (eN 8), .dat (eN 8), .own (stD st), .dat (eN n), .dat (eN m), .dat (.list [eN ka, eN kb]), .dat (eN sh), .dat (.list (xs.map .str)), .dat (eS rs), .own (as.map eAsk), .dat (eN i), .dat (eN a), .dat (eN b)]) (st := s7) (D := fun d => ∃ ask : Nw.Ask, AO n ask ∧ d = eAsk ask) (fun _ => rfl) (em_imp (em_tup (emA_cons (D := fun d => d = .str xs[i]) (em_of (fun _ => ed_ixL (el_dat (ed_var rfl)) (ed_var rfl) (atI_at (by rw [List.getElem?_map, List.getElem?_eq_getElem hix]; rfl))) rfl) (emA_cons (D := fun d => d = eN a) (em_of (fun _ => ed_var rfl) rfl) (emA_cons (D := fun d => d = eN b) (em_of (fun _ => ed_var rfl) rfl) (emA_cons (em_amount (l := 0) (k := kb) (fun _ => rfl) (fun _ _ => rfl) (fun _ => ed_int) (fun _ => ed_ixL (el_dat (ed_var rfl)) ed_int rfl) (by decide) hkb) emA_nil)))) fun ds hd => ?_) fun d hd => ?_) (by rw [List.length_map]; omega) fun s8 d hd => ?_
    · obtain ⟨_, _, _, ⟨_, _, _, ⟨_, _, _, ⟨_, _, _, rfl, rfl⟩, rfl⟩, rfl⟩, rfl⟩ := hd
      show 4 ≤ 100000
      decide
    · obtain ⟨_, ⟨_, _, rfl, ⟨_, _, rfl, ⟨_, _, rfl, ⟨_, _, ⟨q, hq, rfl⟩, rfl, rfl⟩, rfl⟩, rfl⟩, rfl⟩, rfl⟩ := hd
      refine ⟨⟨xs[i].cps, a, b, q⟩, ⟨⟨ha, hb, hab, (am_bd (by decide) hq).2.1⟩, hq, ?_⟩, rfl⟩
      exact hxs _ (List.getElem_mem hix)
    · obtain ⟨ask, hask, rfl⟩ := hd
      refine ⟨_, .same (.same (.same (.same (.same (.same (.same (.same (.same (.same (.same (.same (.un (.un (.un .nil)))))))))))))), lq_refl ⟨s8, as ++ [ask], by rw [List.length_append, hal]; rfl, fun x hx => ?_, by rw [List.map_append]; rfl⟩⟩
      rcases List.mem_append.mp hx with hx | hx
      · exact has x hx
      · rw [List.mem_singleton.mp hx]
        exact hask
  · rintro Γ' ⟨st, as, hal, has, rfl⟩
    refine sg_freeze (i := 11) rfl (sg_ret (ed_tup (ea_cons (ed_var rfl) (ea_cons (ed_var rfl) ea_nil))) ⟨_, rfl, ⟨rs, as⟩, goodR (by omega) (by omega) (by omega) hrs (by rw [hrl]; exact has), rfl⟩)
end
end NwB
end NwL4_
section NwL5_
set_option Elab.async false
set_option linter.all false
set_option maxRecDepth 100000
set_option maxHeartbeats 4000000
namespace NwB
open PySem PySem.Spec PyProof.Rows L2 NwT
open Evl (Ex)
def P__law_plus : Pd := P_plus
def P__law_minus : Pd := P_minus
def P__law_under : Pd := P_under
def lTies (n x y : Nat) : List Nat := (List.range ((y + n - x) % n)).map fun s => (x + s) % n
def lw (R : Nw.Ring) (k : Nat) (b : Bool) : List Nat := if b then lTies R.n (R.at k).one (R.at k).other else lTies R.n (R.at k).other (R.at k).one
def P__law_ties : Pd := fun ds r => ∃ (R : Nw.Ring) (k : Nat) (b : Bool), ds = [eRing R, eN k, eW b] ∧ k < R.m ∧ Nw.RingOk R ∧ R.n ≤ 8 ∧ r = .own ((lw R k b).map eN)
def P__law_loads : Pd := P_loads_of
def P__law_parted : Pd := P_parted_in
def P__law_greatest : Pd := fun ds r => ∃ (R : Nw.Ring) (l : List Nat), ds = [eRing R, eNs l] ∧ (∃ D, Rg R D) ∧ (∀ k ∈ l, k < R.m) ∧ r = .dat (eQ (Nw.greatestSize R l))
theorem num_pos_iff (q : Rat) : q.num > 0 ↔ 0 < q := by
  refine ⟨fun h => Rat.not_le.mp fun z => ?_, fun h => rat_num_pos h⟩
  have h1 : 0 ≤ q := Rat.num_nonneg.mp (by omega)
  have h2 : q = 0 := Rat.le_antisymm z h1
  rw [h2] at h
  exact absurd h (by decide +kernel)
theorem eQ_zero : PyData.tuple [.int 0, .int 1] = eQ 0 := rfl
section
variable {R : Nw.Ring}
theorem lTies_next {n x y s : Nat} (hx : x < n) (hy : y < n) (hxy : x ≠ y) (hs : s ≤ (y + n - x) % n) : (x + s) % n = y ↔ s = (y + n - x) % n := by
  have h1 := Nw.mod_back hy hx
  rw [h1] at hs ⊢
  have h2 := Nw.mod_up (n := n) (x := x + s) (by split at hs <;> omega)
  rw [h2]
  split at hs <;> split <;> omega
theorem mem_lw {k i : Nat} {b : Bool} (ok : Nw.RingOk R) (hk : k < R.m) : i ∈ lw R k b ↔ i < R.n ∧ Nw.on R.n (R.at k) i = b := by
  obtain ⟨h1, h2, h3, h4⟩ := id (ok.ask k hk)
  cases b with
  | true => exact Nw.mem_tiesOn (ok.ask k hk)
  | false =>
    have ok2 : Nw.AskOk R.n ⟨(R.at k).name, (R.at k).other, (R.at k).one, (R.at k).size⟩ := ⟨h2, h1, fun z => h3 z.symm, h4⟩
    have e := Nw.mem_tiesOn (i := i) ok2
    refine (show i ∈ lw R k false ↔ _ from e).trans ?_
    constructor
    · rintro ⟨hi, ho⟩
      refine ⟨hi, (Nw.on_false (ok.ask k hk) hi).mpr ?_⟩
      have := (Nw.on_iff ok2 hi).mp ho
      simp only at this
      omega
    · rintro ⟨hi, ho⟩
      refine ⟨hi, (Nw.on_iff ok2 hi).mpr ?_⟩
      have := (Nw.on_false (ok.ask k hk) hi).mp ho
      simp only
      omega
theorem lTies_nodup {n x y : Nat} (hx : x < n) : (lTies n x y).Nodup := by
  have hl := Nat.mod_lt (y + n - x) (show 0 < n by omega)
  unfold lTies List.Nodup
  rw [List.pairwise_map]
  refine List.Pairwise.imp_of_mem (fun {a b} ha hb q => ?_) (List.nodup_range (n := (y + n - x) % n))
  have ha := List.mem_range.mp ha
  have hb := List.mem_range.mp hb
  rw [Nw.mod_up (n := n) (x := x + a) (by omega), Nw.mod_up (n := n) (x := x + b) (by omega)]
  split <;> split <;> omega
theorem lw_nodup {k : Nat} {b : Bool} (ok : Nw.RingOk R) (hk : k < R.m) : (lw R k b).Nodup := by
  obtain ⟨h1, h2, h3, h4⟩ := ok.ask k hk
  cases b with
  | true => exact lTies_nodup h1
  | false => exact lTies_nodup h2
def fl (R : Nw.Ring) (f : Nat → Rat) : List PyData := (List.range R.n).map fun i => eQ (f i)
theorem fl_len {f : Nat → Rat} : (fl R f).length = R.n := by unfold fl; rw [List.length_map, List.length_range]
theorem fl_at {f : Nat → Rat} {i : Nat} (h : i < R.n) : (fl R f)[i]? = some (eQ (f i)) := at_map_range h
theorem fl_cong {f g : Nat → Rat} (h : ∀ i, i < R.n → f i = g i) : fl R f = fl R g := by
  unfold fl
  refine List.map_congr_left fun i hi => ?_
  rw [h i (List.mem_range.mp hi)]
theorem fl_set {f : Nat → Rat} {j : Nat} {x : Rat} (h : j < R.n) : (fl R f).set j (eQ x) = fl R fun i => if i = j then x else f i := by
  refine List.ext_getElem? fun i => ?_
  rw [List.getElem?_set, fl_len]
  by_cases hi : i < R.n
  · rw [fl_at hi, fl_at hi]
    by_cases e : j = i
    · subst e
      rw [if_pos rfl, if_pos h, if_pos rfl]
    · rw [if_neg e, if_neg fun z => e z.symm]
  · rw [if_neg (by omega), List.getElem?_eq_none (by rw [fl_len]; omega), List.getElem?_eq_none (by rw [fl_len]; omega)]
end
section
variable {J : Ji} {K : PySem.W.Frag} {Γ : List Sl} {tl : TE} {t : TS} {N : List Sl → Prop} {Rr : List Sl → Rs → Prop}
/-- over a list of pairs -/
theorem sg_forP {a b : Nat} {ds : List PyData} (x y : Nat → PyData) (hxy : ∀ (i : Nat) (d : PyData), ds[i]? = some d → d = .tuple [x i, y i]) (I : Nat → List Sl → Prop) (h : ED J K Γ tl (.list ds)) (h0 : Lq (I 0) Γ)
    (hs : ∀ i Γ', i < ds.length → I i Γ' → SG J K ((Γ'.set a (.dat (x i))).set b (.dat (y i))) t (Lq (I (i + 1))) Rr) (hd : ∀ Γ', I ds.length Γ' → Lq N Γ') : SG J K Γ (tFor (iList K tl) (gTup K 2 (gCons (gName a) (gCons (gName b) gNil))) t) N Rr := fun B O σ H D s n r =>
  h O σ H s.env _ fun v H1 x1 r1 => by
    obtain ⟨p, vs, rfl, a1, a2⟩ := dp_lst r1
    have s1 := s.mono x1
    have hp : SqL K (lift H1 σ Γ) p vs := Evl.ex_l (by unfold lift; exact hide_sub fun a ha => List.mem_append_left _ ha) a1
    refine ⟨p, rfl, ⟨vs, Evl.ex_l hide_le a1⟩, for_list (xs := vs) (fun i σ' H' => ∃ Γ', I i Γ' ∧ Sb J K (lift H1 σ Γ) O H' σ' Γ') ?_ (fun i σ' H' _ q => ?_) (fun i u σ' H' hx q => ?_) (fun σ' H' q => ?_)⟩
    · obtain ⟨Γ0, l, c⟩ := h0
      exact ⟨Γ0, c, s1.up.le l⟩
    · obtain ⟨Γ', _, s'⟩ := q
      exact Evl.ex_l s'.ex hp
    · obtain ⟨Γ', c, s'⟩ := q
      obtain ⟨d, e1, e2⟩ := a2.get' hx
      obtain rfl := hxy i d e1
      obtain ⟨T, us, rfl, t1, t2⟩ := dp_tup (Dp.ex e2 s'.keep)
      refine ⟨T, us, rfl, Evl.ex_t hide_le t1, t2.len, gn_run (.cons (.cons .nil)) s' t2 rfl fun σ3 s3 => ?_⟩
      refine hs i Γ' (List.getElem?_eq_some_iff.mp e1).1 c (lift H1 σ Γ) O _ _ _ s3 (fun Γ2 σ2 H2 ⟨Γ3, l, c2⟩ s2 => ⟨Γ3, c2, s2.le l⟩) fun v H2 σ2 Γ2 r2 hr s2 rd => ?_
      exact r v H2 σ2 Γ2 r2 hr (s2.base s1.lifted) (rd_back s1.lifted rd)
    · obtain ⟨Γ', c, s'⟩ := q
      rw [a2.len] at c
      obtain ⟨Γ2, l, c2⟩ := hd Γ' c
      exact n Γ2 σ' H' c2 ((s'.base s1.lifted).le l)
end
section
variable {P : Program} {w : World} {J : Ji} {K : PySem.W.Frag} {mg : Str → Option Value} {base : Heap}
theorem zn (q : Rat) (z : Z q) : q.num.natAbs < 2 ^ 1000 := z.num
theorem zd (q : Rat) (z : Z q) : ((q.den : Int)).natAbs < 2 ^ 1000 := by rw [Int.natAbs_natCast]; exact z.den
theorem den_prod {a b : Rat} (z1 : Z a) (z2 : Z b) : 0 < (a.den : Int) * (b.den : Int) ∧ ((a.den : Int) * (b.den : Int)).natAbs < 2 ^ 3000 := by
  refine ⟨Int.mul_pos (den_pos' a) (den_pos' b), Nat.lt_trans (wide_lt (zd a z1) (zd b z2)) (Nat.pow_lt_pow_right (by decide) (by decide))⟩
theorem sc__law_plus : FnScope ["_law_one", "_law_other"] ["_law_one", "_law_other"] (defScope s__law_plus) := ⟨rfl, rfl, rfl, by decide +kernel, rfl, by decide +kernel, by decide +kernel⟩
theorem has__law_plus (T : Tx K mg) (h__law_low : Has P w K mg base 1 "_law_low" 2 P__law_low) : Has P w K mg base 2 "_law_plus" 2 P__law_plus := by
  refine has_mk (N := ["_law_one", "_law_other"]) (ps := ["_law_one", "_law_other"]) (k := 1) T.d__law_plus sc__law_plus (fun _ _ _ _ _ _ us hl => match us, hl with | [_, _], _ => rfl) (fun ds r hp => ?_) (fun f cdv A outer s H E hr => ⟨_, (pss_one (ps_ret (pe_hasK h__law_low (hr.mono (by decide)) (by rfl) (pa_cons (pe_op op_add (pe_op op_mulW (pe_ix (ixK K) (pv 0) pe_int (fun _ _ => rfl)) (pe_ix (ixK K) (pv 1) pe_int (fun _ _ => rfl))) (pe_op op_mulW (pe_ix (ixK K) (pv 1) pe_int (fun _ _ => rfl)) (pe_ix (ixK K) (pv 0) pe_int (fun _ _ => rfl)))) (pa_cons (pe_op op_mulW (pe_ix (ixK K) (pv 0) pe_int (fun _ _ => rfl)) (pe_ix (ixK K) (pv 1) pe_int (fun _ _ => rfl))) pa_nil))))), ?_⟩)
  · rcases hp with ⟨_, _, rfl, _⟩
    rfl
  rintro ds r ⟨a, b, rfl, z1, z2, rfl⟩
  obtain ⟨d1, d2⟩ := den_prod z1 z2
  refine sg_ret (ed_is (eg_call (ea_cons (ed_opI (ed_opC (ed_ixT (ed_var rfl) ed_int rfl) (ed_ixT (ed_var rfl) ed_int rfl) (mulS (zn a z1) (zd b z2))) (ed_opC (ed_ixT (ed_var rfl) ed_int rfl) (ed_ixT (ed_var rfl) ed_int rfl) (mulS (zn b z2) (zd a z1)))) (ea_cons (ed_opC (ed_ixT (ed_var rfl) ed_int rfl) (ed_ixT (ed_var rfl) ed_int rfl) (mulS (zd a z1) (zd b z2))) ea_nil)) ⟨_, _, rfl, d1, d2, rfl⟩) ?_) rfl
  rw [frac_add]
theorem sc__law_minus : FnScope ["_law_one", "_law_other"] ["_law_one", "_law_other"] (defScope s__law_minus) := ⟨rfl, rfl, rfl, by decide +kernel, rfl, by decide +kernel, by decide +kernel⟩
theorem has__law_minus (T : Tx K mg) (h__law_low : Has P w K mg base 1 "_law_low" 2 P__law_low) : Has P w K mg base 2 "_law_minus" 2 P__law_minus := by
  refine has_mk (N := ["_law_one", "_law_other"]) (ps := ["_law_one", "_law_other"]) (k := 1) T.d__law_minus sc__law_minus (fun _ _ _ _ _ _ us hl => match us, hl with | [_, _], _ => rfl) (fun ds r hp => ?_) (fun f cdv A outer s H E hr => ⟨_, (pss_one (ps_ret (pe_hasK h__law_low (hr.mono (by decide)) (by rfl) (pa_cons (pe_op op_sub (pe_op op_mulW (pe_ix (ixK K) (pv 0) pe_int (fun _ _ => rfl)) (pe_ix (ixK K) (pv 1) pe_int (fun _ _ => rfl))) (pe_op op_mulW (pe_ix (ixK K) (pv 1) pe_int (fun _ _ => rfl)) (pe_ix (ixK K) (pv 0) pe_int (fun _ _ => rfl)))) (pa_cons (pe_op op_mulW (pe_ix (ixK K) (pv 0) pe_int (fun _ _ => rfl)) (pe_ix (ixK K) (pv 1) pe_int (fun _ _ => rfl))) pa_nil))))), ?_⟩)
  · rcases hp with ⟨_, _, rfl, _⟩
    rfl
  rintro ds r ⟨a, b, rfl, z1, z2, rfl⟩
  obtain ⟨d1, d2⟩ := den_prod z1 z2
  refine sg_ret (ed_is (eg_call (ea_cons (ed_opI (ed_opC (ed_ixT (ed_var rfl) ed_int rfl) (ed_ixT (ed_var rfl) ed_int rfl) (mulS (zn a z1) (zd b z2))) (ed_opC (ed_ixT (ed_var rfl) ed_int rfl) (ed_ixT (ed_var rfl) ed_int rfl) (mulS (zn b z2) (zd a z1)))) (ea_cons (ed_opC (ed_ixT (ed_var rfl) ed_int rfl) (ed_ixT (ed_var rfl) ed_int rfl) (mulS (zd a z1) (zd b z2))) ea_nil)) ⟨_, _, rfl, d1, d2, rfl⟩) ?_) rfl
  rw [frac_sub]
theorem sc__law_under : FnScope ["_law_one", "_law_other"] ["_law_one", "_law_other"] (defScope s__law_under) := ⟨rfl, rfl, rfl, by decide +kernel, rfl, by decide +kernel, by decide +kernel⟩
theorem has__law_under (T : Tx K mg) : Has P w K mg base 1 "_law_under" 2 P__law_under := by
  refine has_mk (N := ["_law_one", "_law_other"]) (ps := ["_law_one", "_law_other"]) (k := 0) T.d__law_under sc__law_under (fun _ _ _ _ _ _ us hl => match us, hl with | [_, _], _ => rfl) (fun ds r hp => ?_) (fun f cdv A outer s H E hr => ⟨_, (pss_one (ps_ret (pe_cmpR op_lt (pe_op op_mulW (pe_ix (ixK K) (pv 0) pe_int (fun _ _ => rfl)) (pe_ix (ixK K) (pv 1) pe_int (fun _ _ => rfl))) (pe_op op_mulW (pe_ix (ixK K) (pv 1) pe_int (fun _ _ => rfl)) (pe_ix (ixK K) (pv 0) pe_int (fun _ _ => rfl))) (nomark _)))), ?_⟩)
  · rcases hp with ⟨_, _, rfl, _⟩
    rfl
  rintro ds r ⟨a, b, rfl, z1, z2, rfl⟩
  refine sg_ret (ed_is (ed_opB (ed_opC (ed_ixT (ed_var rfl) ed_int rfl) (ed_ixT (ed_var rfl) ed_int rfl) (mulS (zn a z1) (zd b z2))) (ed_opC (ed_ixT (ed_var rfl) ed_int rfl) (ed_ixT (ed_var rfl) ed_int rfl) (mulS (zn b z2) (zd a z1)))) ?_) rfl
  exact congrArg PyData.bool (decide_eq_decide.mpr (frac_lt a b))
theorem sc__law_ties : FnScope ["_law_ring_here", "_law_k", "_law_way", "_law_name", "_law_one", "_law_other", "_law_size", "_law_ties_here"] ["_law_ring_here", "_law_k", "_law_way"] (defScope s__law_ties) := ⟨rfl, rfl, rfl, by decide +kernel, rfl, by decide +kernel, by decide +kernel⟩
theorem has__law_ties (T : Tx K mg) : Has P w K mg base 1 "_law_ties" 3 P__law_ties := by
  refine has_mk (N := ["_law_ring_here", "_law_k", "_law_way", "_law_name", "_law_one", "_law_other", "_law_size", "_law_ties_here"]) (ps := ["_law_ring_here", "_law_k", "_law_way"]) (k := 0) T.d__law_ties sc__law_ties (fun _ _ _ _ _ _ us hl => match us, hl with | [_, _, _], _ => rfl) (fun ds r hp => ?_) (fun f cdv A outer s H E hr => ⟨_, (pss_cons (ps_asg (pe_ix (ixK K) (pe_ix (ixK K) (pv 0) pe_int (fun _ _ => rfl)) (pv 1) (fun _ _ => rfl)) (pg_tupK K rfl (pgs_cons (pg_name (i := 3) sc__law_ties.nd rfl (Or.inl rfl)) (pgs_cons (pg_name (i := 4) sc__law_ties.nd rfl (Or.inl rfl)) (pgs_cons (pg_name (i := 5) sc__law_ties.nd rfl (Or.inl rfl)) (pgs_cons (pg_name (i := 6) sc__law_ties.nd rfl (Or.inl rfl)) pgs_nil))))))
  (pss_cons (ps_if (pt_cmpR (eqK K hr.units) (pv 2) pe_str (nomark _)) (pss_one (ps_par (i := 4) (j := 5) (by rfl) sc__law_ties.nd rfl rfl (by decide) rfl rfl (pa_cons (pv 5) (pa_cons (pv 4) pa_nil)) (by rfl))) pss_nil)
  (pss_cons (ps_set (i := 7) sc__law_ties.nd rfl (Or.inl rfl) (pe_lst pa_nil))
  (pss_cons (ps_while PassesOwn.never (pt_cmpR (neK K hr.units) (pv 4) (pv 5) (nomark _))
  (pss_cons (ps_expr (pe_bm PySem.F.plainAttrs_list PySem.F.slot_list_append PySem.F.type_list_append mt_append (pv 7) (pa_cons (pv 4) pa_nil)))
  (pss_one (ps_set (i := 4) sc__law_ties.nd rfl (Or.inl rfl) (pe_op op_mod (pe_op op_add (pv 4) pe_int) (pe_callB (lenK K) (by rfl) T.len bb_len (pa_cons (pe_ix (ixK K) (pv 0) pe_int (fun _ _ => rfl)) pa_nil)))))))
  (pss_one (ps_ret (pv 7))))))), ?_⟩)
  · rcases hp with ⟨_, _, _, rfl, _⟩
    rfl
  rintro ds r ⟨R, k, b, rfl, hk, ok, n8, rfl⟩
  obtain ⟨o1, o2, o3, _⟩ := ok.ask k hk
  refine qu (is := [3, 4, 5, 6]) (ds := [.str ⟨(R.at k).name⟩, .int ((R.at k).one : Nat), .int ((R.at k).other : Nat), eQ (R.at k).size]) (.cons (.cons (.cons (.cons .nil)))) (ed_ask (ed_var rfl) (ed_var rfl) hk) ?_
  obtain ⟨x, y, hx, hy, hxy, e⟩ : ∃ x y : Nat, x < R.n ∧ y < R.n ∧ x ≠ y ∧ lw R k b = lTies R.n x y ∧ x = (if b then (R.at k).one else (R.at k).other) ∧ y = (if b then (R.at k).other else (R.at k).one) := by
    cases b
    · exact ⟨_, _, o2, o1, fun z => o3 z.symm, rfl, rfl, rfl⟩
    · exact ⟨_, _, o1, o2, o3, rfl, rfl, rfl⟩
  obtain ⟨e, ex, ey⟩ := e
  refine sg_seq (N' := fun Γ' => Γ' = [.dat (eRing R), .dat (eN k), .dat (eW b), .un, .dat (eN x), .dat (eN y), .un, .un]) (sg_if (b := !b) (eb_is (eb_test (ed_eqS (i := wS b) (j := "back") (ed_var rfl) ed_str)) (by cases b <;> decide)) (fun h => ?_) fun h => ?_) ?_
  · have hb : b = false := by simpa using h
    subst hb
    have ex : x = (R.at k).other := ex
    have ey : y = (R.at k).one := ey
    subst ex ey
    exact sg_par (d := eN (R.at k).other) (e := eN (R.at k).one) (ea_cons (ed_var rfl) (ea_cons (ed_var rfl) ea_nil)) ⟨_, .same (.same (.same (.un (.same (.same (.un (.un .nil))))))), rfl⟩
  · have hb : b = true := by simpa using h
    subst hb
    have ex : x = (R.at k).one := ex
    have ey : y = (R.at k).other := ey
    subst ex ey
    exact sg_next ⟨_, .same (.same (.same (.un (.same (.same (.un (.un .nil))))))), rfl⟩
  rintro Γ' rfl
  refine qo (ds := []) (own_lst ea_nil) ?_
  have lm := Nat.mod_lt (y + R.n - x) (show 0 < R.n by omega)
  refine sg_seq (N' := fun Γ' => ∃ z, Γ' = [.dat (eRing R), .dat (eN k), .dat (eW b), .un, z, .dat (eN y), .un, .own ((lTies R.n x y).map eN)]) (sg_while (fun m Γ' => ∃ s, s + m = (y + R.n - x) % R.n ∧ Γ' = [.dat (eRing R), .dat (eN k), .dat (eW b), .un, .dat (eN ((x + s) % R.n)), .dat (eN y), .un, .own ((List.range s).map fun s => eN ((x + s) % R.n))]) ((y + R.n - x) % R.n) ⟨_, Le.refl _, 0, by omega, by rw [Nat.add_zero, Nat.mod_eq_of_lt hx]; rfl⟩ ?_) ?_
  · rintro m Γ' ⟨s, hs, rfl⟩
    have nx := lTies_next hx hy hxy (show s ≤ (y + R.n - x) % R.n by omega)
    refine ⟨!decide ((x + s) % R.n = y), eb_is (eb_test (ed_neI (ed_var rfl) (ed_var rfl))) (congrArg not (decide_eq_decide.mpr (by omega))), fun h => ?_, fun h => ?_⟩
    · have h' : (x + s) % R.n ≠ y := by simpa using h
      have hsl : s ≠ (y + R.n - x) % R.n := fun z => h' (nx.mpr z)
      refine sg_seq (N' := fun Γ' => Γ' = [.dat (eRing R), .dat (eN k), .dat (eW b), .un, .dat (eN ((x + s) % R.n)), .dat (eN y), .un, .own (((List.range s).map fun s => eN ((x + s) % R.n)) ++ [eN ((x + s) % R.n)])]) (sg_app rfl (ed_var rfl) (by rw [List.length_map, List.length_range]; omega) (lq_refl rfl)) ?_
      rintro Γ' rfl
      refine sg_asg (d := eN ((x + (s + 1)) % R.n)) (ed_is (ed_opC (ed_opI (ed_var rfl) ed_int) (ed_n (ed_var rfl)) (by show (0 : Int) < (R.n : Nat); omega)) ?_) (lq_refl (lq_refl ⟨m - 1, by omega, s + 1, by omega, ?_⟩))
      · refine congrArg PyData.int ?_
        have e2 : (x + (s + 1)) % R.n = ((x + s) % R.n + 1) % R.n := by rw [Nat.mod_add_mod, Nat.add_assoc]
        rw [e2, Int.natCast_emod ((x + s) % R.n + 1), Int.natCast_add]
        rfl
      · rw [List.range_succ, List.map_append]
        rfl
    · have h' : (x + s) % R.n = y := by simpa using h
      have := nx.mp h'
      refine lq_refl ⟨.dat (eN ((x + s) % R.n)), ?_⟩
      unfold lTies
      rw [← this, List.map_map]
      rfl
  · rintro Γ' ⟨z, rfl⟩
    rw [e]
    exact sg_retO rfl rfl
theorem sc__law_loads : FnScope ["_law_ring_here", "_law_sending", "_law_loads_here", "_law_k", "_law_part", "_law_way", "_law_gone", "_law_tie"] ["_law_ring_here", "_law_sending"] (defScope s__law_loads) := ⟨rfl, rfl, rfl, by decide +kernel, rfl, by decide +kernel, by decide +kernel⟩
theorem has__law_loads (T : Tx K mg) (h__law_minus : Has P w K mg base 2 "_law_minus" 2 P__law_minus) (h__law_plus : Has P w K mg base 2 "_law_plus" 2 P__law_plus) (h__law_ties : Has P w K mg base 1 "_law_ties" 3 P__law_ties) : Has P w K mg base 3 "_law_loads" 2 P__law_loads := by
  refine has_mk (N := ["_law_ring_here", "_law_sending", "_law_loads_here", "_law_k", "_law_part", "_law_way", "_law_gone", "_law_tie"]) (ps := ["_law_ring_here", "_law_sending"]) (k := 2) T.d__law_loads sc__law_loads (fun _ _ _ _ _ _ us hl => match us, hl with | [_, _], _ => rfl) (fun ds r hp => ?_) (fun f cdv A outer s H E hr => ⟨_, (pss_cons (ps_set (i := 2) sc__law_loads.nd rfl (Or.inl rfl) (pe_op op_rep (pe_lst (pa_cons (pe_tup (pa_cons pe_int (pa_cons pe_int pa_nil))) pa_nil)) (pe_callB (lenK K) (by rfl) T.len bb_len (pa_cons (pe_ix (ixK K) (pv 0) pe_int (fun _ _ => rfl)) pa_nil))))
  (pss_cons (ps_for PassesOwn.never rfl (pi_enumK K (by rfl) T.enumerate (pa_cons (pv 1) pa_nil)) (pg_tupK K rfl (pgs_cons (pg_name (i := 3) sc__law_loads.nd rfl (Or.inl rfl)) (pgs_cons (pg_name (i := 4) sc__law_loads.nd rfl (Or.inl rfl)) pgs_nil)))
  (pss_one (ps_for PassesOwn.never rfl (pi_listK K (pe_lst (pa_cons (pe_tup (pa_cons pe_str (pa_cons (pv 4) pa_nil))) (pa_cons (pe_tup (pa_cons pe_str (pa_cons (pe_hasK h__law_minus (hr.mono (by decide)) (by rfl) (pa_cons (pe_ix (ixK K) (pe_ix (ixK K) (pe_ix (ixK K) (pv 0) pe_int (fun _ _ => rfl)) (pv 3) (fun _ _ => rfl)) pe_int (fun _ _ => rfl)) (pa_cons (pv 4) pa_nil))) pa_nil))) pa_nil)))) (pg_tupK K rfl (pgs_cons (pg_name (i := 5) sc__law_loads.nd rfl (Or.inl rfl)) (pgs_cons (pg_name (i := 6) sc__law_loads.nd rfl (Or.inl rfl)) pgs_nil)))
  (pss_one (ps_for PassesOwn.never rfl (pi_listK K (pe_hasK h__law_ties (hr.mono (by decide)) (by rfl) (pa_cons (pv 0) (pa_cons (pv 3) (pa_cons (pv 5) pa_nil))))) (pg_name (i := 7) sc__law_loads.nd rfl (Or.inl rfl))
  (pss_one (ps_asg (pe_hasK h__law_plus (hr.mono (by decide)) (by rfl) (pa_cons (pe_ix (ixK K) (pv 2) (pv 7) (fun _ _ => rfl)) (pa_cons (pv 6) pa_nil))) (pg_sub (pv 2) (pv 7) set_list))))))))
  (pss_one (ps_ret (pv 2))))), ?_⟩)
  · rcases hp with ⟨_, _, rfl, _⟩
    rfl
  rintro ds r ⟨R, s, rfl, ⟨D, g, ws⟩, rfl⟩
  have sl : s.length = R.m := ws.ok.len
  have n8 := g.n8
  refine qo (ds := List.replicate R.n (eQ 0)) (own_rep (own_lst (ea_cons (ed_is (ed_tup (ea_cons ed_int (ea_cons ed_int ea_nil))) eQ_zero) ea_nil)) (ed_n (ed_var rfl)) (by omega)) ?_
  have e0 : List.replicate R.n (eQ 0) = fl R (ldAt R s 0) := by
    refine List.ext_getElem? fun i => ?_
    by_cases hi : i < R.n
    · rw [fl_at hi, List.getElem?_replicate, if_pos hi]
      rfl
    · rw [List.getElem?_eq_none (by rw [List.length_replicate]; omega), List.getElem?_eq_none (by rw [fl_len]; omega)]
  rw [e0]
  refine sg_seq (N' := fun Γ' => Γ' = [.dat (eRing R), .dat (eS s), .own (fl R (ldAt R s R.m)), .un, .un, .un, .un, .un]) (sg_forE (fun k Γ' => Γ' = [.dat (eRing R), .dat (eS s), .own (fl R (ldAt R s k)), .un, .un, .un, .un, .un]) (ed_var rfl) ⟨_, Le.refl _, rfl⟩ ?_ ?_) ?_
  · rintro k d Γ' hd rfl
    obtain ⟨hk, rfl⟩ := pt_at hd
    have hk : k < R.m := by omega
    have zp := g.z (ws.bd g hk)
    have zr := g.z (ws.rest g hk)
    let gv : Nat → Rat := fun i => if i = 0 then Nw.pt s k else (R.at k).size - Nw.pt s k
    let wv : Nat → Bool := fun i => decide (i = 0)
    let fw : Nat → Nat → Rat := fun w i => if w = 0 then ldAt R s k i else if w = 1 then ldAt R s k i + (if Nw.on R.n (R.at k) i then Nw.pt s k else 0) else ldAt R s (k + 1) i
    refine sg_forP (ds := [.tuple [eW true, eQ (Nw.pt s k)], .tuple [eW false, eQ ((R.at k).size - Nw.pt s k)]]) (fun i => eW (wv i)) (fun i => eQ (gv i)) ?_ (fun w Γ' => Γ' = [.dat (eRing R), .dat (eS s), .own (fl R (fw w)), .dat (eN k), .dat (eQ (Nw.pt s k)), .un, .un, .un]) (ed_of_own (own_lst (ea_cons (ed_tup (ea_cons ed_str (ea_cons (ed_var rfl) ea_nil))) (ea_cons (ed_tup (ea_cons ed_str (ea_cons (eg_call (ea_cons (ed_size (ed_var rfl) (ed_var rfl) hk) (ea_cons (ed_var rfl) ea_nil)) ⟨_, _, rfl, g.z (g.size k hk), zp, rfl⟩) ea_nil))) ea_nil)))) ⟨_, Le.refl _, rfl⟩ ?_ ?_
    · intro i d hd
      match i, hd with
      | 0, hd => cases hd; rfl
      | 1, hd => cases hd; rfl
    · rintro w Γ' hw rfl
      have hw : w < 2 := hw
      have zg : Z (gv w) := by
        show Z (if w = 0 then _ else _)
        split
        · exact zp
        · exact zr
      have mem : ∀ i, i ∈ lw R k (wv w) ↔ i < R.n ∧ Nw.on R.n (R.at k) i = wv w := fun i => mem_lw g.ok hk
      have nd := lw_nodup (b := wv w) g.ok hk
      have zf : ∀ i, i ∈ lw R k (wv w) → Z (fw w i) := fun i hi => by
        have h1 := ((mem i).mp hi).2
        have lb := ws.load g (show k ≤ R.m by omega) i
        show Z (if w = 0 then _ else _)
        by_cases c : w = 0
        · rw [if_pos c]
          exact g.z lb
        · rw [if_neg c, if_pos (by omega)]
          have : wv w = false := decide_eq_false c
          rw [h1, this, if_neg (by decide)]
          have e : ldAt R s k i + 0 = ldAt R s k i := by grind
          rw [e]
          exact g.z lb
      refine sg_forL (ds := (lw R k (wv w)).map eN) (fun j Γ' => Γ' = [.dat (eRing R), .dat (eS s), .own (fl R fun i => if i ∈ (lw R k (wv w)).take j then fw w i + gv w else fw w i), .dat (eN k), .dat (eQ (Nw.pt s k)), .dat (eW (wv w)), .dat (eQ (gv w)), .un]) (ed_of_own (eg_call (ea_cons (ed_var rfl) (ea_cons (ed_var rfl) (ea_cons (ed_var rfl) ea_nil))) ⟨R, k, wv w, rfl, hk, g.ok, n8, rfl⟩)) ⟨_, Le.refl _, ?_⟩ ?_ ?_
      · show [Sl.dat (eRing R), .dat (eS s), .own (fl R (fw w)), .dat (eN k), .dat (eQ (Nw.pt s k)), .dat (eW (wv w)), .dat (eQ (gv w)), .un] = _
        rw [fl_cong (f := fun i => if i ∈ (lw R k (wv w)).take 0 then fw w i + gv w else fw w i) (g := fw w) fun i _ => if_neg (by simp)]
      · rintro j d Γ' hd rfl
        obtain ⟨tie, ht, rfl⟩ := map_at hd
        have htm := List.mem_of_getElem? ht
        have htn := ((mem tie).mp htm).1
        have hnt : tie ∉ (lw R k (wv w)).take j := fun z => by
          have h1 : (lw R k (wv w)).take (j + 1) = (lw R k (wv w)).take j ++ [tie] := take_next ht
          have h2 : ((lw R k (wv w)).take (j + 1)).Nodup := List.Nodup.sublist (List.take_sublist _ _) nd
          rw [h1, List.nodup_append] at h2
          exact h2.2.2 tie z tie (by simp) rfl
        refine sg_put (j := tie) (d := eQ (fw w tie + gv w)) (eg_call (ea_cons (ed_ixL (el_own rfl) (ed_var rfl) (atI_at (by rw [fl_at htn, if_neg hnt]))) (ea_cons (ed_var rfl) ea_nil)) ⟨_, _, rfl, zf tie htm, zg, rfl⟩) rfl (ed_var rfl) (by rw [fl_len]; exact htn) ⟨_, .same (.same (.same (.same (.same (.same (.same (.un .nil))))))), lq_refl ?_⟩
        rw [fl_set htn]
        rw [fl_cong (g := fun i => if i ∈ (lw R k (wv w)).take (j + 1) then fw w i + gv w else fw w i) fun i hi => ?_]
        rw [take_next ht]
        by_cases c : i = tie
        · subst c
          rw [if_pos rfl, if_pos (by simp)]
        · rw [if_neg c]
          by_cases c2 : i ∈ (lw R k (wv w)).take j
          · rw [if_pos c2, if_pos (List.mem_append_left _ c2)]
          · rw [if_neg c2, if_neg fun z => (List.mem_append.mp z).elim c2 fun y => c (List.mem_singleton.mp y)]
      · rintro Γ' rfl
        refine ⟨_, .same (.same (.same (.same (.same (.un (.un (.un .nil))))))), lq_refl ?_⟩
        rw [List.length_map, List.take_length]
        rw [fl_cong (f := fun i => if i ∈ lw R k (wv w) then fw w i + gv w else fw w i) (g := fw (w + 1)) fun i hi => ?_]
        have hm := mem i
        have c1 : ldAt R s (k + 1) i = ldAt R s k i + Nw.over R.n (R.at k) (Nw.pt s k) i := rfl
        match w, hw with
        | 0, _ =>
          show (if i ∈ lw R k true then ldAt R s k i + Nw.pt s k else ldAt R s k i) = ldAt R s k i + (if Nw.on R.n (R.at k) i then Nw.pt s k else 0)
          have hm : i ∈ lw R k true ↔ i < R.n ∧ Nw.on R.n (R.at k) i = true := hm
          by_cases c : Nw.on R.n (R.at k) i = true
          · rw [if_pos (hm.mpr ⟨hi, c⟩), if_pos c]
          · rw [if_neg fun z => c (hm.mp z).2, if_neg c]
            grind
        | 1, _ =>
          show (if i ∈ lw R k false then (ldAt R s k i + (if Nw.on R.n (R.at k) i then Nw.pt s k else 0)) + ((R.at k).size - Nw.pt s k) else ldAt R s k i + (if Nw.on R.n (R.at k) i then Nw.pt s k else 0)) = ldAt R s (k + 1) i
          have hm : i ∈ lw R k false ↔ i < R.n ∧ Nw.on R.n (R.at k) i = false := hm
          rw [c1]
          unfold Nw.over
          cases c : Nw.on R.n (R.at k) i with
          | true =>
            rw [if_neg fun z => by have := (hm.mp z).2; rw [c] at this; cases this]
            simp
          | false =>
            rw [if_pos (hm.mpr ⟨hi, c⟩)]
            simp
            grind
    · rintro Γ' rfl
      exact ⟨_, .same (.same (.same (.un (.un (.un (.un (.un .nil))))))), lq_refl rfl⟩
  · rintro Γ' rfl
    rw [List.length_map, sl]
    exact lq_refl rfl
  · rintro Γ' rfl
    exact sg_retO rfl rfl
theorem sc__law_parted : FnScope ["_law_ring_here", "_law_sending", "_law_found", "_law_k", "_law_part"] ["_law_ring_here", "_law_sending"] (defScope s__law_parted) := ⟨rfl, rfl, rfl, by decide +kernel, rfl, by decide +kernel, by decide +kernel⟩
theorem has__law_parted (T : Tx K mg) (h__law_under : Has P w K mg base 1 "_law_under" 2 P__law_under) : Has P w K mg base 2 "_law_parted" 2 P__law_parted := by
  refine has_mk (N := ["_law_ring_here", "_law_sending", "_law_found", "_law_k", "_law_part"]) (ps := ["_law_ring_here", "_law_sending"]) (k := 1) T.d__law_parted sc__law_parted (fun _ _ _ _ _ _ us hl => match us, hl with | [_, _], _ => rfl) (fun ds r hp => ?_) (fun f cdv A outer s H E hr => ⟨_, (pss_cons (ps_set (i := 2) sc__law_parted.nd rfl (Or.inl rfl) (pe_lst pa_nil))
  (pss_cons (ps_for PassesOwn.never rfl (pi_enumK K (by rfl) T.enumerate (pa_cons (pv 1) pa_nil)) (pg_tupK K rfl (pgs_cons (pg_name (i := 3) sc__law_parted.nd rfl (Or.inl rfl)) (pgs_cons (pg_name (i := 4) sc__law_parted.nd rfl (Or.inl rfl)) pgs_nil)))
  (pss_one (ps_if (PW.pt (pw_and (pt_cmpR op_gt (pe_ix (ixK K) (pv 4) pe_int (fun _ _ => rfl)) pe_int (nomark _)) (pw_and1 (pt_val (pe_hasK h__law_under (hr.mono (by decide)) (by rfl) (pa_cons (pv 4) (pa_cons (pe_ix (ixK K) (pe_ix (ixK K) (pe_ix (ixK K) (pv 0) pe_int (fun _ _ => rfl)) (pv 3) (fun _ _ => rfl)) pe_int (fun _ _ => rfl)) pa_nil))))))) (pss_one (ps_expr (pe_bm PySem.F.plainAttrs_list PySem.F.slot_list_append PySem.F.type_list_append mt_append (pv 2) (pa_cons (pv 3) pa_nil)))) pss_nil)))
  (pss_one (ps_ret (pv 2))))), ?_⟩)
  · rcases hp with ⟨_, _, rfl, _⟩
    rfl
  rintro ds r ⟨R, s, rfl, ⟨D, g, ws⟩, rfl⟩
  have sl : s.length = R.m := ws.ok.len
  have m8 := g.m8
  refine qo (ds := []) (own_lst ea_nil) ?_
  refine sg_seq (N' := fun Γ' => Γ' = [.dat (eRing R), .dat (eS s), .own ((Nw.partedL R s).map eN), .un, .un]) (sg_forE (fun k Γ' => Γ' = [.dat (eRing R), .dat (eS s), .own (((List.range k).filter (Nw.parted R s)).map eN), .un, .un]) (ed_var rfl) ⟨_, Le.refl _, rfl⟩ ?_ ?_) ?_
  · rintro k d Γ' hd rfl
    obtain ⟨hk, rfl⟩ := pt_at hd
    have hk : k < R.m := by omega
    have fl : ((List.range k).filter (Nw.parted R s)).length ≤ k := by
      have := List.length_filter_le (Nw.parted R s) (List.range k)
      rw [List.length_range] at this
      exact this
    refine sg_if (b := Nw.parted R s k) (eb_and (eb_is (eb_test (ed_opB (ed_ixT (ed_var rfl) ed_int rfl) ed_int)) ?_) fun _ => eb_B (eg_call (ea_cons (ed_var rfl) (ea_cons (ed_size (ed_var rfl) (ed_var rfl) hk) ea_nil)) ⟨_, _, rfl, g.z (ws.bd g hk), g.z (g.size k hk), rfl⟩)) (fun h => ?_) fun h => ?_
    · exact decide_eq_decide.mpr (num_pos_iff (Nw.pt s k))
    · refine sg_app rfl (ed_var rfl) (by rw [List.length_map]; omega) ⟨_, .same (.same (.same (.un (.un .nil)))), lq_refl ?_⟩
      rw [List.range_succ, List.filter_append, List.map_append, List.filter_cons, if_pos h]
      rfl
    · refine sg_next ⟨_, .same (.same (.same (.un (.un .nil)))), lq_refl ?_⟩
      rw [List.range_succ, List.filter_append, List.map_append, List.filter_cons, if_neg (by rw [h]; decide)]
      simp
  · rintro Γ' rfl
    rw [List.length_map, sl]
    exact lq_refl rfl
  · rintro Γ' rfl
    exact sg_retO rfl rfl
theorem sc__law_greatest : FnScope ["_law_ring_here", "_law_some", "_law_found", "_law_k"] ["_law_ring_here", "_law_some"] (defScope s__law_greatest) := ⟨rfl, rfl, rfl, by decide +kernel, rfl, by decide +kernel, by decide +kernel⟩
theorem has__law_greatest (T : Tx K mg) (h__law_under : Has P w K mg base 1 "_law_under" 2 P__law_under) : Has P w K mg base 2 "_law_greatest" 2 P__law_greatest := by
  refine has_mk (N := ["_law_ring_here", "_law_some", "_law_found", "_law_k"]) (ps := ["_law_ring_here", "_law_some"]) (k := 1) T.d__law_greatest sc__law_greatest (fun _ _ _ _ _ _ us hl => match us, hl with | [_, _], _ => rfl) (fun ds r hp => ?_) (fun f cdv A outer s H E hr => ⟨_, (pss_cons (ps_set (i := 2) sc__law_greatest.nd rfl (Or.inl rfl) (pe_tup (pa_cons pe_int (pa_cons pe_int pa_nil))))
  (pss_cons (ps_for PassesOwn.never rfl (pi_listK K (pv 1)) (pg_name (i := 3) sc__law_greatest.nd rfl (Or.inl rfl))
  (pss_one (ps_if (pt_val (pe_hasK h__law_under (hr.mono (by decide)) (by rfl) (pa_cons (pv 2) (pa_cons (pe_ix (ixK K) (pe_ix (ixK K) (pe_ix (ixK K) (pv 0) pe_int (fun _ _ => rfl)) (pv 3) (fun _ _ => rfl)) pe_int (fun _ _ => rfl)) pa_nil)))) (pss_one (ps_set (i := 2) sc__law_greatest.nd rfl (Or.inl rfl) (pe_ix (ixK K) (pe_ix (ixK K) (pe_ix (ixK K) (pv 0) pe_int (fun _ _ => rfl)) (pv 3) (fun _ _ => rfl)) pe_int (fun _ _ => rfl)))) pss_nil)))
  (pss_one (ps_ret (pv 2))))), ?_⟩)
  · rcases hp with ⟨_, _, rfl, _⟩
    rfl
  rintro ds r ⟨R, l, rfl, ⟨D, g⟩, hm, rfl⟩
  refine qd (d := eQ 0) (ed_is (ed_tup (ea_cons ed_int (ea_cons ed_int ea_nil))) eQ_zero) ?_
  refine sg_seq (N' := fun Γ' => Γ' = [.dat (eRing R), .dat (eNs l), .dat (eQ (Nw.greatestSize R l)), .un]) (sg_forL (fun i Γ' => Γ' = [.dat (eRing R), .dat (eNs l), .dat (eQ (Nw.greatestSize R (l.take i))), .un]) (ed_var rfl) ⟨_, Le.refl _, rfl⟩ ?_ ?_) ?_
  · rintro i d Γ' hd rfl
    obtain ⟨k, hk, rfl⟩ := map_at hd
    have km := hm k (List.mem_of_getElem? hk)
    have nx : Nw.greatestSize R (l.take (i + 1)) = Nw.greater (Nw.greatestSize R (l.take i)) (R.at k).size := by
      rw [take_next hk]
      unfold Nw.greatestSize
      rw [List.foldl_append]
      rfl
    refine sg_if (b := decide (Nw.greatestSize R (l.take i) < (R.at k).size)) (eb_B (eg_call (ea_cons (ed_var rfl) (ea_cons (ed_size (ed_var rfl) (ed_var rfl) km) ea_nil)) ⟨_, _, rfl, g.z (greatest_bd g _ 0 (fun k hk => hm k (List.mem_of_mem_take hk)) Bd.zero), g.z (g.size k km), rfl⟩)) (fun h => ?_) fun h => ?_
    · refine sg_asg (ed_size (ed_var rfl) (ed_var rfl) km) ⟨_, .same (.same (.same (.un .nil))), lq_refl ?_⟩
      rw [nx]
      unfold Nw.greater
      rw [if_pos (of_decide_eq_true h)]
    · refine sg_next ⟨_, .same (.same (.same (.un .nil))), lq_refl ?_⟩
      rw [nx]
      unfold Nw.greater
      rw [if_neg (of_decide_eq_false h)]
  · rintro Γ' rfl
    rw [List.length_map, List.take_length]
    exact lq_refl rfl
  · rintro Γ' rfl
    exact sg_ret (ed_var rfl) rfl
end
end NwB
end NwL5_
section NwR_
set_option Elab.async false
set_option linter.all false
set_option maxRecDepth 100000
set_option maxHeartbeats 4000000
namespace NwB
open PySem PySem.Spec PyProof.Rows L2 NwT
open Evl (Ex)
/-! ### how long a datum's text is -/
mutual
def sz : PyData → Nat
  | .none => 5
  | .bool _ => 5
  | .int _ => 1100
  | .str x => 10 * x.length + 2
  | .list xs => szAll xs + 3
  | .tuple xs => szAll xs + 3
  | .dict _ => 0
def szAll : List PyData → Nat
  | [] => 0
  | x :: xs => sz x + 2 + szAll xs
end
mutual
def Sm : PyData → Prop
  | .none => True
  | .bool _ => True
  | .int i => i.natAbs < 2 ^ 1000
  | .str x => ∀ c ∈ x.cps.toList, c < 16 ^ 8
  | .list xs => SmA xs
  | .tuple xs => SmA xs
  | .dict _ => False
def SmA : List PyData → Prop
  | [] => True
  | x :: xs => Sm x ∧ SmA xs
end
theorem int_len {i : Int} (h : i.natAbs < 2 ^ 1000) : (PyData.shown (.int i)).length ≤ 1100 := by
  have hl : i.natAbs.log2 < 1000 := PySem.Flt.log2_lt_of (by decide) h
  have h1 := int_text_length_le (a := i) (k := 1000) (by decide) hl
  have e : (PyData.shown (.int i)).length = (toString i).length := by
    simp only [PyData.shown]
    exact PySem.ofString_length _
  omega
mutual
theorem shown_sz : ∀ d : PyData, Sm d → d.shown.length ≤ sz d
  | .none, _ => by simp only [PyData.shown, sz]; decide
  | .bool b, _ => by
    simp only [PyData.shown, sz]
    cases b <;> decide
  | .int i, h => by
    simp only [Sm] at h
    simp only [sz]
    exact int_len h
  | .str x, h => by
    simp only [Sm] at h
    simp only [PyData.shown, sz]
    exact PySem.StrLaws.reprText_len x h
  | .list xs, h => by
    simp only [Sm] at h
    simp only [PyData.shown, sz]
    have h1 := listText_len_le (PyData.shownAll xs)
    obtain ⟨h2, h3⟩ := shown_szA xs h
    omega
  | .tuple xs, h => by
    simp only [Sm] at h
    simp only [PyData.shown, sz]
    have h1 := tupleText_len_le (PyData.shownAll xs)
    obtain ⟨h2, h3⟩ := shown_szA xs h
    omega
  | .dict _, h => by simp only [Sm] at h
theorem shown_szA : ∀ xs : List PyData, SmA xs → ((PyData.shownAll xs).map (·.length)).sum + 2 * (PyData.shownAll xs).length ≤ szAll xs ∧ True
  | [], _ => ⟨by simp [PyData.shownAll, szAll], trivial⟩
  | x :: xs, h => by
    simp only [SmA] at h
    have h1 := shown_sz x h.1
    obtain ⟨h2, _⟩ := shown_szA xs h.2
    simp only [PyData.shownAll, szAll, List.map_cons, List.sum_cons, List.length_cons]
    exact ⟨by omega, trivial⟩
end
mutual
theorem sm_show : ∀ d : PyData, Sm d → d.showable = true ∧ d.hasDict = false
  | .none, _ => ⟨by simp only [PyData.showable], by simp only [PyData.hasDict]⟩
  | .bool b, _ => ⟨by simp only [PyData.showable], by simp only [PyData.hasDict]⟩
  | .int i, h => by
    simp only [Sm] at h
    have hl : i.natAbs.log2 < 1000 := PySem.Flt.log2_lt_of (by decide) h
    refine ⟨?_, by simp only [PyData.hasDict]⟩
    simp only [PyData.showable]
    exact decide_eq_true (by omega)
  | .str x, h => ⟨by simp only [PyData.showable], by simp only [PyData.hasDict]⟩
  | .list xs, h => by
    simp only [Sm] at h
    simp only [PyData.showable, PyData.hasDict]
    exact sm_showA xs h
  | .tuple xs, h => by
    simp only [Sm] at h
    simp only [PyData.showable, PyData.hasDict]
    exact sm_showA xs h
  | .dict _, h => by simp only [Sm] at h
theorem sm_showA : ∀ xs : List PyData, SmA xs → PyData.showableAll xs = true ∧ PyData.hasDictAll xs = false
  | [], _ => ⟨by simp only [PyData.showableAll], by simp only [PyData.hasDictAll]⟩
  | x :: xs, h => by
    simp only [SmA] at h
    obtain ⟨a, b⟩ := sm_show x h.1
    obtain ⟨c, d⟩ := sm_showA xs h.2
    simp only [PyData.showableAll, PyData.hasDictAll, a, b, c, d]
    exact ⟨rfl, rfl⟩
end
/-- a datum whose text may be asked for -/
structure Tl (d : PyData) : Prop where
  sm : Sm d
  len : sz d ≤ 16000000
  dep : d.depth ≤ 20
theorem sm_map {α : Type} {f : α → PyData} {l : List α} (h : ∀ x ∈ l, Sm (f x)) : SmA (l.map f) := by
  induction l with
  | nil => simp only [List.map_nil, SmA]
  | cons a l ih =>
    simp only [List.map_cons, SmA]
    exact ⟨h a (List.mem_cons_self ..), ih fun x hx => h x (List.mem_cons_of_mem _ hx)⟩
theorem sz_map {α : Type} {f : α → PyData} {c : Nat} {l : List α} (h : ∀ x ∈ l, sz (f x) ≤ c) : szAll (l.map f) ≤ l.length * (c + 2) := by
  induction l with
  | nil => simp [szAll]
  | cons a l ih =>
    simp only [List.map_cons, szAll, List.length_cons]
    have h1 := h a (List.mem_cons_self ..)
    have h2 := ih fun x hx => h x (List.mem_cons_of_mem _ hx)
    rw [Nat.succ_mul]
    omega
theorem dep_map {α : Type} {f : α → PyData} {c : Nat} {l : List α} (h : ∀ x ∈ l, (f x).depth ≤ c) : PyData.depthAll (l.map f) ≤ c := by
  induction l with
  | nil => simp [PyData.depthAll]
  | cons a l ih =>
    simp only [List.map_cons, PyData.depthAll]
    have h1 := h a (List.mem_cons_self ..)
    have h2 := ih fun x hx => h x (List.mem_cons_of_mem _ hx)
    omega
theorem sm_N {n : Nat} (h : n ≤ 1000) : Sm (eN n) := by
  simp only [eN, Sm]
  exact Nat.lt_of_le_of_lt (show ((n : Nat) : Int).natAbs ≤ 1000 by omega) (Nat.lt_of_lt_of_le (show 1000 < 2 ^ 10 by decide) (Nat.pow_le_pow_right (by decide) (by decide)))
theorem sm_Q {q : Rat} (z : Z q) : Sm (eQ q) := by
  simp only [eQ, Sm, SmA]
  exact ⟨z.num, by rw [Int.natAbs_natCast]; exact z.den, trivial⟩
theorem sz_Q (q : Rat) : sz (eQ q) = 2207 := by simp only [eQ, sz, szAll]
theorem sz_N (n : Nat) : sz (eN n) = 1100 := by simp only [eN, sz]
theorem dep_Q (q : Rat) : (eQ q).depth ≤ 2 := by simp [eQ, PyData.depth, PyData.depthAll]
theorem dep_N (n : Nat) : (eN n).depth ≤ 1 := by simp [eN, PyData.depth]
theorem sm_W (b : Bool) : Sm (eW b) := by
  simp only [eW, Sm]
  have h : (wS b).cps.toList.all (fun c => decide (c < 16 ^ 8)) = true := by cases b <;> decide +kernel
  intro c hc
  exact of_decide_eq_true (List.all_eq_true.mp h c hc)
theorem sz_W (b : Bool) : sz (eW b) ≤ 42 := by
  simp only [eW, sz]
  have h : (wS b).length ≤ 4 := by cases b <;> decide +kernel
  omega
theorem dep_W (b : Bool) : (eW b).depth ≤ 1 := by simp [eW, PyData.depth]
theorem tl_ring {R : Nw.Ring} (h : GoodR R) : Tl (eRing R) := by
  have g := h.g
  have n8 : R.rooms.length ≤ 8 := g.n8
  have m8 : R.asks.length ≤ 8 := g.m8
  have zr : ∀ q ∈ R.rooms, Z q := fun q hq => g.z (am_bd (by decide) (h.room q hq)).1
  have za : ∀ a ∈ R.asks, Z a.size := fun a ha => g.z (am_bd (by decide) (h.ask a ha).am).1
  have sa : ∀ a ∈ R.asks, sz (eAsk a) ≤ 6000 := fun a ha => by
    have := (h.ask a ha).name.2
    have e1 : (⟨a.name⟩ : Str).length ≤ 20 := this
    simp only [eAsk, sz, szAll, sz_Q]
    omega
  refine ⟨?_, ?_, ?_⟩
  · simp only [eRing, Sm, SmA]
    refine ⟨sm_map fun q hq => sm_Q (zr q hq), sm_map fun a ha => ?_, trivial⟩
    simp only [eAsk, Sm, SmA]
    have ao := h.ask a ha
    refine ⟨fun c hc => ?_, ?_, ?_, sm_Q (za a ha), trivial⟩
    · have := (ao.name.1 c hc).2
      exact Nat.lt_of_le_of_lt this (by decide)
    · have := ao.ok.one
      have h1 := sm_N (n := a.one) (by have := g.n8; omega)
      simpa only [eN, Sm] using h1
    · have := ao.ok.other
      have h1 := sm_N (n := a.other) (by have := g.n8; omega)
      simpa only [eN, Sm] using h1
  · simp only [eRing, sz, szAll]
    have h1 := sz_map (f := eQ) (c := 2207) (l := R.rooms) fun q _ => Nat.le_of_eq (sz_Q q)
    have h2 := sz_map (f := eAsk) (c := 6000) (l := R.asks) sa
    have h3 : R.rooms.length * (2207 + 2) ≤ 8 * 2209 := Nat.mul_le_mul_right _ n8
    have h4 : R.asks.length * (6000 + 2) ≤ 8 * 6002 := Nat.mul_le_mul_right _ m8
    omega
  · simp only [eRing, PyData.depth, PyData.depthAll]
    have h1 := dep_map (f := eQ) (c := 2) (l := R.rooms) fun q _ => dep_Q q
    have h2 := dep_map (f := eAsk) (c := 4) (l := R.asks) fun a _ => by
      have := dep_Q a.size
      simp only [eAsk, PyData.depth, PyData.depthAll]
      omega
    omega
theorem top_z {R : Nw.Ring} {D : Nat} {s : List Rat} (g : Rg R D) (ws : Ws R D s) : Z (Nw.topOf R s).1 := by
  obtain ⟨i, hi, e⟩ := Nw.topOf_at (R := R) (s := s) (by have := g.ok.two; omega)
  rw [e]
  exact strain_z g ws hi
theorem tl_near {R : Nw.Ring} (h : GoodR R) : Tl (dNear R) := by
  obtain ⟨D, g, ws⟩ := h.L.near
  have n0 : 0 < R.n := by have := g.ok.two; omega
  have m8 := g.m8
  have n8 := g.n8
  obtain ⟨g1, g2, g3, g4⟩ := Nw.gcut_spec (R := R) n0
  have zg : Z (Nw.gcut R).1 := by rw [g1]; exact shown_z g (by omega) g3
  have zt := top_z g (sent_ws g (Nw.nearWays R))
  have zp : ∀ q ∈ Nw.nearParts R, Z q := fun q hq => by
    obtain ⟨i, hi⟩ := List.mem_iff_getElem?.mp hq
    have hl := (List.getElem?_eq_some_iff.mp hi).1
    have hl2 : i < R.m := by rw [← ws.ok.len]; exact hl
    have := g.z (ws.bd g hl2)
    have e : Nw.pt (Nw.nearParts R) i = q := by
      unfold Nw.pt
      rw [List.getD_eq_getElem?_getD, hi]
      rfl
    rw [← e]
    exact this
  have am := slides_am g ws
  have so := (Nw.slidesFor_ok g.ok ws.ok).1
  have za : ∀ z ∈ Nw.slidesFor R (Nw.nearParts R), Z z.amt ∧ z.k < 8 ∧ z.l < 8 := fun z hz => by
    obtain ⟨i, hi⟩ := List.mem_iff_getElem?.mp hz
    obtain ⟨w1, w2⟩ := am_slid ws so am i
    have ok := w2 z hi
    exact ⟨g.z (slide_bd g w1 ok (am z hz)), by have := ok.k; omega, by have := ok.l; omega⟩
  have lw : (Nw.nearWays R).length = R.m := Nw.wholeWays_len
  have lp : (Nw.nearParts R).length = R.m := ws.ok.len
  have ls := slides_len (R := R) (s := Nw.nearParts R)
  have sWs : sz (eWs (Nw.nearWays R)) ≤ 400 := by
    simp only [eWs, sz]
    have h1 := sz_map (f := eW) (c := 42) (l := Nw.nearWays R) fun b _ => sz_W b
    have h2 : (Nw.nearWays R).length * (42 + 2) ≤ 8 * 44 := Nat.mul_le_mul_right _ (by omega)
    omega
  have mWs : Sm (eWs (Nw.nearWays R)) := by
    simp only [eWs, Sm]
    exact sm_map fun b _ => sm_W b
  have dWs : (eWs (Nw.nearWays R)).depth ≤ 2 := by
    simp only [eWs, PyData.depth]
    have := dep_map (f := eW) (c := 1) (l := Nw.nearWays R) fun b _ => dep_W b
    omega
  have sZs : sz (eZs (Nw.slidesFor R (Nw.nearParts R))) ≤ 50000 := by
    simp only [eZs, sz]
    have h1 := sz_map (f := eZ) (c := 5000) (l := Nw.slidesFor R (Nw.nearParts R)) fun z _ => by
      have h1 := sz_W z.way
      have h2 := sz_W z.other
      simp only [eZ, sz, szAll, sz_Q, sz_N]
      omega
    have h2 : (Nw.slidesFor R (Nw.nearParts R)).length * (5000 + 2) ≤ 9 * 5002 := Nat.mul_le_mul_right _ (by omega)
    omega
  have mZs : Sm (eZs (Nw.slidesFor R (Nw.nearParts R))) := by
    simp only [eZs, Sm]
    refine sm_map fun z hz => ?_
    obtain ⟨z1, z2, z3⟩ := za z hz
    simp only [eZ, Sm, SmA]
    exact ⟨sm_N (by omega), sm_W _, sm_N (by omega), sm_W _, sm_Q z1, trivial⟩
  have dZs : (eZs (Nw.slidesFor R (Nw.nearParts R))).depth ≤ 5 := by
    simp only [eZs, PyData.depth]
    have := dep_map (f := eZ) (c := 4) (l := Nw.slidesFor R (Nw.nearParts R)) fun z _ => by
      have h1 := dep_Q z.amt
      have h2 := dep_W z.way
      have h3 := dep_W z.other
      have h4 := dep_N z.k
      have h5 := dep_N z.l
      simp only [eZ, PyData.depth, PyData.depthAll]
      omega
    omega
  have sS : sz (eS (Nw.nearParts R)) ≤ 20000 := by
    simp only [eS, sz]
    have h1 := sz_map (f := eQ) (c := 2207) (l := Nw.nearParts R) fun q _ => Nat.le_of_eq (sz_Q q)
    have h2 : (Nw.nearParts R).length * (2207 + 2) ≤ 8 * 2209 := Nat.mul_le_mul_right _ (by omega)
    omega
  have mS : Sm (eS (Nw.nearParts R)) := by
    simp only [eS, Sm]
    exact sm_map fun q hq => sm_Q (zp q hq)
  have dS : (eS (Nw.nearParts R)).depth ≤ 4 := by
    simp only [eS, PyData.depth]
    have := dep_map (f := eQ) (c := 2) (l := Nw.nearParts R) fun q _ => dep_Q q
    omega
  have sC : sz (eC (Nw.gcut R).2) ≤ 3000 := by simp only [eC, sz, szAll, sz_N]; omega
  have mC : Sm (eC (Nw.gcut R).2) := by
    simp only [eC, Sm, SmA]
    exact ⟨sm_N (by omega), sm_N (by omega), trivial⟩
  have dC : (eC (Nw.gcut R).2).depth ≤ 3 := by
    have h4 := dep_N (Nw.gcut R).2.1
    have h5 := dep_N (Nw.gcut R).2.2
    simp only [eC, PyData.depth, PyData.depthAll]
    omega
  have eW2 : eWs (Nw.wholeWays R (Nw.behind (Nw.nearParts R) (Nw.slidesFor R (Nw.nearParts R)))) = eWs (Nw.nearWays R) := rfl
  refine ⟨?_, ?_, ?_⟩
  · simp only [dNear, dRound, dLeast, Sm, SmA, eW2]
    exact ⟨mWs, sm_Q zt, ⟨mZs, mWs, trivial⟩, ⟨sm_Q zg, mS, mC, trivial⟩, trivial⟩
  · simp only [dNear, dRound, dLeast, sz, szAll, sz_Q, eW2]
    omega
  · have h4 := dep_Q (Nw.topOf R (Nw.sent R (Nw.nearWays R))).1
    have h5 := dep_Q (Nw.gcut R).1
    simp only [dNear, dRound, dLeast, PyData.depth, PyData.depthAll, eW2]
    omega
/-! ### repr of such a datum -/
def rRepr (K : PySem.W.Frag) : List V → Hp → VK → Prop := fun vs H Q => ∃ (a : Addr) (d : PyData), vs = [.ref a] ∧ Dp K H (.ref a) d ∧ Tl d ∧ Q (.str d.shown) H
section
variable {X : Cx}
theorem cr_repr (hg : X.A.guards = some []) (hu : X.A.units + 64 < cLine) : CallR X (.builtin "repr") (rRepr X.K) := by
  intro pins s σ H vs us Q I r h
  obtain ⟨a, d, rfl, hd, tl, q⟩ := h
  obtain ⟨u, rfl, ru⟩ := vals1 r
  obtain rfl : u = Value.ref a := ru
  obtain ⟨as, rd⟩ := Dp.reads I d _ _ hd rfl
  obtain ⟨s1, s2⟩ := sm_show d tl.sm
  refine repr_of_reads' rd s1 (fun z => by rw [s2] at z; cases z) hg (by have := tl.dep; omega) (fun _ _ e => e) (fun h' t tk hk => ⟨.str d.shown, H, I.kept hk, ⟨_, rfl⟩, q⟩) ?_
  have h1 := shown_sz d tl.sm
  have h2 := tl.len
  have h3 : sizeLine = 16777216 := by decide
  omega
theorem reprK (K : PySem.W.Frag) (hg : X.A.guards = some []) (hu : X.A.units + 64 < cLine) (e : X.K = K := by rfl) : CallR X (.builtin "repr") (rRepr K) := by subst e; exact cr_repr hg hu
end
theorem ed_repr {J : Ji} {K : PySem.W.Frag} {Γ : List Sl} {ta : TE} {ds : List PyData} (tl : Tl (.tuple ds)) (h : ED J K Γ ta (.tuple ds)) : ED J K Γ (tCB (rRepr K) (tCons ta tNil)) (.str (PyData.shown (.tuple ds))) := fun O σ H e Q q =>
  h O σ H e _ fun v H1 x1 r1 => by
    obtain ⟨a, vs, rfl, h1, h2⟩ := dp_tup r1
    exact ⟨a, .tuple ds, rfl, Dp.ex r1 hide_le, tl, q _ H1 x1 (.str _)⟩
end NwB
end NwR_
section NwG_
set_option Elab.async false
set_option linter.all false
set_option maxRecDepth 100000
set_option maxHeartbeats 4000000
namespace NwB
open PySem PySem.Spec PyProof.Rows L2 NwT
/-! ### a def that is called where no text is being made: repr may be asked within -/
structure FnG (P : Program) (w : World) (K : PySem.W.Frag) (mg : Str → Option Value) (base : Heap) (k : Nat) (f : Addr) (fd : FuncData) (ps : List Str) (sp : Sp) : Prop where
  len : ∀ vs H Q E, sp vs H Q E → vs.length = ps.length
  run : ∀ (A : Around) (out : List PySem.Env) (s : Shared) (H : Hp) (ar : Args) (us : List Value) (vs : List V) (Q : VK) (E : XK), A.guards = some [] → Room k A → Env0 P w K mg base A out s H → BindsTo s fd ar (ps.zip us) → Vals vs us → sp vs H Q E →
    codeAny (model P w) A (.call (.ref f) ar) (CR CX0 out P w H s Q E) s
section
variable {P : Program} {w : World} {K : PySem.W.Frag} {mg : Str → Option Value} {base : Heap}
theorem okG {x qual : Str} {st : Stmt} {f : Addr} {fd : FuncData} {N ps : List Str} {k : Nat} {sp : Sp} (F : Fun K x qual st f fd) (S : FnScope N ps (defScope st)) (ln : ∀ vs H Q E, sp vs H Q E → vs.length = ps.length)
    (body : ∀ (cdv : Value) (A : Around) (out : List PySem.Env) (s : Shared) (H : Hp) (vs : List V) (Q : VK) (E : XK), A.guards = some [] → Room k (A.deeper (envOfC qual (defScope st) s.heap.objs.size f cdv)) → sp vs H Q E →
      ∃ t, PSs (cxOf CX0 P w K mg base N qual (defScope st) f cdv A out s H E).nox (defBody st) t ∧ t { nx := fun _ H' => Q .non H', rt := Q } (L2.start N vs) H) : FnG P w K mg base (k + 1) f fd ps sp := by
  obtain ⟨oc, od, kV, doc, pm, an, cdv, ct, osl, rfl, look, code⟩ := F.ex
  refine ⟨ln, fun A out s H ar us vs Q E g rm e bnd rel hs => ?_⟩
  have len1 := ln _ _ _ _ hs
  have inK : K.In s.heap := e.mod.kin.keeps fun a u z => (e.bs a u z).1
  have noLim : s.heap.NoLimit := e.mod.nolimit.keeps fun a u z => (e.bs a u z).1
  have kinds : ∀ y ∈ ps.zip us, (defScope st).names.lookup y.1 = some .local ∨ ((defScope st).names.lookup y.1 = some .cell ∧ ((cellsFrom (s.heap.objs.size + 1) (defScope st).names []).lookup y.1).isSome = true) := fun ⟨n, v⟩ hy => by
    rcases S.par n (List.of_mem_zip hy).1 with c | c
    · exact .inl c
    · exact .inr ⟨c, PySem.W.cellsFrom_some _ _ _ (.inl c)⟩
  refine codeAny_call_function rm.depth (inK _ _ look) rfl S.co S.gen rfl (PySem.W.codeRec_of inK code) (bnd _ _ _ _ ?_)
  refine wpAny_newFunctionEnv_cells S.kind kinds fun env hen s2 y => ?_
  subst hen
  refine ⟨noLim.keeps y.toInCall.keep, codeAny_func ?_⟩
  obtain ⟨t, ht, q⟩ := body cdv A out s H vs Q E g (rm.deeper _) hs
  have iv : L2.Inv (cxOf CX0 P w K mg base N qual (defScope st) f cdv A out s H E) [] (L2.start N vs) H s2 := inv_start S rm.hd e len1 rel y
  refine wpAny_mono (ht.nox.run [] s2 (L2.start N vs) H _ iv q) (fun fl s3 z => ?_) fun er s3 z => z
  have done : ∀ {σ : L2.St} {H3 : Hp} {v : V} {u : Value}, L2.Inv (cxOf CX0 P w K mg base N qual (defScope st) f cdv A out s H E) [] σ H3 s3 → RelV v u → Q v H3 → CE out P w H s Q u s3 := fun {σ H3 v u} j r1 r2 => ⟨v, H3, j.os, j.bare, j.base, j.hok, r1, r2⟩
  cases fl with
  | ret u =>
    obtain ⟨v, σ, H3, j, r1, r2⟩ := z
    exact done j r1 r2
  | next =>
    obtain ⟨σ, H3, j, r2⟩ := z
    exact done (v := V.non) (u := Value.none) j rfl r2
  | brk =>
    obtain ⟨_, _, _, c⟩ := z
    exact c.elim
  | cont =>
    obtain ⟨_, _, _, c⟩ := z
    exact c.elim
structure HasG (P : Program) (w : World) (K : PySem.W.Frag) (mg : Str → Option Value) (base : Heap) (k : Nat) (x : Str) (n : Nat) (sp : Sp) : Prop where
  ex : ∃ f fd ps, ps.length = n ∧ FnG P w K mg base k f fd ps sp ∧ mg x = some (.ref f) ∧ PySem.W.keepIn K (.ref f) = true ∧ Binds K fd ps []
theorem pe_hasG {sp : Sp} {X : Cx} {k n : Nat} {x : Str} {p pos : Pos} {e : Expr} {es : List Expr} {t : TA} (h : HasG P w K mg base k x n sp) (gd : X.A.guards = some []) (hr : Room k X.A) (hg : Gl X x) (ha : PA X (e :: es) t)
    (e1 : X.prog = P := by rfl) (e2 : X.w = w := by rfl) (e3 : X.K = K := by rfl) (e4 : X.mg = mg := by rfl) (e5 : X.base = base := by rfl) (hdb : (x == ("__debug__" : Str)) = false := by decide)
    (he : starEach (e :: es) X.env = (false, eval e X.env) :: starEach es X.env := by rfl) (hpl : (backTo pos (starEach es X.env)).any (·.1) = false := by rfl) : PE X (.Call (.Name x p) (e :: es) [] pos) (tCall sp [] E0 t) := by
  subst e1 e2 e3 e4 e5
  obtain ⟨f, fd, ps, _, F, hm, kp, b⟩ := h.ex
  refine ⟨fun pins s σ H Q I q => ?_⟩
  refine wpAny_Call_Name_kw (ld_glob I hg hm ?_ hdb)
  refine PySem.W.callWith_K (h₀ := X.base) I.ok.mod.kin kp (thn (ha.run pos pins s σ H _ I q) fun us s1 ⟨vs, H1, J1, r1, q1⟩ => ⟨J1.kIn, ?_⟩) he hpl
  have q2 : sp vs H1 Q E0 := by
    have q0 : sp (vs ++ []) H1 Q E0 := q1
    rw [List.append_nil] at q0
    exact q0
  have r2 : Vals (vs ++ []) (us ++ []) := by rw [List.append_nil, List.append_nil]; exact r1
  have ln : (us ++ []).length = ps.length := by rw [← r2.length, List.append_nil]; exact F.len _ _ _ _ q2
  refine wpAny_call (codeAny_mono (F.run X.A X.stack s1 H1 ⟨us, []⟩ (us ++ []) vs Q E0 gd hr J1.env0 (b s1 us J1.kIn ln) (by rw [List.append_nil]; exact r1) q2) fun r s2 z => ?_)
  cases r with
  | error e => exact z.elim
  | ok fl =>
    cases fl with
    | ret u => exact J1.after z
    | next => exact z.elim
    | brk => exact z.elim
    | cont => exact z.elim
end
/-! ### the law is asked -/
theorem ask_law {P : Program} {w : World} {K : PySem.W.Frag} {mg mb : Str → Option Value} {k : Nat} {fa a : Addr} {fd : FuncData} {x : Str} {sp : Sp} {s : Shared} {vs : List Value} {ns : List Int}
    (inK : K.In s.heap) (gl : s.heap.Ns mainGlobals mg) (bl : s.heap.Ns builtinsNs mb) (bb : ∀ x : Str, x ≠ "__name__" → mb x = bootBuiltins x) (noLim : s.heap.NoLimit) (gens : s.gens = #[])
    (obj : s.heap.get? a = some { cls := .type "list", data := .seq vs.toArray }) (hints : IntsAre vs ns) (len : ns.length ≤ sizeLine) (rm : Room k callerA)
    (F : ∀ base : Heap, K.In base → base.Ns mainGlobals mg → FnG P w K mg base k fa fd [x] sp) (bnd : ∀ (s : Shared) (u : Value), BindsTo s fd ⟨[u], []⟩ [(x, u)])
    (hs : ∀ H : Hp, Only H → SqL K H a (ns.map V.int) → sp [.ref a] H (fun v _ => v = .bl true) fun _ _ _ => False) :
    codeAny (model P w) callerA (.call (.ref fa) ⟨[.ref a], []⟩) (fun r s' => r = .ok (.ret (.bool true)) ∧ OldK s.heap s'.heap ∧ s'.os = s.os ∧ AllBare s'.gens) s := by
  have rel := vals_ints hints
  have lenV := hints.length
  have main : ∀ H : Hp, Only H → SqL K H a (ns.map V.int) → HOk P w H s.heap → (∀ c, H c ≠ none → c = a) → (H a ≠ none → K.lookup a = none) →
      codeAny (model P w) callerA (.call (.ref fa) ⟨[.ref a], []⟩) (fun r s' => r = .ok (.ret (.bool true)) ∧ OldK s.heap s'.heap ∧ s'.os = s.os ∧ AllBare s'.gens) s := by
    intro H only seq ok here noK
    have isA : ∀ {c : Addr} {u : HO}, H c = some u → c = a := fun z => here _ (by rw [z]; simp)
    have low : ∀ {c : Addr} {o : Obj}, s.heap.get? c = some o → H c = none → (hidT s.heap H).get? c = some o := fun z n => hidT_get z n
    have dictH : ∀ {c : Addr} {o : Obj} {es : Array DictEntry} {ep : Nat}, s.heap.get? c = some o → o.data = .dict es ep → H c = none := fun {c o es ep} z d => by
      cases y : H c with
      | none => rfl
      | some u =>
        obtain rfl := isA y
        rw [obj] at z
        cases z
        exact nomatch (show Data.seq vs.toArray _ = Data.dict es ep from d)
    have names : ∀ {c : Addr} {m : Str → Option Value}, s.heap.Ns c m → (hidT s.heap H).Ns c m := fun {c m} ⟨o, es, ep, z, d, r⟩ => ⟨o, es, ep, low z (dictH z d), d, r⟩
    have inB : K.In (hidT s.heap H) := fun c o z => low (inK c o z) (by
      cases y : H c with
      | none => rfl
      | some u =>
        obtain rfl := isA y
        rw [noK (by rw [y]; simp)] at z
        cases z)
    obtain ⟨mc, l1, l2⟩ := noLim
    have md : Mod K mg (hidT s.heap H) := ⟨inB, names gl, ⟨mb, names bl, bb⟩, mc, names l1, l2⟩
    have none_in : ∀ c : Addr, c ∉ ([] : List Addr) := fun c => by simp
    have e0 : Env0 P w K mg (hidT s.heap H) callerA [] s H := ⟨rfl, md, fun c o z => of_hidT z, Nat.le_of_eq (hidT_size _ _), trivial, fun c z => absurd (show c ∈ ([] : List Addr) from z) (none_in c), ok, .of_eq gens⟩
    refine codeAny_mono ((F _ inB (names gl)).run callerA [] s H ⟨[.ref a], []⟩ [.ref a] [.ref a] _ _ rfl rm e0 (bnd s (.ref a)) (.cons rfl .nil) (hs H only seq)) fun r s' z => ?_
    cases r with
    | error er => exact z.elim
    | ok fl =>
      cases fl with
      | next => exact z.elim
      | brk => exact z.elim
      | cont => exact z.elim
      | ret u =>
        obtain ⟨v, H2, os, bare, un, ok2, r1, q⟩ := z
        obtain rfl : v = .bl true := q
        obtain rfl : u = Value.bool true := r1
        refine ⟨rfl, OldK.of_keep fun c o z => ?_, os, bare⟩
        cases y : H c with
        | none => exact un.keep c o z y (fun y2 => none_in c y2) (by simp)
        | some u =>
          rcases only c with n | ⟨ob, xs, n⟩
          · rw [y] at n
            cases n
          · have n2 := un.frzs c ob _ n
            have k1 := (ok c _ n).1
            have k2 := (ok2 c _ n2).1
            rw [z] at k1
            cases k1
            exact k2
  cases hk : K.lookup a with
  | some o =>
    have z := inK a o hk
    rw [obj] at z
    cases z
    have e9 : (ns.map V.int).length ≤ sizeLine := by rw [List.length_map]; exact len
    exact main (fun _ => none) (fun _ => .inl rfl) (.inr ⟨_, vs.toArray, _, hk, rfl, rfl, rfl, by rw [List.size_toArray, lenV]; exact len, by simpa using rel⟩) (fun c u y => nomatch (show (none : Option HO) = some u from y)) (fun c y => absurd rfl y) fun y => absurd rfl y
  | none =>
    refine main (fun c => if c = a then some (.frz { cls := .type "list", data := .seq vs.toArray } (.lst (ns.map V.int))) else none) (fun c => ?_) (.inl (.inr ⟨{ cls := .type "list", data := .seq vs.toArray }, if_pos rfl⟩)) (fun c u y => ?_) (fun c y => ?_) fun _ => hk
    · by_cases e : c = a
      · exact .inr ⟨_, _, if_pos e⟩
      · exact .inl (if_neg e)
    · by_cases e : c = a
      · have y2 := (if_pos e).symm.trans y
        cases y2
        subst e
        exact ⟨obj, by rw [List.length_map]; exact len, vs, _, rel, obj⟩
      · exact nomatch (if_neg e).symm.trans y
    · by_cases e : c = a
      · exact e
      · exact absurd (if_neg e) y
theorem walkG {l : PySem.W.OpenLaw} {n k : Nat} {q : Program} {loose : List Str} {XP : (Str → Option Value) → Heap → Prop} {YP : World → Heap → Prop} {d : DefRec} {x : Str}
    (most : l.most = some n) (fits : n ≤ sizeLine) (nod : d.params.defaults = []) (rm : Room k callerA)
    (F : ∀ (w : World) (mg : Str → Option Value) (fa : Addr) (h : Heap), YP w h → h.Ns mainGlobals mg → mg d.name = some (.ref fa) →
      ∃ (K : PySem.W.Frag) (fd : FuncData) (sp : Sp), K.In h ∧ (∀ (s : Shared) (u : Value), BindsTo s fd ⟨[u], []⟩ [(x, u)]) ∧
        (∀ (H : Hp) (a : Addr) (ns : List Int), ns.length ≤ n → Only H → SqL K H a (ns.map V.int) → sp [.ref a] H (fun v _ => v = .bl true) fun _ _ _ => False) ∧
        ∀ base : Heap, K.In base → base.Ns mainGlobals mg → FnG l.prog w K mg base k fa fd [x] sp) :
    PySem.W.WalkO q loose XP YP l.row.toRowW d [] (fun f vs => PySem.call f vs) := by
  refine Att.attach_call most nod fun w s₀ s₁ mg mb fa o pm cd doc a vs ns G Y ho hd hcd hm hobj hi hl hg => ?_
  obtain ⟨K, fd, sp, inK, b, p, f⟩ := F w mg fa _ Y G.T.g hm
  exact ask_law inK G.T.g G.T.b G.T.builtins G.T.nolimit hg hobj hi (Nat.le_trans hl fits) rm f b fun H ho hS => p H a ns hl ho hS
end NwB
end NwG_
section NwL6_
set_option Elab.async false
set_option linter.all false
set_option maxRecDepth 100000
set_option maxHeartbeats 4000000
namespace NwB
open PySem PySem.Spec PyProof.Rows L2 NwT
open Evl (Ex)
theorem mem_mid {A W : List Addr} {q x : Addr} : x ∈ A ++ q :: W ↔ x ∈ q :: (A ++ W) := by
  simp only [List.mem_append, List.mem_cons]
  constructor
  · rintro (h | h | h)
    · exact .inr (.inl h)
    · exact .inl h
    · exact .inr (.inr h)
  · rintro (h | h | h)
    · exact .inr (.inl h)
    · exact .inl h
    · exact .inr (.inr h)
section
variable {J : Ji} {K : PySem.W.Frag} {B H H1 H2 H' : Hp} {O W : List Addr} {σ : L2.St} {Γ : List Sl} {te ta tb : TE} {R : Nw.Ring} {a p1 r l p2 p3 p4 L : Addr} {vt v0 : V} {n n' : Nat → Nat}
/-! ### what near_whole told, as it lies -/
def JN (K : PySem.W.Frag) (R : Nw.Ring) (a p1 r l p2 p3 p4 : Addr) (vt v0 : V) : Ji where
  foot := []
  val W H := Nr K R W H a p1 r l p2 p3 p4 vt ∧ (∀ p ∈ [a, r, l, p1, p2, p3, p4], p ∉ W) ∧ (∀ p ∈ [p1, p2, p3, p4], ∃ vs, H p = some (.lst vs) ∧ vs.length ≤ 1000) ∧ Dp K (hide H ([p1, p2, p3, p4] ++ W)) v0 (eRing R)
  ex := fun e h => ⟨h.1.ex e, h.2.1, fun p hp => (by
    obtain ⟨vs, k1, k2⟩ := h.2.2.1 p hp
    exact ⟨vs, e _ _ k1, k2⟩), Dp.ex h.2.2.2 (hide_ex e)⟩
  sub := fun s _ h => ⟨h.1.sub s, fun p hp z => h.2.1 p hp (s p z), h.2.2.1, Dp.ex h.2.2.2 (hide_sub fun x hx => (List.mem_append.mp hx).elim (fun z => List.mem_append_left _ z) fun z => List.mem_append_right _ (s x z))⟩
  new := fun {W H q} hq h => by
    obtain ⟨⟨⟨v1, v2, h1, h2, h3⟩, h4, h5, h6, h7, h8⟩, k1, k2, k3⟩ := h
    refine ⟨⟨⟨v1, v2, h1, h2, h3⟩, ?_, ?_, ?_, ?_, ?_⟩, fun p hp z => ?_, k2, ?_⟩
    · rw [hide_new hq]; exact h4
    · rw [hide_new hq]; exact h5
    · rw [hide_new hq]; exact h6
    · rw [hide_new hq]; exact h7
    · rw [hide_new hq]; exact h8
    rotate_left
    · rw [hide_cong (O' := q :: ([p1, p2, p3, p4] ++ W)) fun x => mem_mid, hide_new hq]
      exact k3
    rcases List.mem_cons.mp z with rfl | z
    · simp only [List.mem_cons, List.not_mem_nil, or_false] at hp
      rcases hp with rfl | rfl | rfl | hp
      · rw [hq] at h1; cases h1
      · rw [hq] at h2; cases h2
      · rw [hq] at h3; cases h3
      · obtain ⟨vs, g, _⟩ := k2 p (by simpa using hp)
        rw [hq] at g
        cases g
    · exact k1 p hp z
  chg := fun {W H q ws} hq _ h => by
    obtain ⟨⟨⟨v1, v2, h1, h2, h3⟩, h4, h5, h6, h7, h8⟩, k1, k2, k3⟩ := h
    have ne : ∀ p ∈ [a, r, l, p1, p2, p3, p4], p ≠ q := fun p hp z => k1 p hp (by rw [z]; exact hq)
    refine ⟨⟨⟨v1, v2, ?_, ?_, ?_⟩, ?_, ?_, ?_, ?_, ?_⟩, k1, fun p hp => ?_, by rw [hide_upd (List.mem_append_right _ hq)]; exact k3⟩
    · rw [upd_ne (ne a (by simp))]; exact h1
    · rw [upd_ne (ne r (by simp))]; exact h2
    · rw [upd_ne (ne l (by simp))]; exact h3
    · rw [hide_upd hq]; exact h4
    · rw [hide_upd hq]; exact h5
    · rw [hide_upd hq]; exact h6
    · rw [hide_upd hq]; exact h7
    · rw [hide_upd hq]; exact h8
    · obtain ⟨vs, g1, g2⟩ := k2 p hp
      refine ⟨vs, ?_, g2⟩
      rw [upd_ne (ne p (by simp only [List.mem_cons, List.not_mem_nil, or_false] at hp ⊢; rcases hp with h | h | h | h <;> simp [h]))]
      exact g1
theorem ed_n0 {i : Nat} (h : Γ[i]? = some (.is v0)) : ED (JN K R a p1 r l p2 p3 p4 vt v0) K Γ (tVar i) (eRing R) := fun O σ H e Q q => ⟨_, e.sl.getI h, q _ H (Ex.refl H) (Dp.ex e.inv.2.2.2 (hide_sub fun x hx => List.mem_append_right _ hx))⟩
theorem ed_na {i : Nat} (h : Γ[i]? = some (.is (.ref a))) : ED (JN K R a p1 r l p2 p3 p4 vt v0) K Γ (tVar i) (dNear R) := fun O σ H e Q q => ⟨_, e.sl.getI h, q _ H (Ex.refl H) e.inv.1.da⟩
theorem ed_n1 {i : Nat} (h : Γ[i]? = some (.is (.ref p1))) : ED (JN K R a p1 r l p2 p3 p4 vt v0) K Γ (tVar i) (eWs (Nw.nearWays R)) := fun O σ H e Q q => ⟨_, e.sl.getI h, q _ H (Ex.refl H) e.inv.1.d1⟩
theorem ed_nr {i : Nat} (h : Γ[i]? = some (.is (.ref r))) : ED (JN K R a p1 r l p2 p3 p4 vt v0) K Γ (tVar i) (dRound R (Nw.nearParts R)) := fun O σ H e Q q => ⟨_, e.sl.getI h, q _ H (Ex.refl H) e.inv.1.dr⟩
theorem ed_nl {i : Nat} (h : Γ[i]? = some (.is (.ref l))) : ED (JN K R a p1 r l p2 p3 p4 vt v0) K Γ (tVar i) (dLeast R) := fun O σ H e Q q => ⟨_, e.sl.getI h, q _ H (Ex.refl H) e.inv.1.dl⟩
/-! ### four lists of one's own, and a list of them -/
def JL (K : PySem.W.Frag) (L p1 p2 p3 p4 : Addr) (n : Nat → Nat) : Ji where
  foot := [L, p1, p2, p3, p4]
  val _ H := H L = some (.lst [.ref p1, .ref p2, .ref p3, .ref p4]) ∧ ∀ (i : Nat) (p : Addr), [p1, p2, p3, p4][i]? = some p → ∃ vs, H p = some (.lst vs) ∧ vs.length = n i
  ex := fun e h => ⟨e _ _ h.1, fun i p hp => by
    obtain ⟨vs, k1, k2⟩ := h.2 i p hp
    exact ⟨vs, e _ _ k1, k2⟩⟩
  sub := fun _ _ h => h
  new := fun _ h => h
  chg := fun {W H q ws} _ nf h => by
    have ne : ∀ p ∈ [L, p1, p2, p3, p4], p ≠ q := fun p hp z => nf (by rw [← z]; exact hp)
    refine ⟨by rw [upd_ne (ne L (by simp))]; exact h.1, fun i p hp => ?_⟩
    obtain ⟨vs, k1, k2⟩ := h.2 i p hp
    exact ⟨vs, by rw [upd_ne (ne p (List.mem_cons_of_mem _ (List.mem_of_getElem? hp)))]; exact k1, k2⟩
/-- len of each -/
theorem own_lens {i j : Nat} (h : Γ[i]? = some (.is (.ref L))) (hij : i ≠ j) (hj : Γ[j]? = some .un) : EG (JL K L p1 p2 p3 p4 n) K Γ (tLc (iList K (tVar i)) (gName j) tYes (tCB (rLen K) (tCons (tVar j) tNil)) [j]) (.own ((List.range 4).map fun i => eN (n i))) := fun O σ H e Q q => by
  refine ⟨_, e.sl.getI h, L, rfl, ⟨_, SqL.of e.inv.1⟩, fun D hD => ?_⟩
  have hlen : j < σ.length := by rw [e.sl.len]; exact (List.getElem?_eq_some_iff.mp hj).1
  refine lc_list (xs := [.ref p1, .ref p2, .ref p3, .ref p4]) (fun i H' => Cv K H (ows σ Γ ++ O) D (told i (fun _ => true) fun i => eN (n i)) H') (cv_start hD) (fun i H' _ c => SqL.of (c.choose_spec.2.2 _ _ e.inv.1)) (fun m x H' hx c => ?_) (fun H' c => ?_)
  · obtain ⟨acc, c1, c2, c3⟩ := c
    obtain ⟨p, hp, rfl⟩ : ∃ p, [p1, p2, p3, p4][m]? = some p ∧ x = .ref p := by
      match m, hx with
      | 0, hx => cases hx; exact ⟨_, rfl, rfl⟩
      | 1, hx => cases hx; exact ⟨_, rfl, rfl⟩
      | 2, hx => cases hx; exact ⟨_, rfl, rfl⟩
      | 3, hx => cases hx; exact ⟨_, rfl, rfl⟩
    obtain ⟨vs, k1, k2⟩ := e.inv.2 m p hp
    refine ⟨?_, ?_⟩
    · show ((σ.set j none).set j (some _)).set j none = σ.set j none
      rw [List.set_set, List.set_set]
    refine ⟨.ref p, ?_, p, vs, rfl, .inl (SqL.of (c3 _ _ k1)), ?_⟩
    · show ((σ.set j none).set j (some (.ref p)))[j]? = _
      rw [List.set_set, List.getElem?_set, if_pos rfl, if_pos hlen]
    have hm : m < 4 := (List.getElem?_eq_some_iff.mp hp).1
    refine ⟨acc, c1, by rw [c2.len]; have := told_len (n := m) (b := fun _ => true) (f := fun i => eN (n i)); exact Evl.sz_lt (by omega), acc ++ [.int vs.length], upd_same, ?_, Ex.mut c3 hD⟩
    rw [hide_upd (List.mem_cons_self ..), told_succ, k2]
    exact DpAll.append c2 (.cons (.int _) .nil)
  · have c' : Cv K H (ows σ Γ ++ O) D ((List.range 4).map fun i => eN (n i)) H' := by rw [← told_all]; exact c
    exact cv_done hD (Ex.refl H) c' q
/-! ### more -/
theorem ed_neL {x : PyData} {es : List PyData} (ha : ED J K Γ ta x) (hb : EL J K Γ tb es) (s1 : SeqAt.shaped x = true) (s2 : SeqAt.shaped (.list es) = true) : ED J K Γ (tOp (rNeA K) ta tb) (.bool (!PyData.eqv x (.list es))) := fun O σ H e Q q =>
  ha O σ H e _ fun v H1 x1 r1 => hb O σ H1 (e.mono x1) _ fun p vs H2 x2 h1 h2 => .inr ⟨x, .list es, Dp.ex r1 (hide_le.trans x2), .lst h1 (DpAll.ex h2 hide_le), s1, s2, q _ H2 (x1.trans x2) (.bl _)⟩
theorem eqvA_self {α : Type} {f : α → PyData} {xs : List α} (h : ∀ x ∈ xs, PyData.eqv (f x) (f x) = true) : PyData.eqvAll (xs.map f) (xs.map f) = true := by
  induction xs with
  | nil => simp [PyData.eqvAll]
  | cons a xs ih =>
    simp only [List.map_cons, PyData.eqvAll, h a (List.mem_cons_self ..), Bool.true_and]
    exact ih fun x hx => h x (List.mem_cons_of_mem _ hx)
theorem eqv_W (b : Bool) : PyData.eqv (eW b) (eW b) = true := by
  simp only [eW, PyData.eqv]
  exact beq_self_eq_true _
theorem eqv_N (m : Nat) : PyData.eqv (eN m) (eN m) = true := by
  simp only [eN, PyData.eqv]
  exact beq_self_eq_true _
theorem eqv_Ws (ws : List Bool) : PyData.eqv (eWs ws) (eWs ws) = true := by
  simp only [eWs, PyData.eqv]
  exact eqvA_self fun b _ => eqv_W b
theorem sh_Ws (ws : List Bool) : SeqAt.shaped (eWs ws) = true := sh_L fun d hd => by
  obtain ⟨b, _, rfl⟩ := List.mem_map.mp hd
  refine ⟨?_, Nat.le_trans (dep_W b) (by decide)⟩
  simp only [eW, PyData.canLay0]
  cases b <;> decide +kernel
theorem raw_seq {t u : TS} {N : List Sl → Prop} {D : Ends} (h : SG J K Γ t N (fun _ _ => False)) (s : Sb J K B O H σ Γ) (k : ∀ Γ' σ' H', N Γ' → Sb J K B O H' σ' Γ' → u D σ' H') : tSeq t u D σ H :=
  h B O σ H { D with nx := u D } s k fun _ _ _ _ _ z => z.elim
theorem Sb.setI {v : V} (s : Sb J K B O H σ Γ) (i : Nat) : Sb J K B O H (σ.set i (some v)) (Γ.set i (.is v)) := by
  obtain ⟨a, b⟩ := s.env.setI (v := v) i
  exact ⟨a, s.ex, fun p hp => s.new p (b p hp)⟩
theorem set_self {σ : L2.St} {i : Nat} {x : Option V} (h : σ[i]? = some x) : σ.set i x = σ := by
  refine List.ext_getElem? fun j => ?_
  rw [List.getElem?_set]
  by_cases c : i = j
  · subst c
    rw [if_pos rfl, if_pos (List.getElem?_eq_some_iff.mp h).1, h]
  · rw [if_neg c]
theorem EnvL.learnD {i : Nat} {v : V} {d : PyData} (e : EnvL K H W σ Γ) (h : σ[i]? = some (some v)) (hd : Dp K (hide H W) v d) : EnvL K H W σ (Γ.set i (.dat d)) := by
  have := (e.setD hd i).1
  rw [set_self h] at this
  exact this
theorem EnvL.learnI {i : Nat} {v : V} (e : EnvL K H W σ Γ) (h : σ[i]? = some (some v)) : EnvL K H W σ (Γ.set i (.is v)) := by
  have := (e.setI (v := v) i).1
  rw [set_self h] at this
  exact this
theorem envl_uns : ∀ (σ : L2.St), EnvL K H W σ (List.replicate σ.length .un)
  | [] => .nil
  | x :: σ => .un (envl_uns σ)
/-- a datum without lists -/
theorem dp_off {v : V} {q : Rat} {F : List Addr} (h : Dp K H v (eQ q)) (hF : ∀ p ∈ F, ∃ vs, H p = some (.lst vs)) : Dp K (hide H F) v (eQ q) := by
  obtain ⟨a, vs, rfl, h1, h2⟩ := dp_tup h
  obtain ⟨x, y, rfl, hx, hy⟩ := dpall2 h2
  rw [dp_int hx, dp_int hy] at h1
  refine .tup (xs := [.int q.num, .int (q.den : Nat)]) ?_ (.cons (.int _) (.cons (.int _) .nil))
  rcases h1 with (h1 | ⟨o, h1⟩) | h1
  · refine .inl (.inl ?_)
    rw [hide_out fun z => ?_]
    · exact h1
    · obtain ⟨vs, g⟩ := hF a z
      rw [h1] at g
      cases g
  · refine .inl (.inr ⟨o, ?_⟩)
    rw [hide_out fun z => ?_]
    · exact h1
    · obtain ⟨vs, g⟩ := hF a z
      rw [h1] at g
      cases g
  · exact .inr h1
theorem frac_32 (q : Rat) : Rat.divInt (3 * q.num) (2 * q.den) = 3 / 2 * q := by
  have h1 : (3 / 2 : Rat).num = 3 := by decide +kernel
  have h2 : (3 / 2 : Rat).den = 2 := by decide +kernel
  have h := frac_mul (3 / 2) q
  rw [h1, h2] at h
  exact h
theorem bd_32 {D M : Nat} {q : Rat} (h : Bd D M q) : Bd (D * 2) (M * 2) (3 / 2 * q) := by
  obtain ⟨z, hz⟩ := h.int
  have h1 := h.lo
  have h2 := h.hi
  have e2 : ((2 : Nat) : Rat) = 2 := rfl
  have m0 := nat_cast_nonneg (D := M)
  refine ⟨⟨3 * z, ?_⟩, ?_, ?_⟩
  · rw [Rat.natCast_mul, Rat.intCast_mul, ← hz, e2]
    have : ((3 : Int) : Rat) = 3 := rfl
    rw [this]
    grind
  · rw [Rat.natCast_mul, e2]
    grind
  · rw [Rat.natCast_mul, e2]
    grind
theorem ed_near (h : EG J K Γ te (.raw (nearP K R))) : ED J K Γ te (dNear R) := fun O σ H e Q q => h O σ H e Q fun v H2 x r1 => by
  obtain ⟨a, p1, r, l, p2, p3, p4, vt, rfl, h2, _⟩ := r1
  exact q _ H2 x h2.da
end
/-! ### the best of the strains -/
def bm (st : Nat → Rat) : Nat → Rat
  | 0 => 0
  | i + 1 => if bm st i < st i then st i else bm st i
theorem bm_ge (st : Nat → Rat) : ∀ i, 0 ≤ bm st i ∧ ∀ j, j < i → st j ≤ bm st i
  | 0 => ⟨Rat.le_refl, fun j h => by omega⟩
  | i + 1 => by
    obtain ⟨h1, h2⟩ := bm_ge st i
    unfold bm
    split
    · rename_i c
      refine ⟨by grind, fun j hj => ?_⟩
      by_cases e : j = i
      · rw [e]
        exact Rat.le_refl
      · have := h2 j (by omega)
        grind
    · rename_i c
      refine ⟨h1, fun j hj => ?_⟩
      by_cases e : j = i
      · rw [e]
        exact Rat.not_lt.mp c
      · exact h2 j (by omega)
theorem bm_is (st : Nat → Rat) : ∀ i, bm st i = 0 ∨ ∃ j, j < i ∧ bm st i = st j
  | 0 => .inl rfl
  | i + 1 => by
    unfold bm
    split
    · exact .inr ⟨i, by omega, rfl⟩
    · rcases bm_is st i with h | ⟨j, hj, h⟩
      · exact .inl h
      · exact .inr ⟨j, by omega, h⟩
theorem bm_top {R : Nw.Ring} {D : Nat} {s : List Rat} (g : Rg R D) (ws : Ws R D s) : bm (Nw.strain R s) R.n = (Nw.topOf R s).1 := by
  have n0 : 0 < R.n := by have := g.ok.two; omega
  obtain ⟨b, hb, e⟩ := Nw.topOf_at (R := R) (s := s) n0
  obtain ⟨h1, h2⟩ := bm_ge (Nw.strain R s) R.n
  have h3 := h2 b hb
  have nn : 0 ≤ Nw.strain R s b := by
    refine Rat.not_lt.mp fun z => ?_
    have hr := g.ok.room b hb
    have h5 := Rat.mul_lt_mul_of_pos_right z hr
    unfold Nw.strain at h5
    rw [Rat.div_mul_cancel (by grind), Rat.zero_mul] at h5
    have := Nw.load_nonneg ws.ok b
    grind
  rcases bm_is (Nw.strain R s) R.n with h | ⟨j, hj, h⟩
  · rw [e]
    grind
  · have h4 := Nw.topOf_ge (R := R) (s := s) hj
    rw [e] at h4 ⊢
    grind
/-! ### promises -/
def P__law_right : Pd := fun ds r => ∃ R : Nw.Ring, ds = [eRing R] ∧ GoodR R ∧ r = .dat (.bool true)
def P_law : Pd := fun ds r => ∃ ns : List Int, ds = [.list (ns.map .int)] ∧ ns.length ≤ 63 ∧ r = .dat (.bool true)
section
variable {P : Program} {w : World} {K : PySem.W.Frag} {mg : Str → Option Value} {base : Heap} {Pr : Pd}
theorem has_mkG {x : Str} {st : Stmt} {N ps : List Str} {k : Nat} (D : Dfn K mg x st) (S : FnScope N ps (defScope st)) (hb : ∀ (kV doc pm : Value) (an : Option Addr) (cdv ct : Value) (us : List Value), us.length = ps.length → bindArgs (PySem.W.fnOf x x (defArgs st) (defBody st) (defScope st) .none kV doc pm an cdv ct) ⟨us, []⟩ = pure (ps.zip us))
    (hn : ∀ ds r, Pr ds r → ds.length = ps.length)
    (body : ∀ (f : Addr) (cdv : Value) (A : Around) (outer : List PySem.Env) (s : Shared) (H : Hp) (E : XK), A.guards = some [] → Room k (A.deeper (envOfC x (defScope st) s.heap.objs.size f cdv)) →
      ∃ t, PSs (cxOf CX0 P w K mg base N x (defScope st) f cdv A outer s H E).nox (defBody st) t ∧ ∀ ds r, Pr ds r → SG J0 K (entry N ds) t (fun _ => False) (fun _ r' => r' = r)) : HasG P w K mg base (k + 1) x ps.length (spF K Pr) := by
  obtain ⟨f, fd, F, hm⟩ := D.ex
  refine ⟨f, fd, ps, rfl, okG F S (fun vs H Q E h => ?_) (fun cdv A outer s H vs Q E gd hr h => ?_), hm, F.kp, F.binds hb⟩
  · obtain ⟨O, ds, r, hp, h1, _⟩ := h
    rw [h1.len]
    exact hn ds r hp
  · obtain ⟨O, ds, r, hp, h1, ho, q⟩ := h
    obtain ⟨t, ht, hs⟩ := body f cdv A outer s H E gd hr
    refine ⟨t, ht, hs ds r hp H O (L2.start N vs) H _ (entry_ok h1 ho) (fun _ _ _ z => z.elim) fun v H' σ' Γ' r' e x rd => ?_⟩
    subst e
    exact q v H' x.ex (rd_out rd)
end
end NwB
end NwL6_
section NwL7_
set_option Elab.async false
set_option linter.all false
set_option maxRecDepth 100000
set_option maxHeartbeats 4000000
namespace NwB
open PySem PySem.Spec PyProof.Rows L2 NwT
open Evl (Ex)
section
variable {P : Program} {w : World} {J : Ji} {K : PySem.W.Frag} {mg : Str → Option Value} {base : Heap}
theorem raw_unp4 {i a b c d : Nat} {u : TS} {D : Ends} {σ : L2.St} {H : Hp} {q : Addr} {w1 w2 w3 w4 : V} (h : σ[i]? = some (some (.ref q))) (h2 : H q = some (.tup [w1, w2, w3, w4])) (k : u D ((((σ.set a (some w1)).set b (some w2)).set c (some w3)).set d (some w4)) H) :
    tSeq (tAsg (tVar i) (gTup K 4 (gCons (gName a) (gCons (gName b) (gCons (gName c) (gCons (gName d) gNil)))))) u D σ H := ⟨_, h, q, [w1, w2, w3, w4], rfl, SqT.of h2, rfl, _, _, rfl, _, _, rfl, _, _, rfl, _, _, rfl, rfl, k⟩
theorem raw_anyA {te : TE} {i : Nat} {u : TS} {D : Ends} {σ : L2.St} {H : Hp} {o : HO} (h : ∀ Q : VK, (∀ L, H L = none → Q (.ref L) (upd H L o)) → te σ H Q) (k : ∀ L, H L = none → u D (σ.set i (some (.ref L))) (upd H L o)) : tSeq (tAsg te (gName i)) u D σ H := h _ k
theorem sc__law_right : FnScope ["_law_ring_here", "_law_told", "_law_ways", "_law_top", "_law_rounding", "_law_least", "_law_whole", "_law_most", "_law_best", "_law_tie", "_law_load", "_law_room", "_law_strain", "_law_bound", "_law_held", "_law_lists", "_law_sizes", "_law_k", "_law_some", "_law_ask", "_law_way", "_law_one"] ["_law_ring_here"] (defScope s__law_right) := ⟨rfl, rfl, rfl, by decide +kernel, rfl, by decide +kernel, by decide +kernel⟩
theorem has__law_right (T : Tx K mg) (h__law_greatest : Has P w K mg base 2 "_law_greatest" 2 P__law_greatest) (h__law_loads : Has P w K mg base 3 "_law_loads" 2 P__law_loads) (h__law_low : Has P w K mg base 1 "_law_low" 2 P__law_low) (h__law_parted : Has P w K mg base 2 "_law_parted" 2 P__law_parted) (h__law_plus : Has P w K mg base 2 "_law_plus" 2 P__law_plus) (h__law_under : Has P w K mg base 1 "_law_under" 2 P__law_under) (h_lets_least : Has P w K mg base 7 "lets_least" 2 P_lets_least) (h_lets_rounding : Has P w K mg base 8 "lets_rounding" 3 P_lets_rounding) (h_near_whole : Has P w K mg base 11 "near_whole" 1 (P_near_whole K)) (h_slid_by : Has P w K mg base 6 "slid_by" 3 P_slid_by) : HasG P w K mg base 12 "_law_right" 1 (spF K P__law_right) := by
  refine has_mkG (N := ["_law_ring_here", "_law_told", "_law_ways", "_law_top", "_law_rounding", "_law_least", "_law_whole", "_law_most", "_law_best", "_law_tie", "_law_load", "_law_room", "_law_strain", "_law_bound", "_law_held", "_law_lists", "_law_sizes", "_law_k", "_law_some", "_law_ask", "_law_way", "_law_one"]) (ps := ["_law_ring_here"]) (k := 11) T.d__law_right sc__law_right (fun _ _ _ _ _ _ us hl => match us, hl with | [_], _ => rfl) (fun ds r hp => ?_) (fun f cdv A outer s H E gd hr => ⟨_, (pss_cons (ps_set (i := 1) sc__law_right.nd rfl (Or.inl rfl) (pe_hasK h_near_whole (hr.mono (by decide)) (by rfl) (pa_cons (pv 0) pa_nil)))
  (pss_cons (ps_if (PW.pt (pw_or (pt_not (pt_val (pe_callB (isiK K) (by rfl) T.isinstance bb_isinstance (pa_cons (pv 1) (pa_cons (pe_bltn (v := .ty "tuple") (by rfl) T.tuple bb_tuple rfl) pa_nil))))) (pw_or (pt_cmpR (neK K hr.units) (pe_callB (lenK K) (by rfl) T.len bb_len (pa_cons (pv 1) pa_nil)) pe_int (nomark _)) (pw_or1 (pt_not (pt_val (pe_callB (isiK K) (by rfl) T.isinstance bb_isinstance (pa_cons (pe_ix (ixK K) (pv 1) pe_int (fun _ _ => rfl)) (pa_cons (pe_bltn (v := .ty "list") (by rfl) T.list bb_list rfl) pa_nil))))))))) (pss_one (ps_ret pe_bl)) pss_nil)
  (pss_cons (ps_asg (pv 1) (pg_tupK K rfl (pgs_cons (pg_name (i := 2) sc__law_right.nd rfl (Or.inl rfl)) (pgs_cons (pg_name (i := 3) sc__law_right.nd rfl (Or.inl rfl)) (pgs_cons (pg_name (i := 4) sc__law_right.nd rfl (Or.inl rfl)) (pgs_cons (pg_name (i := 5) sc__law_right.nd rfl (Or.inl rfl)) pgs_nil))))))
  (pss_cons (ps_if (PW.pt (pw_or (pt_not (pt_val (pe_hasK h_lets_least (hr.mono (by decide)) (by rfl) (pa_cons (pv 0) (pa_cons (pv 5) pa_nil))))) (pw_or (pt_not (pt_val (pe_hasK h_lets_rounding (hr.mono (by decide)) (by rfl) (pa_cons (pv 0) (pa_cons (pe_ix (ixK K) (pv 5) pe_int (fun _ _ => rfl)) (pa_cons (pv 4) pa_nil)))))) (pw_or1 (pt_cmpR (neK K hr.units) (pe_ix (ixK K) (pv 4) pe_int (fun _ _ => rfl)) (pv 2) (nomark _)))))) (pss_one (ps_ret pe_bl)) pss_nil)
  (pss_cons (ps_setLc (i := 6) (own := [("_law_ask", 19), ("_law_way", 20)]) (g := gTup K 2 (gCons (gName 19) (gCons (gName 20) gNil))) rfl sc__law_right.nd rfl rfl (sw_true rfl rfl rfl (by decide +kernel)) (pi_zipK K (by rfl) T.zip (pa_cons (pe_ix (ixK K) (pv 0) pe_int (fun _ _ => rfl)) (pa_cons (pv 2) pa_nil))) (blkOk_by (own := [("_law_ask", 19), ("_law_way", 20)]) (N := ["_law_ring_here", "_law_told", "_law_ways", "_law_top", "_law_rounding", "_law_least", "_law_whole", "_law_most", "_law_best", "_law_tie", "_law_load", "_law_room", "_law_strain", "_law_bound", "_law_held", "_law_lists", "_law_sizes", "_law_k", "_law_some", "_law_ask", "_law_way", "_law_one"]) (sc := (defScope s__law_right)) (by decide +kernel)) (fun _ _ _ _ _ => pg_tupK K rfl (pgs_cons (pg_name (i := 19) sc__law_right.nd rfl (Or.inl rfl)) (pgs_cons (pg_name (i := 20) sc__law_right.nd rfl (Or.inl rfl)) pgs_nil))) (fun _ _ _ _ _ => pts_nil) (fun _ _ _ _ _ => by exact (pe_ix (ixK K) (pe_lst (pa_cons (pe_tup (pa_cons pe_int (pa_cons pe_int pa_nil))) (pa_cons (pe_ix (ixK K) (pv 19) pe_int (fun _ _ => rfl)) pa_nil))) (pe_callTy call_int1 (by rfl) T.int bb_int (pa_cons (pe_cmpR (eqK K hr.units) (pv 20) pe_str (nomark _)) pa_nil)) (fun _ _ => rfl))))
  (pss_cons (ps_set (i := 7) sc__law_right.nd rfl (Or.inl rfl) (pe_hasK h__law_greatest (hr.mono (by decide)) (by rfl) (pa_cons (pv 0) (pa_cons (pe_hasK h__law_parted (hr.mono (by decide)) (by rfl) (pa_cons (pv 0) (pa_cons (pe_hasK h_slid_by (hr.mono (by decide)) (by rfl) (pa_cons (pv 0) (pa_cons (pe_ix (ixK K) (pv 5) pe_int (fun _ _ => rfl)) (pa_cons (pe_ix (ixK K) (pv 4) pe_int (fun _ _ => rfl)) pa_nil)))) pa_nil))) pa_nil))))
  (pss_cons (ps_set (i := 8) sc__law_right.nd rfl (Or.inl rfl) (pe_tup (pa_cons pe_int (pa_cons pe_int pa_nil))))
  (pss_cons (ps_for PassesOwn.never rfl (pi_enumK K (by rfl) T.enumerate (pa_cons (pe_hasK h__law_loads (hr.mono (by decide)) (by rfl) (pa_cons (pv 0) (pa_cons (pv 6) pa_nil))) pa_nil)) (pg_tupK K rfl (pgs_cons (pg_name (i := 9) sc__law_right.nd rfl (Or.inl rfl)) (pgs_cons (pg_name (i := 10) sc__law_right.nd rfl (Or.inl rfl)) pgs_nil)))
  (pss_cons (ps_set (i := 11) sc__law_right.nd rfl (Or.inl rfl) (pe_ix (ixK K) (pe_ix (ixK K) (pv 0) pe_int (fun _ _ => rfl)) (pv 9) (fun _ _ => rfl)))
  (pss_cons (ps_set (i := 12) sc__law_right.nd rfl (Or.inl rfl) (pe_hasK h__law_low (hr.mono (by decide)) (by rfl) (pa_cons (pe_op op_mulW (pe_ix (ixK K) (pv 10) pe_int (fun _ _ => rfl)) (pe_ix (ixK K) (pv 11) pe_int (fun _ _ => rfl))) (pa_cons (pe_op op_mulW (pe_ix (ixK K) (pv 10) pe_int (fun _ _ => rfl)) (pe_ix (ixK K) (pv 11) pe_int (fun _ _ => rfl))) pa_nil))))
  (pss_cons (ps_set (i := 13) sc__law_right.nd rfl (Or.inl rfl) (pe_hasK h__law_low (hr.mono (by decide)) (by rfl) (pa_cons (pe_op op_mulW (pe_ix (ixK K) (pe_ix (ixK K) (pv 5) pe_int (fun _ _ => rfl)) pe_int (fun _ _ => rfl)) (pe_ix (ixK K) (pv 11) pe_int (fun _ _ => rfl))) (pa_cons (pe_op op_mulW (pe_ix (ixK K) (pe_ix (ixK K) (pv 5) pe_int (fun _ _ => rfl)) pe_int (fun _ _ => rfl)) (pe_ix (ixK K) (pv 11) pe_int (fun _ _ => rfl))) pa_nil))))
  (pss_cons (ps_if (pt_val (pe_hasK h__law_under (hr.mono (by decide)) (by rfl) (pa_cons (pe_hasK h__law_plus (hr.mono (by decide)) (by rfl) (pa_cons (pv 13) (pa_cons (pe_hasK h__law_low (hr.mono (by decide)) (by rfl) (pa_cons (pe_op op_mulW pe_int (pe_ix (ixK K) (pv 7) pe_int (fun _ _ => rfl))) (pa_cons (pe_op op_mulW pe_int (pe_ix (ixK K) (pv 7) pe_int (fun _ _ => rfl))) pa_nil))) pa_nil))) (pa_cons (pv 10) pa_nil)))) (pss_one (ps_ret pe_bl)) pss_nil)
  (pss_one (ps_if (pt_val (pe_hasK h__law_under (hr.mono (by decide)) (by rfl) (pa_cons (pv 8) (pa_cons (pv 12) pa_nil)))) (pss_one (ps_set (i := 8) sc__law_right.nd rfl (Or.inl rfl) (pv 12))) pss_nil)))))))
  (pss_cons (ps_set (i := 14) sc__law_right.nd rfl (Or.inl rfl) (pe_callB (reprK K gd hr.units) (by rfl) T.repr bb_repr (pa_cons (pv 1) pa_nil)))
  (pss_cons (ps_set (i := 15) sc__law_right.nd rfl (Or.inl rfl) (pe_lst (pa_cons (pv 2) (pa_cons (pe_ix (ixK K) (pv 4) pe_int (fun _ _ => rfl)) (pa_cons (pe_ix (ixK K) (pv 4) pe_int (fun _ _ => rfl)) (pa_cons (pe_ix (ixK K) (pv 5) pe_int (fun _ _ => rfl)) pa_nil))))))
  (pss_cons (ps_setLc (i := 16) (own := [("_law_some", 18)]) (g := gName 18) rfl sc__law_right.nd rfl rfl (sw_true rfl rfl rfl (by decide +kernel)) (pi_listK K (pv 15)) (blkOk_by (own := [("_law_some", 18)]) (N := ["_law_ring_here", "_law_told", "_law_ways", "_law_top", "_law_rounding", "_law_least", "_law_whole", "_law_most", "_law_best", "_law_tie", "_law_load", "_law_room", "_law_strain", "_law_bound", "_law_held", "_law_lists", "_law_sizes", "_law_k", "_law_some", "_law_ask", "_law_way", "_law_one"]) (sc := (defScope s__law_right)) (by decide +kernel)) (fun _ _ _ _ _ => pg_name (i := 18) sc__law_right.nd rfl (Or.inl rfl)) (fun _ _ _ _ _ => pts_nil) (fun _ _ _ _ _ => by exact (pe_callB (lenK K) (by rfl) T.len bb_len (pa_cons (pv 18) pa_nil))))
  (pss_cons (ps_for PassesOwn.never rfl (pi_enumK K (by rfl) T.enumerate (pa_cons (pv 15) pa_nil)) (pg_tupK K rfl (pgs_cons (pg_name (i := 17) sc__law_right.nd rfl (Or.inl rfl)) (pgs_cons (pg_name (i := 18) sc__law_right.nd rfl (Or.inl rfl)) pgs_nil)))
  (pss_cons (ps_expr (pe_bm PySem.F.plainAttrs_list PySem.F.slot_list_append PySem.F.type_list_append mt_append (pv 18) (pa_cons pe_non pa_nil)))
  (pss_cons (ps_asg (pe_op op_add (pe_ix (ixK K) (pv 16) (pv 17) (fun _ _ => rfl)) pe_int) (pg_sub (pv 16) (pv 17) set_list))
  (pss_one (ps_if (pt_cmpR (neK K hr.units) (pe_lc (own := [("_law_one", 21)]) (g := gName 21) rfl sc__law_right.nd (pi_listK K (pv 15)) (blkOk_by (own := [("_law_one", 21)]) (N := ["_law_ring_here", "_law_told", "_law_ways", "_law_top", "_law_rounding", "_law_least", "_law_whole", "_law_most", "_law_best", "_law_tie", "_law_load", "_law_room", "_law_strain", "_law_bound", "_law_held", "_law_lists", "_law_sizes", "_law_k", "_law_some", "_law_ask", "_law_way", "_law_one"]) (sc := (defScope s__law_right)) (by decide +kernel)) (fun _ _ _ _ _ => pg_name (i := 21) sc__law_right.nd rfl (Or.inl rfl)) (fun _ _ _ _ _ => pts_nil) (fun _ _ _ _ _ => by exact (pe_callB (lenK K) (by rfl) T.len bb_len (pa_cons (pv 21) pa_nil)))) (pv 16) (nomark _)) (pss_one (ps_ret pe_bl)) pss_nil)))))
  (pss_one (ps_ret (pe_and (pe_cmpR (eqK K hr.units) (pv 3) (pv 8) (nomark _)) (pe_one (pe_cmpR (eqK K hr.units) (pe_callB (reprK K gd hr.units) (by rfl) T.repr bb_repr (pa_cons (pe_hasK h_near_whole (hr.mono (by decide)) (by rfl) (pa_cons (pv 0) pa_nil)) pa_nil)) (pv 14) (nomark _)))))))))))))))))), ?_⟩)
  · rcases hp with ⟨_, rfl, _⟩
    rfl
  rintro ds rr ⟨R, rfl, gr, rfl⟩
  intro B O σ H Dn sb nx ret
  have hlen : σ.length = 22 := sb.env.sl.len
  have gL := gr.L
  obtain ⟨D0, g0, hD0⟩ := id gL
  obtain ⟨D', kf⟩ := fk_of g0 hD0
  have g := kf.G
  have ws : Ws R (D' * 2 ^ 8) (Nw.nearParts R) := fill_ws kf
  have n0 : 0 < R.n := by have := g.ok.two; omega
  have n8 := g.n8
  have m8 := g.m8
  obtain ⟨g1, g2, g3, g4⟩ := Nw.gcut_spec (R := R) n0
  have sok := Nw.slidesFor_ok g.ok ws.ok
  have am := slides_am g ws
  have bws := behind_ws g ws
  have rok := Nw.wholeWays_ok bws.ok
  have cr : ∀ k ∈ Nw.partedL R (Nw.behind (Nw.nearParts R) (Nw.slidesFor R (Nw.nearParts R))), ∀ j ∈ Nw.partedL R (Nw.behind (Nw.nearParts R) (Nw.slidesFor R (Nw.nearParts R))), k < j → Nw.cross (R.at k) (R.at j) = true := fun k hk j hj kj => Nw.nextSlide_none sok.2.2.1 hk hj kj
  obtain ⟨v0, gv0, dv0⟩ := sb.env.sl.get (i := 0) (d := eRing R) rfl
  have oE : ∀ (σ : L2.St) {Γ : List Sl}, Γ.all flatS = true → ows σ Γ = [] := fun σ Γ h => ows_flat σ Γ h
  rw [oE σ rfl] at dv0
  refine raw_step (r := .raw (nearP K R)) (eg_call (ea_cons (ed_var rfl) ea_nil) ⟨R, rfl, gL, rfl⟩) sb.env fun v1 H1 x1 r1 => ?_
  obtain ⟨a, p1, r, l, p2, p3, p4, vt, rfl, nr, ⟨ka, kr, kl⟩, ⟨m1, m2, m3, m4⟩, nd⟩ := r1
  rw [oE σ rfl] at nr
  have fresh : ∀ p ∈ [a, r, l, p1, p2, p3, p4], H p = none := fun p hp => by
    simp only [List.mem_cons, List.not_mem_nil, or_false] at hp
    rcases hp with rfl | rfl | rfl | rfl | rfl | rfl | rfl
    · exact ka
    · exact kr
    · exact kl
    · exact m1.1
    · exact m2.1
    · exact m3.1
    · exact m4.1
  have nO : ∀ p ∈ [a, r, l, p1, p2, p3, p4], p ∉ O := fun p hp z => sb.env.all p z (fresh p hp)
  have lists : ∀ p ∈ [p1, p2, p3, p4], ∃ vs, H1 p = some (.lst vs) ∧ vs.length ≤ 1000 := fun p hp => by
    simp only [List.mem_cons, List.not_mem_nil, or_false] at hp
    rcases hp with rfl | rfl | rfl | rfl
    · exact m1.2
    · exact m2.2
    · exact m3.2
    · exact m4.2
  have fp : ∀ p ∈ [p1, p2, p3, p4], p ∈ [a, r, l, p1, p2, p3, p4] := fun p hp => List.mem_cons_of_mem _ (List.mem_cons_of_mem _ (List.mem_cons_of_mem _ hp))
  have dring : Dp K (hide H1 ([p1, p2, p3, p4] ++ O)) v0 (eRing R) := by
    have h1 : Dp K (hide H ([p1, p2, p3, p4] ++ O)) v0 (eRing R) := by rw [hide_news _ fun p hp => fresh p (fp p hp)]; exact dv0
    exact Dp.ex h1 (hide_ex x1)
  have s1 : Sb (JN K R a p1 r l p2 p3 p4 vt v0) K B O H1 (σ.set 1 (some (.ref a))) [.is v0, .is (.ref a), .un, .un, .un, .un, .un, .un, .un, .un, .un, .un, .un, .un, .un, .un, .un, .un, .un, .un, .un, .un] := by
    have z := ((sb.mono x1).setI (v := .ref a) 1)
    have z2 := z.setI (v := v0) 0
    have e : (σ.set 1 (some (.ref a))).set 0 (some v0) = σ.set 1 (some (.ref a)) := set_self (by rw [List.getElem?_set, if_neg (by decide)]; exact gv0)
    rw [e] at z2
    refine ⟨⟨z2.env.sl, z2.env.dis, z2.env.all, fun x y => absurd y (by show ¬ x ∈ ([] : List Addr); simp), ?_⟩, z2.ex, z2.new⟩
    rw [oE _ rfl]
    exact ⟨nr, nO, lists, dring⟩
  refine raw_seq (N := fun Γ' => Γ' = [.is v0, .is (.ref a), .un, .un, .un, .un, .un, .un, .un, .un, .un, .un, .un, .un, .un, .un, .un, .un, .un, .un, .un, .un]) (sg_if (b := false) (eb_or (a := false) (b := false) (eb_not (b := true) (eb_B (ed_isi (ed_na rfl) k_tt))) fun _ => eb_or (a := false) (b := false) (eb_is (eb_test (ed_neI (ed_lenT (ed_na rfl)) ed_int)) rfl) fun _ => eb_not (b := true) (eb_B (ed_isi (ed_ixT (ed_na rfl) ed_int rfl) k_ll))) (fun z => by cases z) fun _ => sg_next (lq_refl rfl)) s1 fun Γ' σ2 H2 hN s2 => ?_
  subst hN
  obtain ⟨⟨⟨u1, u2, hA, hR, hL⟩, _, _, dvt, _⟩, _⟩ := s2.env.inv
  refine raw_unp4 (s2.env.sl.getI rfl) hA ?_
  have s3 : Sb (JN K R a p1 r l p2 p3 p4 vt v0) K B O H2 ((((σ2.set 2 (some (.ref p1))).set 3 (some vt)).set 4 (some (.ref r))).set 5 (some (.ref l))) [.is v0, .is (.ref a), .is (.ref p1), .dat (eQ (Nw.topOf R (Nw.sent R (Nw.nearWays R))).1), .is (.ref r), .is (.ref l), .un, .un, .un, .un, .un, .un, .un, .un, .un, .un, .un, .un, .un, .un, .un, .un] :=
    (((s2.setI (v := .ref p1) 2).setD (by rw [oE _ rfl] at dvt ⊢; exact dvt) 3).setI (v := .ref r) 4).setI (v := .ref l) 5
  refine raw_seq (N := fun Γ' => Γ' = [.is v0, .is (.ref a), .is (.ref p1), .dat (eQ (Nw.topOf R (Nw.sent R (Nw.nearWays R))).1), .is (.ref r), .is (.ref l), .un, .un, .un, .un, .un, .un, .un, .un, .un, .un, .un, .un, .un, .un, .un, .un]) ?h4 s3 fun Γ' σ4 H4 hN s4 => ?_
  case h4 => exact sg_if (b := false) (eb_or (a := false) (b := false) (eb_not (b := true) (eb_B (eg_call (ea_cons (ed_n0 rfl) (ea_cons (ed_nl rfl) ea_nil)) ⟨R, _, Nw.nearParts R, (Nw.gcut R).2, rfl, ⟨_, g, ws⟩, g2, g3, Nw.top_fill g.ok, g1.symm, rfl⟩))) fun _ => eb_or (a := false) (b := false) (eb_not (b := true) (eb_B (eg_call (ea_cons (ed_n0 rfl) (ea_cons (ed_ixT (ed_nl rfl) ed_int rfl) (ea_cons (ed_nr rfl) ea_nil))) ⟨R, Nw.nearParts R, Nw.slidesFor R (Nw.nearParts R), _, rfl, ⟨_, g, ws, am⟩, sok.1, cr, rok, rfl⟩))) fun _ => eb_is (eb_test (ed_neD (ed_ixT (ed_nr rfl) ed_int rfl) (ed_n1 rfl) (sh_Ws _) (sh_Ws _))) (congrArg not (eqv_Ws (Nw.nearWays R)))) (fun z => by cases z) fun _ => sg_next (lq_refl rfl)
  subst hN
  have lw : (Nw.nearWays R).length = R.m := Nw.wholeWays_len
  refine raw_seq (N := fun Γ' => Γ' = [.is v0, .is (.ref a), .is (.ref p1), .dat (eQ (Nw.topOf R (Nw.sent R (Nw.nearWays R))).1), .is (.ref r), .is (.ref l), .dat (eS (Nw.sent R (Nw.nearWays R))), .un, .un, .un, .un, .un, .un, .un, .un, .un, .un, .un, .un, .un, .un, .un]) (sg_asg (d := eS (Nw.sent R (Nw.nearWays R))) (ed_of_own (own_is (lc_Z (a := 19) (c := 20) (vs := [19, 20]) (es := (Nw.nearWays R).map eW) (fun _ => true) (fun i => eQ (if Nw.wt (Nw.nearWays R) i then (R.at i).size else 0)) (fun i hi => by rcases List.mem_cons.mp hi with rfl | hi <;> first | rfl | (rw [List.mem_singleton.mp hi]; rfl)) (by decide) (by decide) (by decide) (ed_asks (ed_n0 rfl)) (ed_n1 rfl) (by rw [List.length_map, List.length_map]; exact lw.symm) (by rw [List.length_map]; have : R.asks.length ≤ 8 := m8; omega) (fun _ _ _ _ _ => eb_yes) (fun i d e hd he _ => ?_)) ?_)) (lq_refl rfl)) s4 fun Γ' σ5 H5 hN s5 => ?_
  · obtain ⟨hi, rfl⟩ := ask_at hd
    obtain ⟨_, rfl⟩ := ws_at he
    refine ed_ixL (el_dat (ed_of_own (own_lst (ea_cons (ed_is (ed_tup (ea_cons ed_int (ea_cons ed_int ea_nil))) eQ_zero) (ea_cons (ed_ixT (ed_var rfl) ed_int rfl) ea_nil))))) (ed_intB (ed_is (ed_eqS (i := wS (Nw.wt (Nw.nearWays R) i)) (j := "on") (ed_var rfl) ed_str) (congrArg PyData.bool (way_on _)))) ?_
    cases Nw.wt (Nw.nearWays R) i <;> rfl
  · rw [told_all, List.length_map]
    unfold Nw.sent
    rw [List.map_map]
    rfl
  subst hN
  refine raw_seq (N := fun Γ' => Γ' = [.is v0, .is (.ref a), .is (.ref p1), .dat (eQ (Nw.topOf R (Nw.sent R (Nw.nearWays R))).1), .is (.ref r), .is (.ref l), .dat (eS (Nw.sent R (Nw.nearWays R))), .dat (eQ (Nw.greatestSize R (Nw.partedL R (Nw.nearBehind R)))), .un, .un, .un, .un, .un, .un, .un, .un, .un, .un, .un, .un, .un, .un]) ?h6 s5 fun Γ' σ6 H6 hN s6 => ?_
  case h6 => exact sg_asg (eg_call (ea_cons (ed_n0 rfl) (ea_cons (ed_of_own (eg_call (ea_cons (ed_n0 rfl) (ea_cons (eg_call (ea_cons (ed_n0 rfl) (ea_cons (ed_ixT (ed_nl rfl) ed_int rfl) (ea_cons (ed_ixT (ed_nr rfl) ed_int rfl) ea_nil))) ⟨R, Nw.nearParts R, Nw.slidesFor R (Nw.nearParts R), rfl, ⟨_, g, ws, am⟩, sok.1, rfl⟩) ea_nil)) ⟨R, _, rfl, ⟨_, g, bws⟩, rfl⟩)) ea_nil)) ⟨R, _, rfl, ⟨_, g⟩, fun k hk => parted_m hk, rfl⟩) (lq_refl rfl)
  subst hN
  refine raw_seq (N := fun Γ' => Γ' = [.is v0, .is (.ref a), .is (.ref p1), .dat (eQ (Nw.topOf R (Nw.sent R (Nw.nearWays R))).1), .is (.ref r), .is (.ref l), .dat (eS (Nw.sent R (Nw.nearWays R))), .dat (eQ (Nw.greatestSize R (Nw.partedL R (Nw.nearBehind R)))), .dat (eQ 0), .un, .un, .un, .un, .un, .un, .un, .un, .un, .un, .un, .un, .un]) (sg_asg (ed_is (ed_tup (ea_cons ed_int (ea_cons ed_int ea_nil))) eQ_zero) (lq_refl rfl)) s6 fun Γ' σ7 H7 hN s7 => ?_
  subst hN
  have sw := sent_ws g (Nw.nearWays R)
  have zst : ∀ i, i < R.n → Z (Nw.strain R (Nw.sent R (Nw.nearWays R)) i) := fun i hi => strain_z g sw hi
  have zbm : ∀ i, i ≤ R.n → Z (bm (Nw.strain R (Nw.sent R (Nw.nearWays R))) i) := fun i hi => by
    rcases bm_is (Nw.strain R (Nw.sent R (Nw.nearWays R))) i with h | ⟨j, hj, h⟩
    · rw [h]
      exact Z.zero
    · rw [h]
      exact zst j (by omega)
  have gb := greatest_bd g (Nw.partedL R (Nw.nearBehind R)) 0 (fun k hk => parted_m hk) Bd.zero
  refine raw_seq (N := fun Γ' => Γ' = [.is v0, .is (.ref a), .is (.ref p1), .dat (eQ (Nw.topOf R (Nw.sent R (Nw.nearWays R))).1), .is (.ref r), .is (.ref l), .dat (eS (Nw.sent R (Nw.nearWays R))), .dat (eQ (Nw.greatestSize R (Nw.partedL R (Nw.nearBehind R)))), .dat (eQ (bm (Nw.strain R (Nw.sent R (Nw.nearWays R))) R.n)), .un, .un, .un, .un, .un, .un, .un, .un, .un, .un, .un, .un, .un]) (sg_forE (ds := (List.range R.n).map fun i => eQ (Nw.load R (Nw.sent R (Nw.nearWays R)) i)) (fun i Γ' => Γ' = [.is v0, .is (.ref a), .is (.ref p1), .dat (eQ (Nw.topOf R (Nw.sent R (Nw.nearWays R))).1), .is (.ref r), .is (.ref l), .dat (eS (Nw.sent R (Nw.nearWays R))), .dat (eQ (Nw.greatestSize R (Nw.partedL R (Nw.nearBehind R)))), .dat (eQ (bm (Nw.strain R (Nw.sent R (Nw.nearWays R))) i)), .un, .un, .un, .un, .un, .un, .un, .un, .un, .un, .un, .un, .un]) (ed_of_own (eg_call (ea_cons (ed_n0 rfl) (ea_cons (ed_var rfl) ea_nil)) ⟨R, _, rfl, ⟨_, g, sw⟩, rfl⟩)) ⟨_, Le.refl _, rfl⟩ ?_ ?_) s7 fun Γ' σ8 H8 hN s8 => ?_
  · rintro i d Γ' hd rfl
    obtain ⟨hi, rfl⟩ := map_range_at hd
    have lb := load_bd g sw i
    have zl := g.z lb
    have rb := g.room i hi
    have zr := g.z rb
    have rp := g.ok.room i hi
    have rnp := rat_num_pos rp
    refine qd (d := eQ (R.room i)) (ed_room (ed_n0 rfl) (ed_var rfl) hi) ?_
    refine qd (d := eQ (Nw.strain R (Nw.sent R (Nw.nearWays R)) i)) (ed_is (eg_call (ea_cons (ed_opC (ed_ixT (ed_var rfl) ed_int rfl) (ed_ixT (ed_var rfl) ed_int rfl) (mulS (zn _ zl) (zd _ zr))) (ea_cons (ed_opC (ed_ixT (ed_var rfl) ed_int rfl) (ed_ixT (ed_var rfl) ed_int rfl) (mulS (zd _ zl) (zn _ zr))) ea_nil)) ⟨_, _, rfl, Int.mul_pos (den_pos' _) rnp, Nat.lt_trans (wide_lt (zd _ zl) (zn _ zr)) (Nat.pow_lt_pow_right (by decide) (by decide)), rfl⟩) (by rw [frac_div]; rfl)) ?_
    have zt := kf.ztop
    have tb := top_room_bd kf hi
    refine qd (d := eQ ((Nw.gcut R).1 * R.room i)) (ed_is (eg_call (ea_cons (ed_opC (ed_ixT (ed_ixT (ed_nl rfl) ed_int rfl) ed_int rfl) (ed_ixT (ed_var rfl) ed_int rfl) (mulS (zn _ zt) (zn _ zr))) (ea_cons (ed_opC (ed_ixT (ed_ixT (ed_nl rfl) ed_int rfl) ed_int rfl) (ed_ixT (ed_var rfl) ed_int rfl) (mulS (zd _ zt) (zd _ zr))) ea_nil)) ⟨_, _, rfl, (den_prod zt zr).1, (den_prod zt zr).2, rfl⟩) (by rw [frac_mul])) ?_
    have zg := g.z gb
    have b3 := bd_32 gb
    have D2 : D' * 2 ^ 8 * 2 < 2 ^ 301 := by have := kf.big; omega
    have zz : ∀ {M : Nat} {q : Rat}, Bd (D' * 2 ^ 8 * 2) M q → M ≤ 2 ^ 600 → Z q := fun {M q} h hM => h.z (by have := g.D0; omega) (by
      calc M * (D' * 2 ^ 8 * 2) ≤ 2 ^ 600 * (D' * 2 ^ 8 * 2) := Nat.mul_le_mul_right _ hM
        _ < 2 ^ 600 * 2 ^ 301 := Nat.mul_lt_mul_of_pos_left D2 (Nat.two_pow_pos _)
        _ ≤ 2 ^ 1000 := by decide) (Nat.lt_of_lt_of_le D2 (Nat.pow_le_pow_right (by decide) (by decide)))
    have z3 := zz b3 (by decide)
    have zsum := zz ((tb.mul 2).add b3) (by decide)
    have small3 : (3 : Int).natAbs < 2 ^ 1000 := Nat.lt_of_lt_of_le (show (3 : Int).natAbs < 2 ^ 2 by decide) (Nat.pow_le_pow_right (by decide) (by decide))
    have small2 : (2 : Int).natAbs < 2 ^ 1000 := Nat.lt_of_lt_of_le (show (2 : Int).natAbs < 2 ^ 2 by decide) (Nat.pow_le_pow_right (by decide) (by decide))
    refine q0 (eb_is (eb_B (eg_call (ea_cons (eg_call (ea_cons (ed_var rfl) (ea_cons (ed_is (eg_call (ea_cons (ed_opC ed_int (ed_ixT (ed_var rfl) ed_int rfl) (mulS small3 (zn _ zg))) (ea_cons (ed_opC ed_int (ed_ixT (ed_var rfl) ed_int rfl) (mulS small2 (zd _ zg))) ea_nil)) ⟨_, _, rfl, Int.mul_pos (by decide) (den_pos' _), Nat.lt_trans (wide_lt small2 (zd _ zg)) (Nat.pow_lt_pow_right (by decide) (by decide)), rfl⟩) (by rw [frac_32]; rfl)) ea_nil)) ⟨_, _, rfl, g.z tb, z3, rfl⟩) (ea_cons (ed_var rfl) ea_nil)) ⟨_, _, rfl, zsum, zl, rfl⟩)) (decide_eq_false (Rat.not_lt.mpr (Nw.near_bound g.ok hi)))) ?_
    refine sg_if (b := decide (bm (Nw.strain R (Nw.sent R (Nw.nearWays R))) i < Nw.strain R (Nw.sent R (Nw.nearWays R)) i)) (eb_B (eg_call (ea_cons (ed_var rfl) (ea_cons (ed_var rfl) ea_nil)) ⟨_, _, rfl, zbm i (by omega), zst i hi, rfl⟩)) (fun h => ?_) fun h => ?_
    · refine sg_asg (ed_var rfl) ⟨_, .same (.same (.same (.same (.same (.same (.same (.same (.same (.un (.un (.un (.un (.un (.same (.same (.same (.same (.same (.same (.same (.same .nil))))))))))))))))))))), lq_refl ?_⟩
      have e : bm (Nw.strain R (Nw.sent R (Nw.nearWays R))) (i + 1) = Nw.strain R (Nw.sent R (Nw.nearWays R)) i := if_pos (of_decide_eq_true h)
      rw [e]
    · refine sg_next ⟨_, .same (.same (.same (.same (.same (.same (.same (.same (.same (.un (.un (.un (.un (.un (.same (.same (.same (.same (.same (.same (.same (.same .nil))))))))))))))))))))), lq_refl ?_⟩
      have e : bm (Nw.strain R (Nw.sent R (Nw.nearWays R))) (i + 1) = bm (Nw.strain R (Nw.sent R (Nw.nearWays R))) i := if_neg (of_decide_eq_false h)
      rw [e]
  · rintro Γ' rfl
    rw [List.length_map, List.length_range]
    exact lq_refl rfl
  subst hN
  rw [bm_top g sw] at s8
  have tln := tl_near gr
  refine raw_seq (N := fun Γ' => Γ' = [.is v0, .is (.ref a), .is (.ref p1), .dat (eQ (Nw.topOf R (Nw.sent R (Nw.nearWays R))).1), .is (.ref r), .is (.ref l), .dat (eS (Nw.sent R (Nw.nearWays R))), .dat (eQ (Nw.greatestSize R (Nw.partedL R (Nw.nearBehind R)))), .dat (eQ (Nw.topOf R (Nw.sent R (Nw.nearWays R))).1), .un, .un, .un, .un, .un, .dat (.str (PyData.shown (dNear R))), .un, .un, .un, .un, .un, .un, .un]) (sg_asg (ed_repr tln (ed_na rfl)) (lq_refl rfl)) s8 fun Γ' σ9 H9 hN s9 => ?_
  subst hN
  obtain ⟨⟨⟨w1, w2, hA9, hR9, hL9⟩, _⟩, nW, ls9, dr9⟩ := s9.env.inv
  have gI : ∀ {i : Nat} {v : V}, [Sl.is v0, .is (.ref a), .is (.ref p1), .dat (eQ (Nw.topOf R (Nw.sent R (Nw.nearWays R))).1), .is (.ref r), .is (.ref l), .dat (eS (Nw.sent R (Nw.nearWays R))), .dat (eQ (Nw.greatestSize R (Nw.partedL R (Nw.nearBehind R)))), .dat (eQ (Nw.topOf R (Nw.sent R (Nw.nearWays R))).1), .un, .un, .un, .un, .un, .dat (.str (PyData.shown (dNear R))), .un, .un, .un, .un, .un, .un, .un][i]? = some (.is v) → σ9[i]? = some (some v) := fun h => s9.env.sl.getI h
  refine raw_anyA (o := .lst [.ref p1, .ref p2, .ref p3, .ref p4]) (fun Q hQ => ⟨_, gI (i := 2) rfl, _, gI (i := 4) rfl, .inr (.inl ⟨r, [.ref p2, .ref p3], 0, .ref p2, rfl, rfl, SqT.of hR9, rfl, _, gI (i := 4) rfl, .inr (.inl ⟨r, [.ref p2, .ref p3], 1, .ref p3, rfl, rfl, SqT.of hR9, rfl, _, gI (i := 5) rfl, .inr (.inl ⟨l, [w1, .ref p4, w2], 1, .ref p4, rfl, rfl, SqT.of hL9, rfl, by show 4 ≤ sizeLine; decide, fun L hL' => hQ L hL'⟩)⟩)⟩)⟩) fun L hL' => ?_
  have x9 : Ex H9 (upd H9 L (.lst [.ref p1, .ref p2, .ref p3, .ref p4])) := Ex.new hL'
  have hl9 : σ9.length = 22 := s9.env.sl.len
  obtain ⟨y1, a1, b1⟩ := ls9 p1 (by simp)
  obtain ⟨y2, a2, b2⟩ := ls9 p2 (by simp)
  obtain ⟨y3, a3, b3⟩ := ls9 p3 (by simp)
  obtain ⟨y4, a4, b4⟩ := ls9 p4 (by simp)
  obtain ⟨n, hn, hn1⟩ : ∃ n : Nat → Nat, (∀ (i : Nat) (p : Addr), [p1, p2, p3, p4][i]? = some p → ∃ vs, H9 p = some (.lst vs) ∧ vs.length = n i) ∧ ∀ i, n i ≤ 1000 := by
    refine ⟨fun i => [y1.length, y2.length, y3.length, y4.length].getD i 0, fun i p hp => ?_, fun i => ?_⟩
    · match i, hp with
      | 0, hp => cases hp; exact ⟨y1, a1, rfl⟩
      | 1, hp => cases hp; exact ⟨y2, a2, rfl⟩
      | 2, hp => cases hp; exact ⟨y3, a3, rfl⟩
      | 3, hp => cases hp; exact ⟨y4, a4, rfl⟩
    · match i with
      | 0 => exact b1
      | 1 => exact b2
      | 2 => exact b3
      | 3 => exact b4
      | i + 4 => show ([y1.length, y2.length, y3.length, y4.length].getD (i + 4) 0) ≤ 1000; simp
  have neL : ∀ p ∈ [p1, p2, p3, p4], p ≠ L := fun p hp z => by
    obtain ⟨vs, k1, _⟩ := ls9 p hp
    rw [z, hL'] at k1
    cases k1
  have BL : B L = none := Evl.fresh_back s9.ex hL'
  have Bp : ∀ p ∈ [p1, p2, p3, p4], B p = none := fun p hp => Evl.fresh_back sb.ex (fresh p (fp p hp))
  have nd5 : [L, p1, p2, p3, p4].Nodup := List.nodup_cons.mpr ⟨fun z => neL L z rfl, nd⟩
  have LO : L ∉ O := fun z => s9.env.all L z hL'
  have F3 : ∀ p ∈ [L, p1, p2, p3, p4], ∃ vs, hide (upd H9 L (.lst [.ref p1, .ref p2, .ref p3, .ref p4])) O p = some (.lst vs) := fun p hp => by
    rcases List.mem_cons.mp hp with rfl | hp
    · rw [hide_out LO]
      exact ⟨_, upd_same⟩
    · obtain ⟨vs, k1, _⟩ := ls9 p hp
      rw [hide_out (nO p (fp p hp))]
      exact ⟨vs, x9 _ _ k1⟩
  have off : ∀ {v : V} {q : Rat}, Dp K (hide H9 O) v (eQ q) → Dp K (hide (upd H9 L (.lst [.ref p1, .ref p2, .ref p3, .ref p4])) ([L, p1, p2, p3, p4] ++ O)) v (eQ q) := fun {v q} h => by
    have h1 := dp_off (Dp.ex h (hide_ex x9)) F3
    rw [hide_hide] at h1
    rw [hide_cong (O' := O ++ [L, p1, p2, p3, p4]) fun x => by rw [List.mem_append, List.mem_append]; exact Or.comm]
    exact h1
  have dring3 : Dp K (hide (upd H9 L (.lst [.ref p1, .ref p2, .ref p3, .ref p4])) ([L, p1, p2, p3, p4] ++ O)) v0 (eRing R) := by
    rw [oE _ rfl] at dr9
    have h1 : Dp K (hide H9 (L :: ([p1, p2, p3, p4] ++ O))) v0 (eRing R) := by rw [hide_new hL']; exact dr9
    exact Dp.ex h1 (hide_ex x9)
  obtain ⟨vt3, gt3, dt3⟩ := s9.env.sl.get (i := 3) rfl
  obtain ⟨vb3, gb3, db3⟩ := s9.env.sl.get (i := 8) rfl
  obtain ⟨vh3, gh3, dh3⟩ := s9.env.sl.get (i := 14) rfl
  rw [oE _ rfl] at dt3 db3
  have eh := dp_str dh3
  subst eh
  have gS : ∀ {i : Nat} {x : Option V}, i ≠ 15 → σ9[i]? = some x → (σ9.set 15 (some (.ref L)))[i]? = some x := fun h1 h2 => by rw [get_set, if_neg (Ne.symm h1)]; exact h2
  let GL : List Sl → List Sl := fun tail => [.dat (eRing R), .un, .un, .dat (eQ (Nw.topOf R (Nw.sent R (Nw.nearWays R))).1), .un, .un, .un, .un, .dat (eQ (Nw.topOf R (Nw.sent R (Nw.nearWays R))).1), .un, .un, .un, .un, .un, .dat (.str (PyData.shown (dNear R))), .is (.ref L)] ++ tail
  have e3 : Env (JL K L p1 p2 p3 p4 n) K ([L, p1, p2, p3, p4] ++ O) (upd H9 L (.lst [.ref p1, .ref p2, .ref p3, .ref p4])) (σ9.set 15 (some (.ref L))) (GL [.un, .un, .un, .un, .un, .un]) := by
    refine ⟨?_, ?_, fun p hp => ?_, fun x hx => List.mem_append_left _ hx, upd_same, fun i p hp => ?_⟩
    · rw [oE _ rfl]
      have z := envl_uns (K := K) (H := upd H9 L (.lst [.ref p1, .ref p2, .ref p3, .ref p4])) (W := [L, p1, p2, p3, p4] ++ O) (σ9.set 15 (some (.ref L)))
      have hl : (σ9.set 15 (some (.ref L))).length = 22 := by rw [List.length_set, hl9]
      rw [hl] at z
      exact ((((z.learnD (i := 0) (gS (by decide) (gI (i := 0) rfl)) dring3).learnD (i := 3) (gS (by decide) gt3) (off dt3)).learnD (i := 8) (gS (by decide) gb3) (off db3)).learnD (i := 14) (gS (by decide) gh3) (.str _)).learnI (i := 15) (v := .ref L) (by rw [get_set, if_pos rfl, if_pos (by omega)])
    · rw [oE _ rfl]
      simp
    · rcases List.mem_append.mp hp with hp | hp
      · obtain ⟨vs, k⟩ := F3 p hp
        rw [(hide_some k).2]
        simp
      · cases c : H9 p with
        | none => exact absurd c (s9.env.all p hp)
        | some o =>
          rw [x9 p o c]
          simp
    · obtain ⟨vs, k1, k2⟩ := hn i p hp
      exact ⟨vs, x9 _ _ k1, k2⟩
  have s10 : Sb (JL K L p1 p2 p3 p4 n) K (hide (upd H9 L (.lst [.ref p1, .ref p2, .ref p3, .ref p4])) [L, p1, p2, p3, p4]) ([L, p1, p2, p3, p4] ++ O) (upd H9 L (.lst [.ref p1, .ref p2, .ref p3, .ref p4])) (σ9.set 15 (some (.ref L))) (GL [.un, .un, .un, .un, .un, .un]) := ⟨e3, hide_le, by rw [oE _ rfl]; simp⟩
  let nn : Nat → Nat → Nat := fun i j => n j + (if j < i then 1 else 0)
  let sz4 : (Nat → Nat) → List PyData := fun f => (List.range 4).map fun j => eN (f j)
  refine raw_seq (N := fun Γ' => Γ' = GL [.own (sz4 n), .un, .un, .un, .un, .un]) ?h10 s10 fun Γ' σA HA hN sA => ?_
  case h10 => exact sg_asgO (own_lens (i := 15) (j := 18) rfl (by decide) rfl) (lq_refl rfl)
  subst hN
  have en0 : nn 0 = n := funext fun j => by simp [nn]
  have sh4 : ∀ f, SeqAt.shaped (.list (sz4 f)) = true := fun f => sh_L fun d hd => by
    obtain ⟨j, _, rfl⟩ := List.mem_map.mp hd
    exact ⟨by simp [eN, PyData.canLay0], by simp [eN, PyData.depth]⟩
  have eq4 : ∀ f, PyData.eqv (.list (sz4 f)) (.list (sz4 f)) = true := fun f => by
    simp only [PyData.eqv]
    exact eqvA_self fun j _ => eqv_N _
  refine ⟨_, sA.env.sl.getI rfl, L, [.ref p1, .ref p2, .ref p3, .ref p4], rfl, SqL.of sA.env.inv.1, enum_loop (fun i σ' H' => Sb (JL K L p1 p2 p3 p4 (nn i)) K (hide (upd H9 L (.lst [.ref p1, .ref p2, .ref p3, .ref p4])) [L, p1, p2, p3, p4]) ([L, p1, p2, p3, p4] ++ O) H' σ' (GL [.own (sz4 (nn i)), .un, .un, .un, .un, .un])) (by rw [en0]; exact sA) (fun i σ' H' _ z => SqL.of z.env.inv.1) (fun i x σ' H' T hx z hT => ?_) fun σ' H' z => ?_⟩
  · obtain ⟨p, hp, rfl⟩ : ∃ p, [p1, p2, p3, p4][i]? = some p ∧ x = .ref p := by
      match i, hx with
      | 0, hx => cases hx; exact ⟨_, rfl, rfl⟩
      | 1, hx => cases hx; exact ⟨_, rfl, rfl⟩
      | 2, hx => cases hx; exact ⟨_, rfl, rfl⟩
      | 3, hx => cases hx; exact ⟨_, rfl, rfl⟩
    have hi : i < 4 := (List.getElem?_eq_some_iff.mp hp).1
    have hpm := List.mem_of_getElem? hp
    have xT : Ex H' (upd H' T (.tup [.int (i : Int), .ref p])) := Ex.new hT
    have z2 : Sb (JL K L p1 p2 p3 p4 (nn i)) K (hide (upd H9 L (.lst [.ref p1, .ref p2, .ref p3, .ref p4])) [L, p1, p2, p3, p4]) ([L, p1, p2, p3, p4] ++ O) (upd H' T (.tup [.int (i : Int), .ref p])) ((σ'.set 17 (some (.int (i : Int)))).set 18 (some (.ref p))) (GL [.own (sz4 (nn i)), .dat (eN i), .is (.ref p), .un, .un, .un]) := ((z.mono xT).setD (.int (i : Int)) 17).setI (v := .ref p) 18
    obtain ⟨vs, k1, k2⟩ := z2.env.inv.2 i p hp
    have ki : nn i i = n i := by simp [nn]
    refine ⟨_, z2.env.sl.getI rfl, .inl ⟨rfl, vs, SqL.of k1⟩, p, vs, .non, rfl, rfl, k1, by rw [k2, ki]; have := hn1 i; exact Evl.sz_lt (by omega), ?_⟩
    have pf : p ∈ [L, p1, p2, p3, p4] := List.mem_cons_of_mem _ hpm
    have v3 : (JL K L p1 p2 p3 p4 (nn (i + 1))).val ([] : List Addr) (upd (upd H' T (.tup [.int (i : Int), .ref p])) p (.lst (vs ++ [.non]))) := by
      refine ⟨by rw [upd_ne (Ne.symm (neL p hpm))]; exact z2.env.inv.1, fun j q hq => ?_⟩
      by_cases e : j = i
      · subst e
        rw [hp] at hq
        cases hq
        refine ⟨_, upd_same, ?_⟩
        rw [List.length_append, k2]
        simp [nn]
      · have ne : q ≠ p := fun y => by
          subst y
          exact e ((List.getElem?_inj (List.getElem?_eq_some_iff.mp hq).1 nd).mp (hq.trans hp.symm))
        obtain ⟨us, l1, l2⟩ := z2.env.inv.2 j q hq
        refine ⟨us, by rw [upd_ne ne]; exact l1, ?_⟩
        rw [l2]
        show n j + (if j < i then 1 else 0) = n j + (if j < i + 1 then 1 else 0)
        by_cases c : j < i
        · rw [if_pos c, if_pos (by omega)]
        · rw [if_neg c, if_neg (by omega)]
    have z3 : Sb (JL K L p1 p2 p3 p4 (nn (i + 1))) K (hide (upd H9 L (.lst [.ref p1, .ref p2, .ref p3, .ref p4])) [L, p1, p2, p3, p4]) ([L, p1, p2, p3, p4] ++ O) (upd (upd H' T (.tup [.int (i : Int), .ref p])) p (.lst (vs ++ [.non]))) ((σ'.set 17 (some (.int (i : Int)))).set 18 (some (.ref p))) (GL [.own (sz4 (nn i)), .dat (eN i), .is (.ref p), .un, .un, .un]) := by
      refine ⟨env_mut z2.env rfl (ex_hide_upd pf) (fun x hx => ?_) v3, fun x o y => ?_, z2.new⟩
      · rcases List.mem_cons.mp hx with rfl | hx
        · rw [v3.1]
          simp
        · obtain ⟨j, hj⟩ := List.mem_iff_getElem?.mp hx
          obtain ⟨us, l1, _⟩ := v3.2 j x hj
          rw [l1]
          simp
      · have nx := (hide_some y).1
        rw [upd_ne fun e => nx (by rw [e]; exact pf)]
        exact z2.ex x o y
    dsimp only []
    refine raw_seq (N := fun Γ' => Γ' = GL [.own (sz4 (nn (i + 1))), .dat (eN i), .is (.ref p), .un, .un, .un]) ?h11 z3 fun Γ' σB HB hN sB => ?_
    case h11 =>
      refine sg_put (j := i) (d := eN (nn i i + 1)) (ed_is (ed_opI (i := (nn i i : Nat)) (ed_ixL (el_own rfl) (ed_var rfl) (atI_at (at_map_range (f := fun j => eN (nn i j)) hi))) ed_int) rfl) rfl (ed_var rfl) (by rw [List.length_map, List.length_range]; exact hi) (lq_refl ?_)
      have e : (sz4 (nn i)).set i (eN (nn i i + 1)) = sz4 (nn (i + 1)) := by
        refine List.ext_getElem? fun j => ?_
        rw [List.getElem?_set]
        by_cases hj : j < 4
        · rw [at_map_range hj, at_map_range hj]
          by_cases c : i = j
          · subst c
            rw [if_pos rfl, if_pos (by rw [List.length_map, List.length_range]; exact hi)]
            simp [nn]
          · rw [if_neg c]
            refine congrArg (fun x => some (eN x)) ?_
            show n j + (if j < i then 1 else 0) = n j + (if j < i + 1 then 1 else 0)
            by_cases c2 : j < i
            · rw [if_pos c2, if_pos (by omega)]
            · rw [if_neg c2, if_neg (by omega)]
        · rw [if_neg (by omega), List.getElem?_eq_none (by rw [List.length_map, List.length_range]; omega), List.getElem?_eq_none (by rw [List.length_map, List.length_range]; omega)]
      rw [e]
      rfl
    subst hN
    have hif : SG (JL K L p1 p2 p3 p4 (nn (i + 1))) K (GL [.own (sz4 (nn (i + 1))), .dat (eN i), .is (.ref p), .un, .un, .un]) (tIfS (tTest (tOp (rNeA K) (tLc (iList K (tVar 15)) (gName 21) tYes (tCB (rLen K) (tCons (tVar 21) tNil)) [21]) (tVar 16))) (tRet (tC (.bl false))) tNext) (fun Γ' => Γ' = GL [.own (sz4 (nn (i + 1))), .dat (eN i), .is (.ref p), .un, .un, .un]) (fun _ _ => False) := sg_if (b := false) (eb_is (eb_test (ed_neL (ed_of_own (own_lens (i := 15) (j := 21) rfl (by decide) rfl)) (el_own rfl) (sh4 _) (sh4 _))) (congrArg not (eq4 _))) (fun y => by cases y) fun _ => sg_next (lq_refl rfl)
    refine hif _ _ _ _ _ sB (fun Γ' σC HC hN sC => ?_) fun _ _ _ _ _ y => y.elim
    subst hN
    exact sC.le (.same (.same (.same (.same (.same (.same (.same (.same (.same (.same (.same (.same (.same (.same (.same (.same (.same (.un (.un (.un (.un (.un .nil))))))))))))))))))))))
  · have fin : ED (JL K L p1 p2 p3 p4 (nn 4)) K (GL [.own (sz4 (nn 4)), .un, .un, .un, .un, .un]) (tAndV (tOp (rEqA K) (tVar 3) (tVar 8)) (tOp (rEqA K) (tCB (rRepr K) (tCons (tCall (spF K (P_near_whole K)) [] E0 (tCons (tVar 0) tNil)) tNil)) (tVar 14))) (.bool true) := ed_is (ed_andV (a := true) (b := true) (ed_is (ed_eqD (ed_var rfl) (ed_var rfl) (sh_Q _) (sh_Q _)) (by rw [eqv_Q, decide_eq_true rfl])) fun _ => ed_is (ed_eqS (i := PyData.shown (dNear R)) (j := PyData.shown (dNear R)) (ed_repr tln (ed_near (R := R) (eg_call (r := .raw (nearP K R)) (ea_cons (ed_var rfl) ea_nil) ⟨R, rfl, gL, rfl⟩))) (ed_var rfl)) (by rw [decide_eq_true rfl])) rfl
    refine fin _ _ _ z.env _ fun v Hf xf rf => ?_
    have hv := dp_bl rf
    subst hv
    have hl : σ'.length = 22 := z.env.sl.len
    have zu := envl_uns (K := K) (H := Hf) (W := O) σ'
    rw [hl] at zu
    refine ret (.bl true) Hf σ' (List.replicate 22 .un) (.dat (.bool true)) rfl ⟨⟨by rw [oE _ (by rfl)]; exact zu, by rw [oE _ (by rfl)]; simp, fun p hp => (z.env.mono xf).all p (List.mem_append_right _ hp), fun x y => absurd y (by show ¬ x ∈ ([] : List Addr); simp), trivial⟩, fun x o y => ?_, by rw [oE _ (by rfl)]; simp⟩ (.bl true)
    have nf : x ∉ [L, p1, p2, p3, p4] := fun y2 => by
      rcases List.mem_cons.mp y2 with rfl | y2
      · rw [BL] at y
        cases y
      · rw [Bp x y2] at y
        cases y
    refine xf _ _ (z.ex x o ?_)
    rw [hide_out nf]
    exact x9 _ _ (s9.ex _ _ y)
end
end NwB
end NwL7_
section NwL8_
set_option Elab.async false
set_option linter.all false
set_option maxRecDepth 100000
set_option maxHeartbeats 4000000
namespace NwB
open PySem PySem.Spec PyProof.Rows L2 NwT
open Evl (Ex)
section
variable {J : Ji} {K : PySem.W.Frag} {Γ : List Sl} {ta : TA} {t : TS} {N : List Sl → Prop} {Rr : List Sl → Rs → Prop}
theorem sg_forR3 {a : Nat} {i j c : Int} {n : Nat} (ha : EA J K Γ ta [.int i, .int j, .int c]) (hr : RgC i j c n) (I : Nat → List Sl → Prop) (h0 : Lq (I 0) Γ)
    (hs : ∀ k Γ', k < n → I k Γ' → SG J K (Γ'.set a (.dat (.int (i + (k : Nat) * c)))) t (Lq (I (k + 1))) Rr) (hd : ∀ Γ', I n Γ' → Lq N Γ') : SG J K Γ (tFor (iRng3 ta) (gName a) t) N Rr := fun B O σ H D s nx r =>
  ha O σ H s.env _ fun vs H1 x1 r1 => by
    obtain ⟨u1, us, rfl, h1, r2⟩ : ∃ u1 us, vs = u1 :: us ∧ Dp K (hide H1 (ows σ Γ ++ O)) u1 (.int i) ∧ DpAll K (hide H1 (ows σ Γ ++ O)) us [.int j, .int c] := by
      cases r1 with
      | cons y z => exact ⟨_, _, rfl, y, z⟩
    obtain ⟨u2, u3, rfl, h2, h3⟩ := dpall2 r2
    rw [dp_int h1, dp_int h2, dp_int h3]
    refine ⟨i, j, c, n, rfl, hr, for_rangeC (fun k σ' H' => ∃ Γ', I k Γ' ∧ Sb J K B O H' σ' Γ') ?_ (fun k σ' H' hk q => ?_) (fun σ' H' q => ?_)⟩
    · obtain ⟨Γ0, l, c0⟩ := h0
      exact ⟨Γ0, c0, (s.mono x1).le l⟩
    · obtain ⟨Γ', c', s'⟩ := q
      refine hs k Γ' hk c' B O _ _ _ (s'.setD (.int _) a) (fun Γ2 σ2 H2 ⟨Γ3, l, c2⟩ s2 => ⟨Γ3, c2, s2.le l⟩) fun v H2 σ2 Γ2 r2 hr' s2 rd => ?_
      exact r v H2 σ2 Γ2 r2 hr' s2 rd
    · obtain ⟨Γ', c', s'⟩ := q
      obtain ⟨Γ2, l, c2⟩ := hd Γ' c'
      exact nx Γ2 σ' H' c2 (s'.le l)
theorem ed_neS {ta tb : TE} {i j : Str} (ha : ED J K Γ ta (.str i)) (hb : ED J K Γ tb (.str j)) : ED J K Γ (tOp (rNeA K) ta tb) (.bool (!decide (i = j))) :=
  two_op ha hb fun O H v u Q h1 h2 q => by
    rw [dp_str h1, dp_str h2]
    refine .inl ⟨rfl, ?_⟩
    have e : decide (V.str i = V.str j) = decide (i = j) := by simp
    rw [e]
    exact q _ fun _ => .bl _
end
section
variable {P : Program} {w : World} {K : PySem.W.Frag} {mg : Str → Option Value} {base : Heap}
theorem fn_mkG {Pr : Pd} {x : Str} {st : Stmt} {N ps : List Str} {k : Nat} {f : Addr} {fd : FuncData} (F : Fun K x x st f fd) (S : FnScope N ps (defScope st))
    (hn : ∀ ds r, Pr ds r → ds.length = ps.length)
    (body : ∀ (cdv : Value) (A : Around) (outer : List PySem.Env) (s : Shared) (H : Hp) (E : XK), A.guards = some [] → Room k (A.deeper (envOfC x (defScope st) s.heap.objs.size f cdv)) →
      ∃ t, PSs (cxOf CX0 P w K mg base N x (defScope st) f cdv A outer s H E).nox (defBody st) t ∧ ∀ ds r, Pr ds r → SG J0 K (entry N ds) t (fun _ => False) (fun _ r' => r' = r)) : FnG P w K mg base (k + 1) f fd ps (spF K Pr) := by
  refine okG F S (fun vs H Q E h => ?_) (fun cdv A outer s H vs Q E gd hr h => ?_)
  · obtain ⟨O, ds, r, hp, h1, _⟩ := h
    rw [h1.len]
    exact hn ds r hp
  · obtain ⟨O, ds, r, hp, h1, ho, q⟩ := h
    obtain ⟨t, ht, hs⟩ := body cdv A outer s H E gd hr
    refine ⟨t, ht, hs ds r hp H O (L2.start N vs) H _ (entry_ok h1 ho) (fun _ _ _ z => z.elim) fun v H' σ' Γ' r' e x rd => ?_⟩
    subst e
    exact q v H' x.ex (rd_out rd)
theorem sc_law : FnScope ["_law_script", "_law_at", "_law_ring_here", "_law_kept"] ["_law_script"] (defScope s_law) := ⟨rfl, rfl, rfl, by decide +kernel, rfl, by decide +kernel, by decide +kernel⟩
theorem fn_law (T : Tx K mg) (h__law_right : HasG P w K mg base 12 "_law_right" 1 (spF K P__law_right)) (h__law_ring : HasX P w K mg base 4 "_law_ring" 4 (spN K Pre_ring Pr_ring)) {f : Addr} {fd : FuncData} (F : Fun K "law" "law" s_law f fd) : FnG P w K mg base 13 f fd ["_law_script"] (spF K P_law) := by
  refine fn_mkG (N := ["_law_script", "_law_at", "_law_ring_here", "_law_kept"]) (ps := ["_law_script"]) (k := 12) F sc_law (fun ds r hp => ?_) (fun cdv A outer s H E gd hr => ⟨_, (pss_cons (ps_for PassesOwn.never rfl (pi_range3 rfl T.range (pa_cons pe_int (pa_cons (pe_callB (call_max2 rfl) (by rfl) T.max bb_max (pa_cons pe_int (pa_cons (pe_callB (call_min2 rfl) (by rfl) T.min bb_min (pa_cons (pe_callB (lenK K) (by rfl) T.len bb_len (pa_cons (pv 0) pa_nil)) (pa_cons pe_int pa_nil))) pa_nil))) (pa_cons pe_int pa_nil)))) (pg_name (i := 1) sc_law.nd rfl (Or.inl rfl))
  (pss_cons (ps_set (i := 2) sc_law.nd rfl (Or.inl rfl) (pe_hasX h__law_ring (hr.mono (by decide)) (by rfl) (pa_cons (pv 0) (pa_cons (pv 1) (pa_cons pe_int (pa_cons pe_int pa_nil))))))
  (pss_cons (ps_set (i := 3) sc_law.nd rfl (Or.inl rfl) (pe_callB (reprK K gd hr.units) (by rfl) T.repr bb_repr (pa_cons (pv 2) pa_nil)))
  (pss_one (ps_if (PW.pt (pw_or (pt_not (pt_val (pe_hasG h__law_right gd (hr.mono (by decide)) (by rfl) (pa_cons (pv 2) pa_nil)))) (pw_or1 (pt_cmpR (neK K hr.units) (pe_callB (reprK K gd hr.units) (by rfl) T.repr bb_repr (pa_cons (pv 2) pa_nil)) (pv 3) (nomark _))))) (pss_one (ps_ret pe_bl)) pss_nil)))))
  (pss_one (ps_ret pe_bl))), ?_⟩)
  · rcases hp with ⟨_, rfl, _⟩
    rfl
  rintro ds rr ⟨ns, rfl, hns, rfl⟩
  have hm : 3 ≤ max (3 : Int) (min ((ns.map PyData.int).length : Int) 6) ∧ max (3 : Int) (min ((ns.map PyData.int).length : Int) 6) ≤ 6 := by omega
  have hr3 : ∃ n : Nat, RgC 0 (max (3 : Int) (min ((ns.map PyData.int).length : Int) 6)) 3 n ∧ n ≤ 2 := by
    obtain ⟨h1, h2⟩ := hm
    generalize max (3 : Int) (min ((ns.map PyData.int).length : Int) 6) = m at h1 h2 ⊢
    have : m = 3 ∨ m = 4 ∨ m = 5 ∨ m = 6 := by omega
    rcases this with rfl | rfl | rfl | rfl
    · exact ⟨1, ⟨by decide, by decide, by decide, by decide⟩, by decide⟩
    · exact ⟨2, ⟨by decide, by decide, by decide, by decide⟩, by decide⟩
    · exact ⟨2, ⟨by decide, by decide, by decide, by decide⟩, by decide⟩
    · exact ⟨2, ⟨by decide, by decide, by decide, by decide⟩, by decide⟩
  obtain ⟨n, hr3, hn2⟩ := hr3
  refine sg_seq (N' := fun Γ' => Γ' = [.dat (.list (ns.map .int)), .un, .un, .un]) (sg_forR3 (n := n) (ea_cons ed_int (ea_cons (ed_max2 ed_int (ed_min2 (ed_lenL (el_dat (ed_var rfl))) ed_int)) (ea_cons ed_int ea_nil))) hr3 (fun _ Γ' => Γ' = [.dat (.list (ns.map .int)), .un, .un, .un]) (lq_refl rfl) ?_ fun Γ' e => lq_refl e) ?_
  · rintro k Γ' hk rfl
    have e3 : (0 : Int) + (k : Nat) * 3 = ((3 * k : Nat) : Int) := by omega
    rw [e3]
    refine qm (Γ := fun _ => [.dat (.list (ns.map .int)), .dat (eN (3 * k)), .un, .un]) (st := begunS ns 0) (em_callN (ds := [.list (ns.map .int), eN (3 * k), eN 8, eN 8]) (fun _ => ea_cons (ed_var rfl) (ea_cons (ed_var rfl) (ea_cons ed_int (ea_cons ed_int ea_nil)))) ⟨ns, 3 * k, rfl, by omega, by omega⟩) fun st d hd => ?_
    obtain ⟨R, gr, rfl⟩ := hd
    have tr := tl_ring gr
    refine qd (ed_repr tr (ed_var rfl)) ?_
    refine sg_if (b := false) (eb_is (eb_or (a := false) (b := false) (eb_is (eb_not (eb_B (eg_call (r := .dat (.bool true)) (ea_cons (ed_var rfl) ea_nil) ⟨R, rfl, gr, rfl⟩))) rfl) fun _ => eb_is (eb_test (ed_neS (ed_repr tr (ed_var rfl)) (ed_var rfl))) (by rw [decide_eq_true rfl]; rfl)) rfl) (fun y => by cases y) fun _ => sg_next ⟨_, .same (.un (.un (.un .nil))), _, Le.refl _, rfl⟩
  · rintro Γ' rfl
    exact sg_ret ed_bl rfl
end
end NwB
end NwL8_
section NwE1_
set_option Elab.async false
set_option linter.all false
set_option maxRecDepth 100000
set_option maxHeartbeats 4000000
namespace NwB
open PySem PySem.Spec PyProof.Rows L2 NwT
open Evl (Ex)
/-! ### what the top has left: read from the head's record -/
theorem look_kg {g : Gt} : ∀ (L : List Addr) (b : Addr), ((L.filterMap fun a => (g a).map fun o => (a, o)).lookup b) = if b ∈ L then g b else none
  | [], b => rfl
  | a :: L, b => by
    cases h : g a with
    | none =>
      rw [List.filterMap_cons_none (by rw [h]; rfl), look_kg L b]
      by_cases e : b = a
      · subst e
        rw [h]
        split <;> simp
      · simp [e]
    | some o =>
      rw [List.filterMap_cons_some (b := (a, o)) (by rw [h]; rfl), List.lookup_cons]
      by_cases e : b = a
      · subst e
        simp [h]
      · have : (b == a) = false := by simpa using e
        rw [this]
        simp only [look_kg L b, List.mem_cons, e, false_or]
theorem keyN_some {e : DictEntry} {k : Str} (h : keyN e = some k) (x : Str) : e.key.isStr x = (k == x) := by
  unfold keyN at h
  split at h
  · rename_i y t q
    cases h
    rw [q]
    rfl
  · cases h
theorem find_key {x : Str} : ∀ {es : List DictEntry} {kl : List Str}, es.map keyN = kl.map some → es.find? (·.key.isStr x) = (kl.findIdx? (· == x)).bind fun i => es[i]?
  | [], [], _ => rfl
  | e :: es, [], h => by cases h
  | [], k :: kl, h => by cases h
  | e :: es, k :: kl, h => by
    rw [List.map_cons, List.map_cons] at h
    injection h with h1 h2
    have k1 := keyN_some h1 x
    rw [List.find?_cons, k1, List.findIdx?_cons]
    cases c : (k == x) with
    | true => simp
    | false =>
      simp only [find_key h2]
      cases kl.findIdx? (· == x) with
      | none => simp
      | some i => simp
theorem absV_ref {u : Value} {a : Addr} (h : absV u = some (.ref a)) : u = .ref a := by
  cases u <;> simp [absV] at h
  subst h
  rfl
theorem absV_str {u : Value} {x : Str} (h : absV u = some (.str x)) : ∃ t, u = .str x t := by
  cases u <;> simp [absV] at h
  subst h
  exact ⟨_, rfl⟩
theorem rel_abs {u : Value} {x : V} (h : absV u = some x) : L2.RelV x u := by
  cases u <;> simp [absV] at h <;> subst h <;> simp [L2.RelV]
theorem vals_abs : ∀ {us : List Value} {xs : List V}, us.map absV = xs.map some → Vals xs us
  | [], [], _ => .nil
  | u :: us, [], h => by cases h
  | [], x :: xs, h => by cases h
  | u :: us, x :: xs, h => by
    rw [List.map_cons, List.map_cons] at h
    injection h with h1 h2
    exact .cons (rel_abs h1) (vals_abs h2)
structure Fac (g : Gt) (K : PySem.W.Frag) (mg : Str → Option Value) : Prop where
  look : ∀ b, K.lookup b = if b ∈ AL then g b else none
  glo : ∀ (x : Str) (v : V), (∃ i, ks.findIdx? (· == x) = some (9 + i) ∧ vs[i]? = some v) → ∃ u, mg x = some u ∧ absV u = some v
  free : ∀ x : Str, ks.findIdx? (· == x) = none → mg x = none
  fn : ∀ d ∈ ds, fnOf? (g d.at_) = d.val
  code : ∀ d ∈ ds, codeNm (g (d.at_ - 1)) d.qual = true
  t1 : tupIs (g 80) [.int 0, .int 1] = true
  t2 : tupIs (g 263) [.int 2, .int 1] = true
  t3 : tupIs (g 366) [.str "on", .str "back"] = true
  cls : clsB K = true
  isfn : fnB g = true
theorem fac_of {g : Gt} {h : Heap} {mg : Str → Option Value} (hg : ∀ a o, g a = some o → h.get? a = some o) (e : obsN g = valN) (G : h.Ns mainGlobals mg) : (Kg g).In h ∧ Fac g (Kg g) mg := by
  have lk : ∀ b, (Kg g).lookup b = if b ∈ AL then g b else none := look_kg AL
  unfold obsN valN at e
  injection e with e1 e2
  injection e1 with ek ev
  injection e2 with ef eb
  simp only [Bool.and_eq_true] at eb
  obtain ⟨b1, ⟨b2, b3, b4⟩, b5, b6⟩ := eb
  obtain ⟨o, es, ep, ho, hd, _, hf⟩ := G
  have hents : ents g = es.toList := by
    unfold ents at ek ⊢
    split
    · rename_i c dd es' n' sl q
      have h1 := hg _ _ q
      have h2 : h.get? 3 = some o := ho
      rw [h2] at h1
      cases h1
      cases hd
      rfl
    · rename_i hne
      split at ek
      · rename_i q
        exact absurd q (hne _ _ _ _ _)
      · have := congrArg List.length ek
        exact absurd this (by decide +kernel)
  rw [hents] at ek ev
  have hfind : ∀ x, mg x = (es.toList.find? (·.key.isStr x)).map (·.val) := fun x => by
    rw [← hf]
    unfold nsFind findBy
    rw [← Array.find?_toList]
  refine ⟨fun a u z => ?_, lk, fun x v ⟨i, h1, h2⟩ => ?_, fun x h1 => ?_, fun d hd => ?_, fun d hd => ?_, b2, b3, b4, b5, b6⟩
  · rw [lk] at z
    split at z
    · exact hg a u z
    · cases z
  · rw [hfind, find_key ek, h1]
    have h3 : ((es.toList.drop 9).map fun e => absV e.val)[i]? = some (some v) := by
      rw [ev, List.getElem?_map, h2]
      rfl
    rw [List.getElem?_map, List.getElem?_drop] at h3
    cases c : es.toList[9 + i]? with
    | none => rw [c] at h3; cases h3
    | some en =>
      rw [c] at h3
      injection h3 with h4
      exact ⟨en.val, by show Option.map _ (es.toList[9 + i]?) = _; rw [c]; rfl, h4⟩
  · rw [hfind, find_key ek, h1]
    rfl
  · obtain ⟨i, hi⟩ := List.mem_iff_getElem?.mp hd
    have h3 := congrArg (fun l => l[i]?) ef
    simp only [List.getElem?_map, hi] at h3
    exact Option.some.inj h3
  · exact List.all_eq_true.mp b1 d hd
theorem ds_in : ∀ d ∈ ds, d.at_ ∈ AL ∧ d.at_ - 1 ∈ AL := by
  have h : (ds.all fun d => AL.contains d.at_ && AL.contains (d.at_ - 1)) = true := by decide +kernel
  intro d hd
  have := List.all_eq_true.mp h d hd
  simpa using this
section
variable {g : Gt} {K : PySem.W.Frag} {mg : Str → Option Value} (F : Fac g K mg)
include F
theorem Fac.fun {d : Dd} (hd : d ∈ ds) : ∃ fd, Fun K d.name d.qual d.st d.at_ fd := by
  obtain ⟨i1, i2⟩ := ds_in d hd
  have l1 : K.lookup d.at_ = g d.at_ := by rw [F.look, if_pos i1]
  have l2 : K.lookup (d.at_ - 1) = g (d.at_ - 1) := by rw [F.look, if_pos i2]
  have hf := F.fn d hd
  have hc := F.code d hd
  cases q : g d.at_ with
  | none => rw [q] at hf; cases hf
  | some o =>
    obtain ⟨c, dd, dt, sl⟩ := o
    cases dt with
    | func fd =>
      rw [q] at hf
      obtain ⟨n1, n2, n3, n4, n5, n6, n7, n8, n9, n10, n11, n12, n13, n14, n15⟩ := fd
      simp only [fnOf?, Dd.val, Option.some.injEq, Prod.mk.injEq] at hf
      obtain ⟨rfl, rfl, rfl, rfl, rfl, rfl, rfl, rfl, rfl, rfl⟩ := hf
      refine ⟨_, ⟨c, dd, n9, n10, n11, n12, .ref (d.at_ - 1), n14, sl, rfl, by rw [l1, q], ?_⟩, ?_⟩
      · unfold PySem.W.codeIn
        dsimp only
        rw [l2]
        exact hc
      · unfold PySem.W.keepIn
        dsimp only
        rw [l1, q]
    | _ => rw [q] at hf; cases hf
theorem Fac.ref (x : Str) (a : Addr) (h : (match ks.findIdx? (· == x) with
    | some i => decide (9 ≤ i) && decide (vs[i - 9]? = some (.ref a))
    | none => false) = true) : mg x = some (.ref a) := by
  split at h
  · rename_i i q
    simp only [Bool.and_eq_true, decide_eq_true_eq] at h
    obtain ⟨u, e1, e2⟩ := F.glo x (.ref a) ⟨i - 9, by rw [q]; congr 1; omega, h.2⟩
    rw [e1, absV_ref e2]
  · cases h
theorem Fac.str (x y : Str) (h : (match ks.findIdx? (· == x) with
    | some i => decide (9 ≤ i) && decide (vs[i - 9]? = some (.str y))
    | none => false) = true) : ∃ t, mg x = some (.str y t) := by
  split at h
  · rename_i i q
    simp only [Bool.and_eq_true, decide_eq_true_eq] at h
    obtain ⟨u, e1, e2⟩ := F.glo x (.str y) ⟨i - 9, by rw [q]; congr 1; omega, h.2⟩
    obtain ⟨t, rfl⟩ := absV_str e2
    exact ⟨t, e1⟩
  · cases h
theorem Fac.tup {a : Addr} {xs : List V} (ha : a ∈ AL) (h : tupIs (g a) xs = true) (H : Hp) : SqT K H a xs := by
  unfold tupIs at h
  split at h
  · rename_i c dd its n sl q
    simp only [Bool.and_eq_true, decide_eq_true_eq] at h
    obtain ⟨h1, h2, h3⟩ := h
    subst h1
    exact .inr ⟨_, its, n, by rw [F.look, if_pos ha, q], rfl, rfl, h2, vals_abs h3⟩
  · cases h
theorem Fac.dfn (d : Dd) (hd : d ∈ ds) (hq : d.qual = d.name) (h : (match ks.findIdx? (· == d.name) with
    | some i => decide (9 ≤ i) && decide (vs[i - 9]? = some (.ref d.at_))
    | none => false) = true) : Dfn K mg d.name d.st := by
  obtain ⟨fd, f⟩ := F.fun hd
  rw [hq] at f
  exact ⟨d.at_, fd, f, F.ref _ _ h⟩
theorem Fac.isFn {a : Addr} (ha : a ∈ AL) (h : a ∈ [282, 289, 296, 301, 308]) : PySem.W.isFn K (.ref a) = true := by
  have := List.all_eq_true.mp F.isfn a h
  split at this
  · rename_i o q
    have e : o.cls = .type "function" := by simpa using this
    show (PySem.W.typeIn K (.ref a) == some (.type "function")) = true
    have e2 : PySem.W.typeIn K (.ref a) = some (.type "function") := by
      show (K.lookup a).map (·.cls) = _
      rw [F.look, if_pos ha, q]
      show some o.cls = _
      rw [e]
    rw [e2]
    decide +kernel
  · cases this
end
end NwB
end NwE1_
section NwE2_
set_option Elab.async false
set_option linter.all false
set_option maxRecDepth 100000
set_option maxHeartbeats 4000000
namespace NwB
open PySem PySem.Spec PyProof.Rows L2 NwT
open Evl (Ex)
theorem tx_of {g : Gt} {K : PySem.W.Frag} {mg : Str → Option Value} (F : Fac g K mg) : Tx K mg := by
  have cl := F.cls
  unfold clsB findB at cl
  simp only [Bool.and_eq_true, decide_eq_true_eq] at cl
  obtain ⟨⟨c1, c2, c3, c4, c5⟩, ⟨a1, a2, a3, a4⟩, m1, m2, m3, m4, m5⟩ := cl
  have ia : ∀ a, [282, 289, 296, 301, 308, 80, 263, 366].contains a = true → a ∈ AL := fun a h => by
    have : ([282, 289, 296, 301, 308, 80, 263, 366].all fun a => AL.contains a) = true := by decide +kernel
    have := List.all_eq_true.mp this a (by simpa using h)
    simpa using this
  have kp : ∀ {x q : Str} {st : Stmt} {a : Addr}, (∃ fd, Fun K x q st a fd) → PySem.W.keepIn K (.ref a) = true := fun ⟨_, f⟩ => f.kp
  exact {
    abs := F.free _ (by decide +kernel)
    all := F.free _ (by decide +kernel)
    bool := F.free _ (by decide +kernel)
    enumerate := F.free _ (by decide +kernel)
    int := F.free _ (by decide +kernel)
    isinstance := F.free _ (by decide +kernel)
    len := F.free _ (by decide +kernel)
    list := F.free _ (by decide +kernel)
    max := F.free _ (by decide +kernel)
    min := F.free _ (by decide +kernel)
    range := F.free _ (by decide +kernel)
    repr := F.free _ (by decide +kernel)
    sorted := F.free _ (by decide +kernel)
    str := F.free _ (by decide +kernel)
    tuple := F.free _ (by decide +kernel)
    zip := F.free _ (by decide +kernel)
    g_NOUGHT := F.ref _ _ (by decide +kernel)
    g_TWO := F.ref _ _ (by decide +kernel)
    g_BOTH := F.ref _ _ (by decide +kernel)
    t_NOUGHT := F.tup (ia _ (by decide)) F.t1
    t_TWO := F.tup (ia _ (by decide)) F.t2
    t_BOTH := F.tup (ia _ (by decide)) F.t3
    g_ON := F.str _ _ (by decide +kernel)
    g_BACK := F.str _ _ (by decide +kernel)
    d_is_whole := F.dfn d_is_whole (List.mem_of_getElem? (i := 0) rfl) rfl (by decide +kernel)
    d_common := F.dfn d_common (List.mem_of_getElem? (i := 1) rfl) rfl (by decide +kernel)
    d_is_ratio := F.dfn d_is_ratio (List.mem_of_getElem? (i := 2) rfl) rfl (by decide +kernel)
    d_lowered := F.dfn d_lowered (List.mem_of_getElem? (i := 3) rfl) rfl (by decide +kernel)
    d_plus := F.dfn d_plus (List.mem_of_getElem? (i := 4) rfl) rfl (by decide +kernel)
    d_minus := F.dfn d_minus (List.mem_of_getElem? (i := 5) rfl) rfl (by decide +kernel)
    d_times := F.dfn d_times (List.mem_of_getElem? (i := 6) rfl) rfl (by decide +kernel)
    d_over := F.dfn d_over (List.mem_of_getElem? (i := 7) rfl) rfl (by decide +kernel)
    d_under := F.dfn d_under (List.mem_of_getElem? (i := 8) rfl) rfl (by decide +kernel)
    d_greater := F.dfn d_greater (List.mem_of_getElem? (i := 9) rfl) rfl (by decide +kernel)
    d_lesser := F.dfn d_lesser (List.mem_of_getElem? (i := 10) rfl) rfl (by decide +kernel)
    d_sum_of := F.dfn d_sum_of (List.mem_of_getElem? (i := 11) rfl) rfl (by decide +kernel)
    d_do_cross := F.dfn d_do_cross (List.mem_of_getElem? (i := 12) rfl) rfl (by decide +kernel)
    d_is_parted := F.dfn d_is_parted (List.mem_of_getElem? (i := 13) rfl) rfl (by decide +kernel)
    d_parted_in := F.dfn d_parted_in (List.mem_of_getElem? (i := 14) rfl) rfl (by decide +kernel)
    d_all_cross := F.dfn d_all_cross (List.mem_of_getElem? (i := 15) rfl) rfl (by decide +kernel)
    d_is_cut := F.dfn d_is_cut (List.mem_of_getElem? (i := 16) rfl) rfl (by decide +kernel)
    d_is_within := F.dfn d_is_within (List.mem_of_getElem? (i := 17) rfl) rfl (by decide +kernel)
    d_is_apart := F.dfn d_is_apart (List.mem_of_getElem? (i := 18) rfl) rfl (by decide +kernel)
    d_across := F.dfn d_across (List.mem_of_getElem? (i := 19) rfl) rfl (by decide +kernel)
    d_rooms_of := F.dfn d_rooms_of (List.mem_of_getElem? (i := 20) rfl) rfl (by decide +kernel)
    d_shown_by := F.dfn d_shown_by (List.mem_of_getElem? (i := 21) rfl) rfl (by decide +kernel)
    d_all_cuts := F.dfn d_all_cuts (List.mem_of_getElem? (i := 22) rfl) rfl (by decide +kernel)
    d_greatest_cut := F.dfn d_greatest_cut (List.mem_of_getElem? (i := 23) rfl) rfl (by decide +kernel)
    d_other_way := F.dfn d_other_way (List.mem_of_getElem? (i := 24) rfl) rfl (by decide +kernel)
    d_ties_of := F.dfn d_ties_of (List.mem_of_getElem? (i := 25) rfl) rfl (by decide +kernel)
    d_is_over := F.dfn d_is_over (List.mem_of_getElem? (i := 26) rfl) rfl (by decide +kernel)
    d_loads_of := F.dfn d_loads_of (List.mem_of_getElem? (i := 27) rfl) rfl (by decide +kernel)
    d_strains_of := F.dfn d_strains_of (List.mem_of_getElem? (i := 28) rfl) rfl (by decide +kernel)
    d_top_of := F.dfn d_top_of (List.mem_of_getElem? (i := 29) rfl) rfl (by decide +kernel)
    d_table_of := F.dfn d_table_of (List.mem_of_getElem? (i := 30) rfl) rfl (by decide +kernel)
    d_cut_above := F.dfn d_cut_above (List.mem_of_getElem? (i := 31) rfl) rfl (by decide +kernel)
    d_fitting := F.dfn d_fitting (List.mem_of_getElem? (i := 32) rfl) rfl (by decide +kernel)
    d_first_broken := F.dfn d_first_broken (List.mem_of_getElem? (i := 33) rfl) rfl (by decide +kernel)
    d_are_ways := F.dfn d_are_ways (List.mem_of_getElem? (i := 34) rfl) rfl (by decide +kernel)
    d_sent_by := F.dfn d_sent_by (List.mem_of_getElem? (i := 35) rfl) rfl (by decide +kernel)
    d_least_top := F.dfn d_least_top (List.mem_of_getElem? (i := 36) rfl) rfl (by decide +kernel)
    d_is_sending := F.dfn d_is_sending (List.mem_of_getElem? (i := 37) rfl) rfl (by decide +kernel)
    d_lets_least := F.dfn d_lets_least (List.mem_of_getElem? (i := 38) rfl) rfl (by decide +kernel)
    d_is_number := F.dfn d_is_number (List.mem_of_getElem? (i := 39) rfl) rfl (by decide +kernel)
    d_gone_by := F.dfn d_gone_by (List.mem_of_getElem? (i := 40) rfl) rfl (by decide +kernel)
    d_are_apart := F.dfn d_are_apart (List.mem_of_getElem? (i := 41) rfl) rfl (by decide +kernel)
    d_is_way := F.dfn d_is_way (List.mem_of_getElem? (i := 42) rfl) rfl (by decide +kernel)
    d_is_slide := F.dfn d_is_slide (List.mem_of_getElem? (i := 43) rfl) rfl (by decide +kernel)
    d_moved := F.dfn d_moved (List.mem_of_getElem? (i := 44) rfl) rfl (by decide +kernel)
    d_slid := F.dfn d_slid (List.mem_of_getElem? (i := 45) rfl) rfl (by decide +kernel)
    d_slid_by := F.dfn d_slid_by (List.mem_of_getElem? (i := 46) rfl) rfl (by decide +kernel)
    d_ways_apart := F.dfn d_ways_apart (List.mem_of_getElem? (i := 47) rfl) rfl (by decide +kernel)
    d_next_slide := F.dfn d_next_slide (List.mem_of_getElem? (i := 48) rfl) rfl (by decide +kernel)
    d_slides_for := F.dfn d_slides_for (List.mem_of_getElem? (i := 49) rfl) rfl (by decide +kernel)
    d_rising_way := F.dfn d_rising_way (List.mem_of_getElem? (i := 50) rfl) rfl (by decide +kernel)
    d_gain_by := F.dfn d_gain_by (List.mem_of_getElem? (i := 51) rfl) rfl (by decide +kernel)
    d_in_order := F.dfn d_in_order (List.mem_of_getElem? (i := 52) rfl) rfl (by decide +kernel)
    d_half_of_greatest := F.dfn d_half_of_greatest (List.mem_of_getElem? (i := 53) rfl) rfl (by decide +kernel)
    d_goes_whole := F.dfn d_goes_whole (List.mem_of_getElem? (i := 54) rfl) rfl (by decide +kernel)
    d_are_rounded := F.dfn d_are_rounded (List.mem_of_getElem? (i := 55) rfl) rfl (by decide +kernel)
    d_behind_or_none := F.dfn d_behind_or_none (List.mem_of_getElem? (i := 56) rfl) rfl (by decide +kernel)
    d_lets_rounding := F.dfn d_lets_rounding (List.mem_of_getElem? (i := 57) rfl) rfl (by decide +kernel)
    d_whole_ways := F.dfn d_whole_ways (List.mem_of_getElem? (i := 58) rfl) rfl (by decide +kernel)
    d_rounding_of := F.dfn d_rounding_of (List.mem_of_getElem? (i := 59) rfl) rfl (by decide +kernel)
    d_near_whole := F.dfn d_near_whole (List.mem_of_getElem? (i := 60) rfl) rfl (by decide +kernel)
    d__law_begun := F.dfn d__law_begun (List.mem_of_getElem? (i := 61) rfl) rfl (by decide +kernel)
    d__law_take := F.dfn d__law_take (List.mem_of_getElem? (i := 62) rfl) rfl (by decide +kernel)
    d__law_low := F.dfn d__law_low (List.mem_of_getElem? (i := 63) rfl) rfl (by decide +kernel)
    d__law_amount := F.dfn d__law_amount (List.mem_of_getElem? (i := 64) rfl) rfl (by decide +kernel)
    d__law_names := F.dfn d__law_names (List.mem_of_getElem? (i := 65) rfl) rfl (by decide +kernel)
    d__law_rooms := F.dfn d__law_rooms (List.mem_of_getElem? (i := 66) rfl) rfl (by decide +kernel)
    d__law_ends := F.dfn d__law_ends (List.mem_of_getElem? (i := 67) rfl) rfl (by decide +kernel)
    d__law_ring := F.dfn d__law_ring (List.mem_of_getElem? (i := 68) rfl) rfl (by decide +kernel)
    d__law_plus := F.dfn d__law_plus (List.mem_of_getElem? (i := 69) rfl) rfl (by decide +kernel)
    d__law_minus := F.dfn d__law_minus (List.mem_of_getElem? (i := 70) rfl) rfl (by decide +kernel)
    d__law_under := F.dfn d__law_under (List.mem_of_getElem? (i := 71) rfl) rfl (by decide +kernel)
    d__law_ties := F.dfn d__law_ties (List.mem_of_getElem? (i := 72) rfl) rfl (by decide +kernel)
    d__law_loads := F.dfn d__law_loads (List.mem_of_getElem? (i := 73) rfl) rfl (by decide +kernel)
    d__law_parted := F.dfn d__law_parted (List.mem_of_getElem? (i := 74) rfl) rfl (by decide +kernel)
    d__law_greatest := F.dfn d__law_greatest (List.mem_of_getElem? (i := 75) rfl) rfl (by decide +kernel)
    d__law_right := F.dfn d__law_right (List.mem_of_getElem? (i := 76) rfl) rfl (by decide +kernel)
    d_law := F.dfn d_law (List.mem_of_getElem? (i := 77) rfl) rfl (by decide +kernel)
    cl := ⟨c1, c2, c3, a1⟩
    mkF := ⟨c4, m1, F.isFn (ia _ (by decide)) (by decide), c5⟩
    g_Filling := F.ref _ _ (by decide +kernel)
    na_asked := a2
    na_free := a3
    na_left := a4
    m_slack := ⟨m2, F.isFn (ia _ (by decide)) (by decide), kp (F.fun (d := d_Filling_slack) (List.mem_of_getElem? (i := 79) rfl))⟩
    m_most_on := ⟨m3, F.isFn (ia _ (by decide)) (by decide), kp (F.fun (d := d_Filling_most_on) (List.mem_of_getElem? (i := 80) rfl))⟩
    m_take := ⟨m4, F.isFn (ia _ (by decide)) (by decide), kp (F.fun (d := d_Filling_take) (List.mem_of_getElem? (i := 81) rfl))⟩
    m_sent := ⟨m5, F.isFn (ia _ (by decide)) (by decide), kp (F.fun (d := d_Filling_sent) (List.mem_of_getElem? (i := 82) rfl))⟩
    f___init__ := F.fun (d := d_Filling___init__) (List.mem_of_getElem? (i := 78) rfl)
    f_slack := F.fun (d := d_Filling_slack) (List.mem_of_getElem? (i := 79) rfl)
    f_most_on := F.fun (d := d_Filling_most_on) (List.mem_of_getElem? (i := 80) rfl)
    f_take := F.fun (d := d_Filling_take) (List.mem_of_getElem? (i := 81) rfl)
    f_sent := F.fun (d := d_Filling_sent) (List.mem_of_getElem? (i := 82) rfl)
  }
end NwB
end NwE2_
section NwE3_
set_option Elab.async false
set_option linter.all false
set_option maxRecDepth 100000
set_option maxHeartbeats 0
namespace NwB
open PySem PySem.Spec PyProof.Rows L2 NwT
open Evl (Ex)
theorem law_fn {P : Program} {w : World} {K : PySem.W.Frag} {mg : Str → Option Value} {base : Heap} {f : Addr} {fd : FuncData} (T : Tx K mg) (F : Fun K "law" "law" s_law f fd) : FnG P w K mg base 13 f fd ["_law_script"] (spF K P_law) := by
  have h_is_whole := has_is_whole (P := P) (w := w) (base := base) T
  have h_common := has_common (P := P) (w := w) (base := base) T
  have h_is_ratio := has_is_ratio (P := P) (w := w) (base := base) T h_common h_is_whole
  have h_lowered := has_lowered (P := P) (w := w) (base := base) T h_common
  have h_plus := has_plus (P := P) (w := w) (base := base) T h_lowered
  have h_minus := has_minus (P := P) (w := w) (base := base) T h_lowered
  have h_times := has_times (P := P) (w := w) (base := base) T h_lowered
  have h_over := has_over (P := P) (w := w) (base := base) T h_lowered
  have h_under := has_under (P := P) (w := w) (base := base) T
  have h_greater := has_greater (P := P) (w := w) (base := base) T h_under
  have h_lesser := has_lesser (P := P) (w := w) (base := base) T h_under
  have h_sum_of := has_sum_of (P := P) (w := w) (base := base) T h_plus
  have h_is_cut := has_is_cut (P := P) (w := w) (base := base) T h_is_whole
  have h_is_within := has_is_within (P := P) (w := w) (base := base) T
  have h_is_apart := has_is_apart (P := P) (w := w) (base := base) T h_is_within
  have h_across := has_across (P := P) (w := w) (base := base) T h_is_apart h_sum_of
  have h_rooms_of := has_rooms_of (P := P) (w := w) (base := base) T h_plus
  have h_shown_by := has_shown_by (P := P) (w := w) (base := base) T h_across h_over h_rooms_of
  have h_all_cuts := has_all_cuts (P := P) (w := w) (base := base) T
  have h_greatest_cut := has_greatest_cut (P := P) (w := w) (base := base) T h_all_cuts h_shown_by h_under
  have h_other_way := has_other_way (P := P) (w := w) (base := base) T
  have h_ties_of := has_ties_of (P := P) (w := w) (base := base) T
  have h_is_over := has_is_over (P := P) (w := w) (base := base) T
  have h_do_cross := has_do_cross (P := P) (w := w) (base := base) T
  have h_is_parted := has_is_parted (P := P) (w := w) (base := base) T h_under
  have h_parted_in := has_parted_in (P := P) (w := w) (base := base) T h_is_parted
  have h_all_cross := has_all_cross (P := P) (w := w) (base := base) T h_do_cross
  have h_loads_of := has_loads_of (P := P) (w := w) (base := base) T h_is_over h_minus h_plus
  have h_strains_of := has_strains_of (P := P) (w := w) (base := base) T h_loads_of h_over
  have h_top_of := has_top_of (P := P) (w := w) (base := base) T h_strains_of h_under
  have h_cut_above := has_cut_above (P := P) (w := w) (base := base) T h_all_cuts h_shown_by h_under
  have h_first_broken := has_first_broken (P := P) (w := w) (base := base) T h_loads_of h_times h_under
  have h_is_way := has_is_way (P := P) (w := w) (base := base) T
  have h_is_number := has_is_number (P := P) (w := w) (base := base) T h_is_whole
  have h_are_ways := has_are_ways (P := P) (w := w) (base := base) T
  have h_sent_by := has_sent_by (P := P) (w := w) (base := base) T
  have h_gone_by := has_gone_by (P := P) (w := w) (base := base) T h_minus
  have h_are_apart := has_are_apart (P := P) (w := w) (base := base) T h_ties_of
  have h_is_slide := has_is_slide (P := P) (w := w) (base := base) T h_are_apart h_gone_by h_is_number h_is_ratio h_is_way h_other_way h_under
  have h_moved := has_moved (P := P) (w := w) (base := base) T h_minus h_plus
  have h_slid := has_slid (P := P) (w := w) (base := base) T h_moved
  have h_slid_by := has_slid_by (P := P) (w := w) (base := base) T h_is_slide h_slid
  have h_ways_apart := has_ways_apart (P := P) (w := w) (base := base) T h_are_apart
  have h_next_slide := has_next_slide (P := P) (w := w) (base := base) T h_do_cross h_gone_by h_lesser h_other_way h_parted_in h_ways_apart
  have h_slides_for := has_slides_for (P := P) (w := w) (base := base) T h_next_slide h_slid
  have h_rising_way := has_rising_way (P := P) (w := w) (base := base) T
  have h_gain_by := has_gain_by (P := P) (w := w) (base := base) T h_gone_by h_minus h_rising_way
  have h_in_order := has_in_order (P := P) (w := w) (base := base) T
  have h_half_of_greatest := has_half_of_greatest (P := P) (w := w) (base := base) T h_greater h_times
  have h_goes_whole := has_goes_whole (P := P) (w := w) (base := base) T h_gone_by
  have h_are_rounded := has_are_rounded (P := P) (w := w) (base := base) T h_gain_by h_goes_whole h_half_of_greatest h_in_order h_minus h_parted_in h_plus h_under
  have h_behind_or_none := has_behind_or_none (P := P) (w := w) (base := base) T h_slid_by
  have h_lets_rounding := has_lets_rounding (P := P) (w := w) (base := base) T h_all_cross h_are_rounded h_are_ways h_behind_or_none h_parted_in
  have h_whole_ways := has_whole_ways (P := P) (w := w) (base := base) T h_gain_by h_goes_whole h_half_of_greatest h_in_order h_other_way h_parted_in h_plus h_rising_way h_under
  have h_table_of := has_table_of (P := P) (w := w) (base := base) T h_across
  have h_is_sending := has_is_sending (P := P) (w := w) (base := base) T h_first_broken h_is_ratio
  have h_lets_least := has_lets_least (P := P) (w := w) (base := base) T h_is_cut h_is_ratio h_is_sending h_shown_by h_top_of
  have hm_slack := hm_slack (P := P) (w := w) (base := base) T h_minus h_plus
  have hm_most_on := hm_most_on (P := P) (w := w) (base := base) T h_lesser h_over hm_slack
  have hm_take := hm_take (P := P) (w := w) (base := base) T h_is_apart h_minus
  have hm_sent := hm_sent (P := P) (w := w) (base := base) T h_ties_of hm_most_on hm_take
  have hm___init__ := hm___init__ (P := P) (w := w) (base := base) T h_table_of h_times
  have h_fitting := has_fitting (P := P) (w := w) (base := base) T h_cut_above hm___init__ hm_sent
  have h_least_top := has_least_top (P := P) (w := w) (base := base) T h_fitting h_greatest_cut
  have h_rounding_of := has_rounding_of (P := P) (w := w) (base := base) T h_slid_by h_slides_for h_whole_ways
  have h_near_whole := has_near_whole (P := P) (w := w) (base := base) T h_least_top h_rounding_of h_sent_by h_top_of
  have h__law_begun := has__law_begun (P := P) (w := w) (base := base) T
  have h__law_take := has__law_take (P := P) (w := w) (base := base) T
  have h__law_low := has__law_low (P := P) (w := w) (base := base) T
  have h__law_amount := has__law_amount (P := P) (w := w) (base := base) T h__law_low h__law_take
  have h__law_names := has__law_names (P := P) (w := w) (base := base) T h__law_take
  have h__law_rooms := has__law_rooms (P := P) (w := w) (base := base) T h__law_amount h__law_take
  have h__law_ends := has__law_ends (P := P) (w := w) (base := base) T h__law_take
  have h__law_ring := has__law_ring (P := P) (w := w) (base := base) T h__law_amount h__law_begun h__law_ends h__law_names h__law_rooms h__law_take
  have h__law_plus := has__law_plus (P := P) (w := w) (base := base) T h__law_low
  have h__law_minus := has__law_minus (P := P) (w := w) (base := base) T h__law_low
  have h__law_under := has__law_under (P := P) (w := w) (base := base) T
  have h__law_ties := has__law_ties (P := P) (w := w) (base := base) T
  have h__law_loads := has__law_loads (P := P) (w := w) (base := base) T h__law_minus h__law_plus h__law_ties
  have h__law_parted := has__law_parted (P := P) (w := w) (base := base) T h__law_under
  have h__law_greatest := has__law_greatest (P := P) (w := w) (base := base) T h__law_under
  have h__law_right := has__law_right (P := P) (w := w) (base := base) T h__law_greatest h__law_loads h__law_low h__law_parted h__law_plus h__law_under h_lets_least h_lets_rounding h_near_whole h_slid_by
  exact fn_law T h__law_right h__law_ring F
theorem dp_script {K : PySem.W.Frag} {H : Hp} : ∀ ns : List Int, DpAll K H (ns.map V.int) (ns.map .int)
  | [] => .nil
  | n :: ns => .cons (.int n) (dp_script ns)
theorem spF_law {K : PySem.W.Frag} {H : Hp} {E : XK} {a : Addr} {ns : List Int} (hS : SqL K H a (ns.map V.int)) (hl : ns.length ≤ 63) : spF K P_law [.ref a] H (fun v _ => v = .bl true) E := by
  have e : hide H ([] : List Addr) = H := funext fun x => hide_out (by simp)
  exact ⟨[], [.list (ns.map .int)], .dat (.bool true), ⟨ns, rfl, hl, rfl⟩, by rw [e]; exact .cons (.lst hS (dp_script ns)) .nil, fun p hp => absurd hp (by simp), fun v H2 x rd => dp_bl rd⟩
end NwB
open PySem PySem.W PySem.Calls PyProof.Rows
theorem PySem.Challenge.cw_ringloads_k39_near_whole_told_holds : PySem.Challenge.rw_ringloads_k39_near_whole_told.Holds := by
  w_on; o_law
  refine HandSHeadRun.head_any (r := OpenLaw.row PySem.Challenge.rw_ringloads_k39_near_whole_told) (q := view (OpenLaw.row PySem.Challenge.rw_ringloads_k39_near_whole_told).prog [101]) (H := NwT.hk) (ob := NwT.ob) (M := 20000) (loose := NwT.names) (d := HandSHeadRun.topDef (OpenLaw.row PySem.Challenge.rw_ringloads_k39_near_whole_told).prog 101) (kwd := []) NwT.ob_eq
    (by kernel_rfl) (fun s => by kernel_rfl) NwT.run (by kernel_rfl) (by kernel_rfl) (by kernel_rfl) (by rfl) (by first | assumption | decide +kernel) (by decide +kernel) ⟨rfl, rfl, rfl, rfl, rfl, by decide +kernel⟩ ?hw ?hc
  case hw => w_witness2
  case hc =>
    refine NwB.walkG (l := PySem.Challenge.rw_ringloads_k39_near_whole_told) (n := 63) (k := 13) (x := "_law_script") rfl (by decide) (by kernel_rfl) ⟨rfl, by decide, by decide⟩ ?F
    intro w mg fa h Y G hmg0
    obtain ⟨g, hg, e⟩ := Y
    obtain ⟨inK, fc⟩ := NwB.fac_of hg e G
    have hmg : mg ("law" : PySem.Str) = some (.ref fa) := by
      have e : (HandSHeadRun.topDef (OpenLaw.row PySem.Challenge.rw_ringloads_k39_near_whole_told).prog 101).name = ("law" : PySem.Str) := by kernel_rfl
      rw [← e]
      exact hmg0
    have T := NwB.tx_of fc
    obtain ⟨f, fd, F, hf⟩ := T.d_law.ex
    rw [hf] at hmg
    cases hmg
    have b : ∀ (s : Shared) (v : Value), BindsTo s fd ⟨[v], []⟩ [("_law_script", v)] := fun s v => by
      obtain ⟨oc, od, kV, doc, pm, an, cdv, ct, osl, rfl, _, _⟩ := F.ex
      exact .of_eq rfl
    exact ⟨NwT.Kg g, fd, NwB.spF (NwT.Kg g) NwB.P_law, inK, b, fun H a ns hl _ hS => NwB.spF_law hS hl, fun base _ _ => NwB.law_fn T F⟩
end NwE3_
