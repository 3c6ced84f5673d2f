import PyProof.Rows.All
import Wide.All
import OpenK.AllK
import Wide.FinOn
import HandS.ForMost
import HandS.ForExc
import HandS.CallSlots
import HandS.Head2
import HandS.HeadEnd
import HandS.HeadHook2
import HandS.HeadHook3
import HandS.HeadHook4
import HandS.TupAny
import HandS.TupMul
import HandS.IsInst
import HandS.Style
import HandS.Star
import HandS.FStr
import HandS.Wide
import HandS.WrittenGet
import HandS.Walk
import HandS.Zip
import HandS.Defaults
import HandS.Rev
import HandS.RevTup
import KE.KDictList
import KE.GoesMore
import PyProof.Draws
import PyProof.EnumMake
import HandS.Iter
import HandS.Dict
import HandS.List
import PySem.Challenge.RW_rootplans_k02_whole_limits_with_one_thin
section
set_option Elab.async false
set_option linter.all false
set_option maxRecDepth 100000
/-! what is looked at behind the head -/
namespace Sh
open PySem L2
inductive D where
  | non
  | bl (b : Bool)
  | int (i : Int)
  | str (s : List Nat)
  | tup (xs : List D)
  | obj (i : Nat)
  /-- a list that nobody changes (the law's script) -/
  | fl (xs : List D)
def clsB : Stmt → List Stmt
  | .ClassDef (body := b) .. => b
  | _ => []
def meth (s : Stmt) (i : Nat) : Stmt := (clsB s).getD i (.Pass ⟨0, 0, 0, 0⟩)
end Sh
namespace PySem
namespace ExD
/-- own classes, then tl -/
def refsT (tl : List Value) : List Value → Bool
  | .ref _ :: r => refsT tl r
  | l => l == tl
end ExD
end PySem
namespace Sh
open PySem PySem.Spec PyProof.Rows L2 PySem.ExD He
mutual
def dvB (K : PySem.W.Frag) : D → Value → Bool
  | .non, .none => true
  | .bl b, .bool c => b == c
  | .int i, .int j _ => decide (i = j)
  | .str l, .str y _ => decide (y.cps.toList = l)
  | .tup ds, .ref a => match K.lookup a with
    | some ⟨.type c, _, .seq its _, _⟩ => decide (c = "tuple") && (decide (its.size ≤ sizeLine) && dvsB K ds its.toList)
    | _ => false
  | _, _ => false
def dvsB (K : PySem.W.Frag) : List D → List Value → Bool
  | [], [] => true
  | d :: ds, u :: us => dvB K d u && dvsB K ds us
  | _, _ => false
end
def cstB (K : PySem.W.Frag) (x : Str) (d : D) : Bool := match PySem.W.nsIn K mainGlobals x with
  | some (some u) => dvB K d u
  | _ => false
def entB (K : PySem.W.Frag) : List DictEntry → List (List Nat × D) → Bool
  | [], [] => true
  | e :: es, q :: r => (match e.key with
    | .str x _ => decide (x.cps.toList = q.1)
    | _ => false) && (dvB K q.2 e.val && entB K es r)
  | _, _ => false
def dctB (K : PySem.W.Frag) (x : Str) (kvs : List (List Nat × D)) : Bool := match K.lookup (ga K x) with
  | some ⟨_, _, .dict es _, _⟩ => entB K es.toList kvs
  | _ => false
def exTB (K : PySem.W.Frag) (x : Str) (tl : List Value) (newId : String) : Bool :=
  (match K.lookup (ga K x) with
    | some ⟨.type t, _, .cls cd, sl⟩ => decide (t = "type") && ((match cd.mro with
      | .ref C' :: bm => decide (C' = ga K x) && refsT tl bm
      | _ => false) && (cd.hasDict && (!cd.hasDel && (match sl.toList with
      | [_, _, _, _, some (.builtin n), _] => decide (n = newId)
      | _ => false))))
    | _ => false) &&
  (eqO (PySem.W.findIn K (.ref (ga K x)) "__setattr__") (some (some (.builtin "object.__setattr__"))) &&
  (eqO (PySem.W.findIn K (.ref (ga K x)) "__getattribute__") (some (some (.builtin "BaseException.__getattribute__"))) &&
  (eqO (PySem.W.findIn K (.ref (ga K x)) "__getattr__") (some none) &&
  (eqO (PySem.W.findIn K (.ref (ga K x)) "index") (some none) &&
  (eqO (PySem.W.findIn K (.ref (ga K x)) "__init__") (some (some (.ref (ma K (ga K x) "__init__")))) &&
  (decide (PySem.W.typeIn K (.ref (ma K (ga K x) "__init__")) = some (.type "function")) &&
  (PySem.W.keepIn K (.ref (ga K x)) &&
  (decide (PySem.W.subIn K (.ref (ga K x)) (.type "BaseException") = some true) &&
  (decide (PySem.W.typeIn K (.ref (ga K x)) = some (.type "type")) &&
  (PySem.W.hasDictIn K (ga K x) &&
  decide (PySem.W.exmOne K (.ref (ga K x)) (.ref (ga K x)) = some true)))))))))))
end Sh

end

section
set_option Elab.async false
set_option linter.all false
set_option maxRecDepth 100000
set_option maxHeartbeats 4000000
namespace T
open PySem PySem.Spec PyProof.Rows L2 PySem.ExD He Sh
def top (i : Nat) : Stmt := PySem.Challenge.pw_rootplans_k02_whole_limits_with_one_thin.main.body.getD i (.Pass ⟨0, 0, 0, 0⟩)
abbrev s_0 : Stmt := top 1
abbrev s_1 : Stmt := top 2
abbrev s_2 : Stmt := top 3
abbrev s_3 : Stmt := top 32
abbrev s_4 : Stmt := top 33
abbrev s_5 : Stmt := top 34
abbrev s_6 : Stmt := top 35
abbrev s_7 : Stmt := top 36
abbrev s_8 : Stmt := top 37
abbrev s_9 : Stmt := top 38
abbrev s_10 : Stmt := top 39
abbrev s_11 : Stmt := top 40
abbrev s_12 : Stmt := top 42
abbrev s_13 : Stmt := top 43
abbrev s_14 : Stmt := top 44
abbrev s_15 : Stmt := top 45
abbrev s_16 : Stmt := top 46
abbrev s_17 : Stmt := top 47
abbrev s_18 : Stmt := top 48
abbrev s_19 : Stmt := meth (top 49) 0
abbrev s_20 : Stmt := top 50
abbrev s_21 : Stmt := top 51
abbrev s_22 : Stmt := top 52
abbrev s_23 : Stmt := top 53
abbrev s_24 : Stmt := top 54
abbrev s_25 : Stmt := top 55
abbrev s_26 : Stmt := top 56
abbrev s_27 : Stmt := top 57
abbrev s_28 : Stmt := top 58
abbrev s_29 : Stmt := top 59
abbrev s_30 : Stmt := meth (top 65) 0
abbrev s_31 : Stmt := meth (top 65) 1
abbrev s_32 : Stmt := meth (top 65) 2
abbrev s_33 : Stmt := meth (top 65) 3
abbrev s_34 : Stmt := meth (top 65) 4
abbrev s_35 : Stmt := meth (top 65) 5
abbrev s_36 : Stmt := meth (top 65) 6
abbrev s_37 : Stmt := meth (top 65) 7
abbrev s_38 : Stmt := meth (top 65) 8
abbrev s_39 : Stmt := meth (top 65) 9
abbrev s_40 : Stmt := meth (top 65) 10
abbrev s_41 : Stmt := top 69
abbrev s_42 : Stmt := top 70
abbrev s_43 : Stmt := top 71
abbrev s_44 : Stmt := top 72
abbrev s_45 : Stmt := top 73
abbrev s_46 : Stmt := top 74
abbrev s_47 : Stmt := top 75
abbrev s_48 : Stmt := top 76
abbrev s_49 : Stmt := top 78
abbrev s_50 : Stmt := top 79
abbrev s_51 : Stmt := top 80
abbrev s_52 : Stmt := top 81
abbrev s_53 : Stmt := top 82
abbrev s_54 : Stmt := top 83
abbrev s_55 : Stmt := top 84
abbrev s_56 : Stmt := top 85
abbrev s_57 : Stmt := top 86
abbrev s_58 : Stmt := top 88
abbrev s_59 : Stmt := top 90
abbrev s_60 : Stmt := top 91
abbrev s_61 : Stmt := top 92
abbrev s_62 : Stmt := top 93
abbrev s_63 : Stmt := top 94
abbrev s_64 : Stmt := top 95
abbrev s_65 : Stmt := top 96
abbrev s_66 : Stmt := top 97
abbrev s_67 : Stmt := top 98
abbrev s_68 : Stmt := top 100
abbrev s_69 : Stmt := top 101
abbrev s_70 : Stmt := top 102
abbrev s_71 : Stmt := top 103
abbrev s_72 : Stmt := top 104
abbrev s_73 : Stmt := top 106
abbrev s_74 : Stmt := top 107
abbrev s_75 : Stmt := top 108
abbrev s_76 : Stmt := top 109
abbrev s_77 : Stmt := top 110
abbrev s_78 : Stmt := top 111
abbrev s_79 : Stmt := top 112
abbrev s_80 : Stmt := top 113
abbrev s_81 : Stmt := top 114
abbrev s_82 : Stmt := top 115
abbrev s_83 : Stmt := top 116
abbrev s_84 : Stmt := top 117
abbrev sx_InvalidText : Stmt := meth (top 62) 0
abbrev sx_Halt : Stmt := meth (top 64) 0
def k_BLANK : D := (.str [32])
def k_FACTORS : D := (.int (1))
def k_FIGURES : D := (.str [48, 49, 50, 51, 52, 53, 54, 55, 56, 57])
def k_LEAST_COEFS : D := (.int (2))
def k_LINE_END : D := (.str [10])
def k_MOST_COEFS : D := (.int (9))
def k_MOST_DEPTH : D := (.int (12))
def k_MOST_FACTORS : D := (.int (12))
def k_MOST_FIGURES : D := (.int (30))
def k_MOST_NUMERAL : D := (.int (999999999999999999999999999999))
def k_MOST_PLACES : D := (.int (40))
def k_MOST_ROOT : D := (.int (8))
def k_MOST_ROWS : D := (.int (40))
def k_MOST_SIGNS : D := (.int (12))
def k_MOST_TERMS : D := (.int (12))
def k_MOST_TURN : D := (.int (2))
def k_RUN_SIGNS : D := (.str [97, 98, 99, 100, 101, 102, 103, 104, 105, 106, 107, 108, 109, 110, 111, 112, 113, 114, 115, 116, 117, 118, 119, 120, 121, 122, 48, 49, 50, 51, 52, 53, 54, 55, 56, 57])
def k_SIGNS : D := (.str [61, 60, 62, 43, 45, 42, 47, 40, 41, 44])
def k_TERMS : D := (.int (0))
def k_WORDS : D := (.tup [(.str [97, 115, 107]), (.str [116, 101, 108, 108]), (.str [98, 121]), (.str [112, 111, 108, 121]), (.str [114, 111, 111, 116]), (.str [115, 113, 114, 116]), (.str [100, 105, 115, 116]), (.str [120]), (.str [121]), (.str [112, 111, 105, 110, 116]), (.str [108, 105, 110, 101]), (.str [99, 105, 114, 99, 108, 101]), (.str [114, 105, 110, 103]), (.str [109, 101, 101, 116]), (.str [109, 105, 100]), (.str [102, 111, 111, 116]), (.str [109, 105, 114, 114, 111, 114]), (.str [112, 97, 114, 97, 108, 108, 101, 108]), (.str [117, 112, 114, 105, 103, 104, 116]), (.str [111, 110]), (.str [105, 110, 115, 105, 100, 101]), (.str [108, 101, 102, 116]), (.str [115, 97, 109, 101]), (.str [98, 101, 116, 119, 101, 101, 110]), (.str [116, 111, 117, 99, 104])])
def d_ASK_PARTS : List (List Nat × D) := [([111, 110], (.tup [(.str [112, 111, 105, 110, 116]), (.str [99, 117, 114, 118, 101])])), ([105, 110, 115, 105, 100, 101], (.tup [(.str [112, 111, 105, 110, 116]), (.str [99, 105, 114, 99, 108, 101])])), ([108, 101, 102, 116], (.tup [(.str [112, 111, 105, 110, 116]), (.str [112, 111, 105, 110, 116]), (.str [112, 111, 105, 110, 116])])), ([115, 97, 109, 101], (.tup [(.str [112, 111, 105, 110, 116]), (.str [112, 111, 105, 110, 116])])), ([98, 101, 116, 119, 101, 101, 110], (.tup [(.str [112, 111, 105, 110, 116]), (.str [112, 111, 105, 110, 116]), (.str [112, 111, 105, 110, 116])])), ([112, 97, 114, 97, 108, 108, 101, 108], (.tup [(.str [108, 105, 110, 101]), (.str [108, 105, 110, 101])])), ([117, 112, 114, 105, 103, 104, 116], (.tup [(.str [108, 105, 110, 101]), (.str [108, 105, 110, 101])])), ([116, 111, 117, 99, 104], (.tup [(.str [99, 117, 114, 118, 101]), (.str [99, 117, 114, 118, 101])]))]
def d_ASK_SIGNS : List (List Nat × D) := [([60], (.tup [(.int (-1))])), ([61], (.tup [(.int (0))])), ([62], (.tup [(.int (1))]))]
def d_FACTOR_SIGNS : List (List Nat × D) := [([116, 105, 109, 101, 115], (.str [42])), ([111, 118, 101, 114], (.str [47]))]
def d_FACTOR_WORDS : List (List Nat × D) := [([42], (.str [116, 105, 109, 101, 115])), ([47], (.str [111, 118, 101, 114]))]
def d_FIGURE_PARTS : List (List Nat × D) := [([112, 111, 105, 110, 116], (.tup [(.str [110, 117, 109, 98, 101, 114]), (.str [110, 117, 109, 98, 101, 114])])), ([108, 105, 110, 101], (.tup [(.str [112, 111, 105, 110, 116]), (.str [112, 111, 105, 110, 116])])), ([99, 105, 114, 99, 108, 101], (.tup [(.str [112, 111, 105, 110, 116]), (.str [110, 117, 109, 98, 101, 114])])), ([114, 105, 110, 103], (.tup [(.str [112, 111, 105, 110, 116]), (.str [112, 111, 105, 110, 116])])), ([109, 101, 101, 116], (.tup [(.str [99, 117, 114, 118, 101]), (.str [99, 117, 114, 118, 101]), (.str [116, 117, 114, 110])])), ([109, 105, 100], (.tup [(.str [112, 111, 105, 110, 116]), (.str [112, 111, 105, 110, 116])])), ([102, 111, 111, 116], (.tup [(.str [112, 111, 105, 110, 116]), (.str [108, 105, 110, 101])])), ([109, 105, 114, 114, 111, 114], (.tup [(.str [112, 111, 105, 110, 116]), (.str [108, 105, 110, 101])])), ([112, 97, 114, 97, 108, 108, 101, 108], (.tup [(.str [108, 105, 110, 101]), (.str [112, 111, 105, 110, 116])])), ([117, 112, 114, 105, 103, 104, 116], (.tup [(.str [108, 105, 110, 101]), (.str [112, 111, 105, 110, 116])]))]
def d_POINT_WORDS : List (List Nat × D) := [([100, 105, 115, 116], (.int (2))), ([120], (.int (1))), ([121], (.int (1)))]
def d_TERM_SIGNS : List (List Nat × D) := [([112, 108, 117, 115], (.str [43])), ([108, 101, 115, 115], (.str [45]))]
def d_TERM_WORDS : List (List Nat × D) := [([43], (.str [112, 108, 117, 115])), ([45], (.str [108, 101, 115, 115]))]
def d_TREE_SIZES : List (List Nat × D) := [([110, 117, 109, 101, 114, 97, 108], (.int (2))), ([110, 97, 109, 101], (.int (2))), ([109, 105, 110, 117, 115], (.int (2))), ([112, 108, 117, 115], (.int (3))), ([108, 101, 115, 115], (.int (3))), ([116, 105, 109, 101, 115], (.int (3))), ([111, 118, 101, 114], (.int (3))), ([115, 113, 114, 116], (.int (2))), ([114, 111, 111, 116], (.int (3))), ([100, 105, 115, 116], (.int (3))), ([120], (.int (2))), ([121], (.int (2)))]
def dd_0 : DefD := ⟨("is_whole", none), "is_whole", "is_whole", defArgs s_0, defBody s_0, defScope s_0, [], []⟩
def dd_1 : DefD := ⟨("is_between", none), "is_between", "is_between", defArgs s_1, defBody s_1, defScope s_1, [], []⟩
def dd_2 : DefD := ⟨("is_tuple_of", none), "is_tuple_of", "is_tuple_of", defArgs s_2, defBody s_2, defScope s_2, [], []⟩
def dd_3 : DefD := ⟨("are_figures", none), "are_figures", "are_figures", defArgs s_3, defBody s_3, defScope s_3, [], []⟩
def dd_4 : DefD := ⟨("is_numeral", none), "is_numeral", "is_numeral", defArgs s_4, defBody s_4, defScope s_4, [], []⟩
def dd_5 : DefD := ⟨("kind_of_run", none), "kind_of_run", "kind_of_run", defArgs s_5, defBody s_5, defScope s_5, [], []⟩
def dd_6 : DefD := ⟨("is_run", none), "is_run", "is_run", defArgs s_6, defBody s_6, defScope s_6, [], []⟩
def dd_7 : DefD := ⟨("is_name", none), "is_name", "is_name", defArgs s_7, defBody s_7, defScope s_7, [], []⟩
def dd_8 : DefD := ⟨("kind_of_sign", none), "kind_of_sign", "kind_of_sign", defArgs s_8, defBody s_8, defScope s_8, [], []⟩
def dd_9 : DefD := ⟨("run_end", none), "run_end", "run_end", defArgs s_9, defBody s_9, defScope s_9, [], []⟩
def dd_10 : DefD := ⟨("piece_at", none), "piece_at", "piece_at", defArgs s_10, defBody s_10, defScope s_10, [], []⟩
def dd_11 : DefD := ⟨("pieces_by", none), "pieces_by", "pieces_by", defArgs s_11, defBody s_11, defScope s_11, [], []⟩
def dd_12 : DefD := ⟨("parts_of", none), "parts_of", "parts_of", defArgs s_12, defBody s_12, defScope s_12, [], []⟩
def dd_13 : DefD := ⟨("strength_of", none), "strength_of", "strength_of", defArgs s_13, defBody s_13, defScope s_13, [], []⟩
def dd_14 : DefD := ⟨("count_in_row", none), "count_in_row", "count_in_row", defArgs s_14, defBody s_14, defScope s_14, [], []⟩
def dd_15 : DefD := ⟨("needs_of", none), "needs_of", "needs_of", defArgs s_15, defBody s_15, defScope s_15, [], []⟩
def dd_16 : DefD := ⟨("is_root_number", none), "is_root_number", "is_root_number", defArgs s_16, defBody s_16, defScope s_16, [], []⟩
def dd_17 : DefD := ⟨("are_coefs", none), "are_coefs", "are_coefs", defArgs s_17, defBody s_17, defScope s_17, [], []⟩
def dd_18 : DefD := ⟨("is_node", none), "is_node", "is_node", defArgs s_18, defBody s_18, defScope s_18, [], []⟩
def dd_19 : DefD := ⟨("Place", (some "__init__")), "__init__", "Place.__init__", defArgs s_19, defBody s_19, defScope s_19, [], []⟩
def dd_20 : DefD := ⟨("most_in_row", none), "most_in_row", "most_in_row", defArgs s_20, defBody s_20, defScope s_20, [], []⟩
def dd_21 : DefD := ⟨("is_too_long", none), "is_too_long", "is_too_long", defArgs s_21, defBody s_21, defScope s_21, [], []⟩
def dd_22 : DefD := ⟨("opens_one", none), "opens_one", "opens_one", defArgs s_22, defBody s_22, defScope s_22, [], []⟩
def dd_23 : DefD := ⟨("places_below", none), "places_below", "places_below", defArgs s_23, defBody s_23, defScope s_23, [], []⟩
def dd_24 : DefD := ⟨("is_tree", none), "is_tree", "is_tree", defArgs s_24, defBody s_24, defScope s_24, [], []⟩
def dd_25 : DefD := ⟨("is_part", none), "is_part", "is_part", defArgs s_25, defBody s_25, defScope s_25, [], []⟩
def dd_26 : DefD := ⟨("are_parts", none), "are_parts", "are_parts", defArgs s_26, defBody s_26, defScope s_26, [], []⟩
def dd_27 : DefD := ⟨("is_ask", none), "is_ask", "is_ask", defArgs s_27, defBody s_27, defScope s_27, [], []⟩
def dd_28 : DefD := ⟨("is_row", none), "is_row", "is_row", defArgs s_28, defBody s_28, defScope s_28, [], []⟩
def dd_29 : DefD := ⟨("plan_wrong_by", none), "plan_wrong_by", "plan_wrong_by", defArgs s_29, defBody s_29, defScope s_29, [], []⟩
def dd_30 : DefD := ⟨("Reader", (some "__init__")), "__init__", "Reader.__init__", defArgs s_30, defBody s_30, defScope s_30, [], []⟩
def dd_31 : DefD := ⟨("Reader", (some "is_done")), "is_done", "Reader.is_done", defArgs s_31, defBody s_31, defScope s_31, [], []⟩
def dd_32 : DefD := ⟨("Reader", (some "place")), "place", "Reader.place", defArgs s_32, defBody s_32, defScope s_32, [], []⟩
def dd_33 : DefD := ⟨("Reader", (some "next_kind")), "next_kind", "Reader.next_kind", defArgs s_33, defBody s_33, defScope s_33, [], []⟩
def dd_34 : DefD := ⟨("Reader", (some "next_part")), "next_part", "Reader.next_part", defArgs s_34, defBody s_34, defScope s_34, [], []⟩
def dd_35 : DefD := ⟨("Reader", (some "sees")), "sees", "Reader.sees", defArgs s_35, defBody s_35, defScope s_35, [], []⟩
def dd_36 : DefD := ⟨("Reader", (some "took")), "took", "Reader.took", defArgs s_36, defBody s_36, defScope s_36, [], []⟩
def dd_37 : DefD := ⟨("Reader", (some "need")), "need", "Reader.need", defArgs s_37, defBody s_37, defScope s_37, [], []⟩
def dd_38 : DefD := ⟨("Reader", (some "need_end")), "need_end", "Reader.need_end", defArgs s_38, defBody s_38, defScope s_38, [], []⟩
def dd_39 : DefD := ⟨("Reader", (some "name")), "name", "Reader.name", defArgs s_39, defBody s_39, defScope s_39, [], []⟩
def dd_40 : DefD := ⟨("Reader", (some "numeral")), "numeral", "Reader.numeral", defArgs s_40, defBody s_40, defScope s_40, [], []⟩
def dd_41 : DefD := ⟨("sum_at", none), "sum_at", "sum_at", defArgs s_41, defBody s_41, defScope s_41, [], []⟩
def dd_42 : DefD := ⟨("product_at", none), "product_at", "product_at", defArgs s_42, defBody s_42, defScope s_42, [], []⟩
def dd_43 : DefD := ⟨("factor_at", none), "factor_at", "factor_at", defArgs s_43, defBody s_43, defScope s_43, [], []⟩
def dd_44 : DefD := ⟨("deeper_at", none), "deeper_at", "deeper_at", defArgs s_44, defBody s_44, defScope s_44, [], []⟩
def dd_45 : DefD := ⟨("within", none), "within", "within", defArgs s_45, defBody s_45, defScope s_45, [], []⟩
def dd_46 : DefD := ⟨("of_points", none), "of_points", "of_points", defArgs s_46, defBody s_46, defScope s_46, [], []⟩
def dd_47 : DefD := ⟨("root_number", none), "root_number", "root_number", defArgs s_47, defBody s_47, defScope s_47, [], []⟩
def dd_48 : DefD := ⟨("root_at", none), "root_at", "root_at", defArgs s_48, defBody s_48, defScope s_48, [], []⟩
def dd_49 : DefD := ⟨("part_at", none), "part_at", "part_at", defArgs s_49, defBody s_49, defScope s_49, [], []⟩
def dd_50 : DefD := ⟨("parts_at", none), "parts_at", "parts_at", defArgs s_50, defBody s_50, defScope s_50, [], []⟩
def dd_51 : DefD := ⟨("made_row", none), "made_row", "made_row", defArgs s_51, defBody s_51, defScope s_51, [], []⟩
def dd_52 : DefD := ⟨("ask_of_numbers", none), "ask_of_numbers", "ask_of_numbers", defArgs s_52, defBody s_52, defScope s_52, [], []⟩
def dd_53 : DefD := ⟨("ask_row", none), "ask_row", "ask_row", defArgs s_53, defBody s_53, defScope s_53, [], []⟩
def dd_54 : DefD := ⟨("tell_row", none), "tell_row", "tell_row", defArgs s_54, defBody s_54, defScope s_54, [], []⟩
def dd_55 : DefD := ⟨("row_at", none), "row_at", "row_at", defArgs s_55, defBody s_55, defScope s_55, [], []⟩
def dd_56 : DefD := ⟨("rows_at", none), "rows_at", "rows_at", defArgs s_56, defBody s_56, defScope s_56, [], []⟩
def dd_57 : DefD := ⟨("read_by", none), "read_by", "read_by", defArgs s_57, defBody s_57, defScope s_57, [], []⟩
def dd_58 : DefD := ⟨("check_text", none), "check_text", "check_text", defArgs s_58, defBody s_58, defScope s_58, [], []⟩
def dd_59 : DefD := ⟨("parted", none), "parted", "parted", defArgs s_59, defBody s_59, defScope s_59, [], []⟩
def dd_60 : DefD := ⟨("print_of", none), "print_of", "print_of", defArgs s_60, defBody s_60, defScope s_60, [], []⟩
def dd_61 : DefD := ⟨("needed_print", none), "needed_print", "needed_print", defArgs s_61, defBody s_61, defScope s_61, [], []⟩
def dd_62 : DefD := ⟨("tree_text", none), "tree_text", "tree_text", defArgs s_62, defBody s_62, defScope s_62, [], []⟩
def dd_63 : DefD := ⟨("part_text", none), "part_text", "part_text", defArgs s_63, defBody s_63, defScope s_63, [], []⟩
def dd_64 : DefD := ⟨("parts_text", none), "parts_text", "parts_text", defArgs s_64, defBody s_64, defScope s_64, [], []⟩
def dd_65 : DefD := ⟨("ask_text", none), "ask_text", "ask_text", defArgs s_65, defBody s_65, defScope s_65, [], []⟩
def dd_66 : DefD := ⟨("row_text", none), "row_text", "row_text", defArgs s_66, defBody s_66, defScope s_66, [], []⟩
def dd_67 : DefD := ⟨("written_by", none), "written_by", "written_by", defArgs s_67, defBody s_67, defScope s_67, [], []⟩
def dd_68 : DefD := ⟨("check_string", none), "check_string", "check_string", defArgs s_68, defBody s_68, defScope s_68, [], []⟩
def dd_69 : DefD := ⟨("first_place", none), "first_place", "first_place", defArgs s_69, defBody s_69, defScope s_69, [], []⟩
def dd_70 : DefD := ⟨("read", none), "read", "read", defArgs s_70, defBody s_70, defScope s_70, [], []⟩
def dd_71 : DefD := ⟨("is_plan", none), "is_plan", "is_plan", defArgs s_71, defBody s_71, defScope s_71, [], []⟩
def dd_72 : DefD := ⟨("tidy", none), "tidy", "tidy", defArgs s_72, defBody s_72, defScope s_72, [], []⟩
def dd_73 : DefD := ⟨("_law_forge", none), "_law_forge", "_law_forge", defArgs s_73, defBody s_73, defScope s_73, [], []⟩
def dd_74 : DefD := ⟨("_law_strike", none), "_law_strike", "_law_strike", defArgs s_74, defBody s_74, defScope s_74, [], []⟩
def dd_75 : DefD := ⟨("_law_pick", none), "_law_pick", "_law_pick", defArgs s_75, defBody s_75, defScope s_75, [], []⟩
def dd_76 : DefD := ⟨("_law_are_same", none), "_law_are_same", "_law_are_same", defArgs s_76, defBody s_76, defScope s_76, [], []⟩
def dd_77 : DefD := ⟨("_law_same", none), "_law_same", "_law_same", defArgs s_77, defBody s_77, defScope s_77, [], []⟩
def dd_78 : DefD := ⟨("_law_place", none), "_law_place", "_law_place", defArgs s_78, defBody s_78, defScope s_78, [], []⟩
def dd_79 : DefD := ⟨("_law_row", none), "_law_row", "_law_row", defArgs s_79, defBody s_79, defScope s_79, [], []⟩
def dd_80 : DefD := ⟨("_law_right", none), "_law_right", "_law_right", defArgs s_80, defBody s_80, defScope s_80, [], []⟩
def dd_81 : DefD := ⟨("_law_are_ends_right", none), "_law_are_ends_right", "_law_are_ends_right", defArgs s_81, defBody s_81, defScope s_81, [], []⟩
def dd_82 : DefD := ⟨("_law_are_words_right", none), "_law_are_words_right", "_law_are_words_right", defArgs s_82, defBody s_82, defScope s_82, [], []⟩
def dd_83 : DefD := ⟨("_law_are_trees_right", none), "_law_are_trees_right", "_law_are_trees_right", defArgs s_83, defBody s_83, defScope s_83, [], []⟩
def dd_84 : DefD := ⟨("law", none), "law", "law", defArgs s_84, defBody s_84, defScope s_84, [], []⟩
def dx_InvalidText : DefD := ⟨("InvalidText", some "__init__"), "__init__", "InvalidText.__init__", defArgs sx_InvalidText, defBody sx_InvalidText, defScope sx_InvalidText, [], []⟩
def dx_Halt : DefD := ⟨("Halt", some "__init__"), "__init__", "Halt.__init__", defArgs sx_Halt, defBody sx_Halt, defScope sx_Halt, [], []⟩
def fnL : List DefD := [dd_0, dd_1, dd_2, dd_3, dd_4, dd_5, dd_6, dd_7, dd_8, dd_9, dd_10, dd_11, dd_12, dd_13, dd_14, dd_15, dd_16, dd_17, dd_18, dd_19, dd_20, dd_21, dd_22, dd_23, dd_24, dd_25, dd_26, dd_27, dd_28, dd_29, dd_30, dd_31, dd_32, dd_33, dd_34, dd_35, dd_36, dd_37, dd_38, dd_39, dd_40, dd_41, dd_42, dd_43, dd_44, dd_45, dd_46, dd_47, dd_48, dd_49, dd_50, dd_51, dd_52, dd_53, dd_54, dd_55, dd_56, dd_57, dd_58, dd_59, dd_60, dd_61, dd_62, dd_63, dd_64, dd_65, dd_66, dd_67, dd_68, dd_69, dd_70, dd_71, dd_72, dd_73, dd_74, dd_75, dd_76, dd_77, dd_78, dd_79, dd_80, dd_81, dd_82, dd_83, dd_84, dx_InvalidText, dx_Halt]
def faL : List Fa := [.glo "is_whole", .glo "is_between", .glo "is_tuple_of", .glo "are_figures", .glo "is_numeral", .glo "kind_of_run", .glo "is_run", .glo "is_name", .glo "kind_of_sign", .glo "run_end", .glo "piece_at", .glo "pieces_by", .glo "parts_of", .glo "strength_of", .glo "count_in_row", .glo "needs_of", .glo "is_root_number", .glo "are_coefs", .glo "is_node", .glo "most_in_row", .glo "is_too_long", .glo "opens_one", .glo "places_below", .glo "is_tree", .glo "is_part", .glo "are_parts", .glo "is_ask", .glo "is_row", .glo "plan_wrong_by", .meth "Reader" "is_done", .meth "Reader" "place", .meth "Reader" "next_kind", .meth "Reader" "next_part", .meth "Reader" "sees", .meth "Reader" "took", .meth "Reader" "need", .meth "Reader" "need_end", .meth "Reader" "name", .meth "Reader" "numeral", .glo "sum_at", .glo "product_at", .glo "factor_at", .glo "deeper_at", .glo "within", .glo "of_points", .glo "root_number", .glo "root_at", .glo "part_at", .glo "parts_at", .glo "made_row", .glo "ask_of_numbers", .glo "ask_row", .glo "tell_row", .glo "row_at", .glo "rows_at", .glo "read_by", .glo "check_text", .glo "parted", .glo "print_of", .glo "needed_print", .glo "tree_text", .glo "part_text", .glo "parts_text", .glo "ask_text", .glo "row_text", .glo "written_by", .glo "check_string", .glo "first_place", .glo "read", .glo "is_plan", .glo "tidy", .glo "_law_forge", .glo "_law_strike", .glo "_law_pick", .glo "_law_are_same", .glo "_law_same", .glo "_law_place", .glo "_law_row", .glo "_law_right", .glo "_law_are_ends_right", .glo "_law_are_words_right", .glo "_law_are_trees_right", .glo "law", .cls "Place", .glo "Place", .mkr "Place", .cls "Reader", .glo "Reader", .mkr "Reader", .noat "Reader" "at", .noat "Place" "depth", .noat "Place" "need", .noat "Reader" "pieces", .noat "Place" "right", .noat "Reader" "size", .noat "Place" "value", .free "abs", .free "all", .free "bool", .free "divmod", .free "enumerate", .free "int", .free "isinstance", .free "len", .free "list", .free "max", .free "min", .free "range", .free "reversed", .free "str", .free "tuple", .free "zip", .glo "ASK_PARTS", .glo "ASK_SIGNS", .glo "FACTOR_SIGNS", .glo "FACTOR_WORDS", .glo "FIGURE_PARTS", .glo "POINT_WORDS", .glo "TERM_SIGNS", .glo "TERM_WORDS", .glo "TREE_SIZES", .glo "InvalidText", .glo "Halt"]
def tsL : List Tab := [(fun K => ga K "ASK_PARTS", [("on" : Str), ("inside" : Str), ("left" : Str), ("same" : Str), ("between" : Str), ("parallel" : Str), ("upright" : Str), ("touch" : Str)]), (fun K => ga K "ASK_SIGNS", [("<" : Str), ("=" : Str), (">" : Str)]), (fun K => ga K "FACTOR_SIGNS", [("times" : Str), ("over" : Str)]), (fun K => ga K "FACTOR_WORDS", [("*" : Str), ("/" : Str)]), (fun K => ga K "FIGURE_PARTS", [("point" : Str), ("line" : Str), ("circle" : Str), ("ring" : Str), ("meet" : Str), ("mid" : Str), ("foot" : Str), ("mirror" : Str), ("parallel" : Str), ("upright" : Str)]), (fun K => ga K "POINT_WORDS", [("dist" : Str), ("x" : Str), ("y" : Str)]), (fun K => ga K "TERM_SIGNS", [("plus" : Str), ("less" : Str)]), (fun K => ga K "TERM_WORDS", [("+" : Str), ("-" : Str)]), (fun K => ga K "TREE_SIZES", [("numeral" : Str), ("name" : Str), ("minus" : Str), ("plus" : Str), ("less" : Str), ("times" : Str), ("over" : Str), ("sqrt" : Str), ("root" : Str), ("dist" : Str), ("x" : Str), ("y" : Str)])]
def csL : List (Str × D) := [("BLANK", k_BLANK), ("FACTORS", k_FACTORS), ("FIGURES", k_FIGURES), ("LEAST_COEFS", k_LEAST_COEFS), ("LINE_END", k_LINE_END), ("MOST_COEFS", k_MOST_COEFS), ("MOST_DEPTH", k_MOST_DEPTH), ("MOST_FACTORS", k_MOST_FACTORS), ("MOST_FIGURES", k_MOST_FIGURES), ("MOST_NUMERAL", k_MOST_NUMERAL), ("MOST_PLACES", k_MOST_PLACES), ("MOST_ROOT", k_MOST_ROOT), ("MOST_ROWS", k_MOST_ROWS), ("MOST_SIGNS", k_MOST_SIGNS), ("MOST_TERMS", k_MOST_TERMS), ("MOST_TURN", k_MOST_TURN), ("RUN_SIGNS", k_RUN_SIGNS), ("SIGNS", k_SIGNS), ("TERMS", k_TERMS), ("WORDS", k_WORDS)]
def dsL : List (Str × List (List Nat × D)) := [("ASK_PARTS", d_ASK_PARTS), ("ASK_SIGNS", d_ASK_SIGNS), ("FACTOR_SIGNS", d_FACTOR_SIGNS), ("FACTOR_WORDS", d_FACTOR_WORDS), ("FIGURE_PARTS", d_FIGURE_PARTS), ("POINT_WORDS", d_POINT_WORDS), ("TERM_SIGNS", d_TERM_SIGNS), ("TERM_WORDS", d_TERM_WORDS), ("TREE_SIZES", d_TREE_SIZES)]
def xsL : List (Str × List Value × String) := [("InvalidText", [.type "ValueError", .type "Exception", .type "BaseException", .type "object"], "ValueError.__new__"), ("Halt", [.type "Exception", .type "BaseException", .type "object"], "Exception.__new__")]
def exB (K : PySem.W.Frag) : Bool := csL.all (fun p => cstB K p.1 p.2) && (dsL.all (fun p => dctB K p.1 p.2) && xsL.all (fun p => exTB K p.1 p.2.1 p.2.2))
end T

end

section
set_option Elab.async false
set_option linter.all false
set_option maxRecDepth 100000
set_option maxHeartbeats 0
namespace T
open PySem PySem.Spec PyProof.Rows L2 PySem.ExD He Sh
def l_0 : List Str := [("is_whole" : Str), ("is_between" : Str), ("is_tuple_of" : Str), ("FIGURE_PARTS" : Str), ("ASK_PARTS" : Str), ("ASK_SIGNS" : Str), ("TREE_SIZES" : Str), ("TERM_WORDS" : Str), ("FACTOR_WORDS" : Str), ("TERM_SIGNS" : Str), ("FACTOR_SIGNS" : Str), ("POINT_WORDS" : Str), ("MOST_ROWS" : Str), ("MOST_NUMERAL" : Str), ("MOST_DEPTH" : Str), ("MOST_TERMS" : Str), ("MOST_FACTORS" : Str), ("MOST_ROOT" : Str), ("LEAST_COEFS" : Str), ("MOST_COEFS" : Str), ("MOST_PLACES" : Str), ("MOST_TURN" : Str), ("RUN_SIGNS" : Str), ("FIGURES" : Str), ("SIGNS" : Str), ("BLANK" : Str), ("LINE_END" : Str), ("MOST_SIGNS" : Str), ("MOST_FIGURES" : Str), ("WORDS" : Str), ("are_figures" : Str), ("is_numeral" : Str), ("kind_of_run" : Str), ("is_run" : Str), ("is_name" : Str)]
def l_1 : List Str := [("kind_of_sign" : Str), ("run_end" : Str), ("piece_at" : Str), ("pieces_by" : Str), ("parts_of" : Str), ("strength_of" : Str), ("count_in_row" : Str), ("needs_of" : Str), ("is_root_number" : Str), ("are_coefs" : Str), ("is_node" : Str), ("Place" : Str), ("most_in_row" : Str), ("is_too_long" : Str), ("opens_one" : Str), ("places_below" : Str), ("is_tree" : Str), ("is_part" : Str), ("are_parts" : Str), ("is_ask" : Str), ("is_row" : Str), ("plan_wrong_by" : Str), ("PlanError" : Str), ("InvalidText" : Str), ("Halt" : Str), ("Reader" : Str), ("TERMS" : Str), ("FACTORS" : Str), ("sum_at" : Str), ("product_at" : Str), ("factor_at" : Str), ("deeper_at" : Str), ("within" : Str), ("of_points" : Str), ("root_number" : Str)]
def l_2 : List Str := [("root_at" : Str), ("part_at" : Str), ("parts_at" : Str), ("made_row" : Str), ("ask_of_numbers" : Str), ("ask_row" : Str), ("tell_row" : Str), ("row_at" : Str), ("rows_at" : Str), ("read_by" : Str), ("check_text" : Str), ("parted" : Str), ("print_of" : Str), ("needed_print" : Str), ("tree_text" : Str), ("part_text" : Str), ("parts_text" : Str), ("ask_text" : Str), ("row_text" : Str), ("written_by" : Str), ("check_string" : Str), ("first_place" : Str), ("read" : Str), ("is_plan" : Str), ("tidy" : Str), ("_law_forge" : Str), ("_law_strike" : Str), ("_law_pick" : Str), ("_law_are_same" : Str), ("_law_same" : Str), ("_law_place" : Str), ("_law_row" : Str), ("_law_right" : Str), ("_law_are_ends_right" : Str), ("_law_are_words_right" : Str)]
def l_3 : List Str := [("_law_are_trees_right" : Str)]
def loose : List Str := l_0 ++ l_1 ++ l_2 ++ l_3
abbrev RR : PySem.W.OpenRow := PySem.W.OpenLaw.row PySem.Challenge.rw_rootplans_k02_whole_limits_with_one_thin
def hk : PySem.W.Hook := hookX 4 faL fnL tsL [] exB
def ob (s : PySem.W.SharedT) : AlX := obsX 4 faL fnL tsL [] exB (HandSHeadRun.getT s)
theorem ob_eq (s : PySem.W.SharedT) : ob s = hk.obs s.abs := obsX_eq (HandSHeadRun.getT_eq s)
def Kof (s : PySem.W.SharedT) : PySem.W.Frag := frT (HandSHeadRun.getT s) (asD (HandSHeadRun.getT s) 4)
abbrev qv : Program := PySem.W.view RR.prog [117]
noncomputable def endW (w : World) (os : OsState) : Option PySem.W.SharedT := HandSHeadRun.endF (HandSHeadRun.stepQ (HandSHeadRun.denQ HandSHeadRun.tabQ) RR.prog w) 6000 RR.prog w os
noncomputable def look1 (w : World) (s : PySem.W.SharedT) : Bool := HandSHeadRun.looksF RR.prog (PySem.W.boot_heap w.params) s.abs
noncomputable def look2 (s : PySem.W.SharedT) := HandSHeadRun.seenQ qv loose (importedModules RR.prog.main.body) (fun s => PySem.W.xlAt qv [] s && PySem.W.recOk RR.toRowW.records s) s.abs
noncomputable def look3 (s : PySem.W.SharedT) : Bool := exB (Kof s) && tabsB (HandSHeadRun.getT s) [] (Kof s)
def chA : Nat → List Fa
  | i => (faL.drop (i * ((faL.length + 0) / 1))).take ((faL.length + 0) / 1)
def chN : Nat → List DefD
  | i => (fnL.drop (i * ((fnL.length + 0) / 1))).take ((fnL.length + 0) / 1)
theorem chA_eq : faL = chA 0 := by kernel_rfl
theorem chN_eq : fnL = chN 0 := by kernel_rfl
theorem h1F (w : World) (os : OsState) : (endW (w.withFollow "special-get-raises" false) os).map (fun s => (look1 (w.withFollow "special-get-raises" false) s, look2 s)) = some (true, PySem.W.openGood qv loose) := by
  kernel_rfl
theorem ha0F (w : World) (os : OsState) : (endW (w.withFollow "special-get-raises" false) os).map (fun s => (chA 0).all (fun f => f.ok (Kof s)) && look3 s) = some true := by
  kernel_rfl
theorem hn0F (w : World) (os : OsState) : (endW (w.withFollow "special-get-raises" false) os).map (fun s => ((chN 0).all fun d => d.ok (Kof s), (chN 0).map fun d => fnW (Kof s) d.at_, tsL.map fun t => dicW (Kof s) (t.1 (Kof s)))) = some (true, (chN 0).map DefD.val, tsL.map fun t => some (keysIn (w.withFollow "special-get-raises" false).params t.2)) := by
  kernel_rfl
theorem runF (w : World) : HandSHeadRun.RunEq RR qv hk ob 6000 loose (w.withFollow "special-get-raises" false) := by
  intro os
  obtain ⟨s, hs, e1⟩ := Option.map_eq_some_iff.mp (h1F w os)
  have b0 := ha0F w os
  rw [hs] at b0
  have b0 : (((chA 0).all fun f => f.ok (Kof s)) && look3 s) = true := Option.some.inj b0
  have a0 := (Bool.and_eq_true_iff.mp b0).1
  have n0 := hn0F w os
  rw [hs] at n0
  have n0 := Option.some.inj n0
  have hs2 : HandSHeadRun.endF (HandSHeadRun.stepQ (HandSHeadRun.denQ HandSHeadRun.tabQ) RR.prog (w.withFollow "special-get-raises" false)) 6000 RR.prog (w.withFollow "special-get-raises" false) os = some s := hs
  rw [hs2]
  have z1 := congrArg (fun x => x.1) e1
  have z2 := congrArg (fun x => x.2) e1
  have z3 := (Bool.and_eq_true_iff.mp b0).2
  have fa : (faL.all fun f => f.ok (Kof s)) = true := by
    rw [chA_eq]
    try simp only [List.all_append, Bool.and_eq_true]
    exact a0
  have fn1 : (fnL.all fun d => d.ok (Kof s)) = true := by
    rw [chN_eq]
    try simp only [List.all_append, Bool.and_eq_true]
    exact congrArg (fun x => x.1) n0
  have fn2 : (fnL.map fun d => fnW (Kof s) d.at_) = fnL.map DefD.val := by
    rw [chN_eq]
    try simp only [List.map_append]
    rw [show (chN 0).map (fun d => fnW (Kof s) d.at_) = (chN 0).map DefD.val from congrArg (fun x => x.2.1) n0]
  have ts : (tsL.map fun t => dicW (Kof s) (t.1 (Kof s))) = tsL.map fun t => some (keysIn (w.withFollow "special-get-raises" false).params t.2) := congrArg (fun x => x.2.2) n0
  have obv : ob s = hk.val (w.withFollow "special-get-raises" false) := by
    show (obsT faL fnL tsL (Kof s), exB (Kof s) && tabsB (HandSHeadRun.getT s) [] (Kof s)) = (valT fnL tsL (w.withFollow "special-get-raises" false), true)
    refine Prod.ext ?_ z3
    refine Prod.ext (Prod.ext ?_ fn2) ts
    exact Bool.and_eq_true_iff.mpr ⟨fa, fn1⟩
  exact congrArg some (Prod.ext z1 (Prod.ext z2 obv))
theorem h1T (w : World) (os : OsState) : (endW (w.withFollow "special-get-raises" true) os).map (fun s => (look1 (w.withFollow "special-get-raises" true) s, look2 s)) = some (true, PySem.W.openGood qv loose) := by
  kernel_rfl
theorem ha0T (w : World) (os : OsState) : (endW (w.withFollow "special-get-raises" true) os).map (fun s => (chA 0).all (fun f => f.ok (Kof s)) && look3 s) = some true := by
  kernel_rfl
theorem hn0T (w : World) (os : OsState) : (endW (w.withFollow "special-get-raises" true) os).map (fun s => ((chN 0).all fun d => d.ok (Kof s), (chN 0).map fun d => fnW (Kof s) d.at_, tsL.map fun t => dicW (Kof s) (t.1 (Kof s)))) = some (true, (chN 0).map DefD.val, tsL.map fun t => some (keysIn (w.withFollow "special-get-raises" true).params t.2)) := by
  kernel_rfl
theorem runT (w : World) : HandSHeadRun.RunEq RR qv hk ob 6000 loose (w.withFollow "special-get-raises" true) := by
  intro os
  obtain ⟨s, hs, e1⟩ := Option.map_eq_some_iff.mp (h1T w os)
  have b0 := ha0T w os
  rw [hs] at b0
  have b0 : (((chA 0).all fun f => f.ok (Kof s)) && look3 s) = true := Option.some.inj b0
  have a0 := (Bool.and_eq_true_iff.mp b0).1
  have n0 := hn0T w os
  rw [hs] at n0
  have n0 := Option.some.inj n0
  have hs2 : HandSHeadRun.endF (HandSHeadRun.stepQ (HandSHeadRun.denQ HandSHeadRun.tabQ) RR.prog (w.withFollow "special-get-raises" true)) 6000 RR.prog (w.withFollow "special-get-raises" true) os = some s := hs
  rw [hs2]
  have z1 := congrArg (fun x => x.1) e1
  have z2 := congrArg (fun x => x.2) e1
  have z3 := (Bool.and_eq_true_iff.mp b0).2
  have fa : (faL.all fun f => f.ok (Kof s)) = true := by
    rw [chA_eq]
    try simp only [List.all_append, Bool.and_eq_true]
    exact a0
  have fn1 : (fnL.all fun d => d.ok (Kof s)) = true := by
    rw [chN_eq]
    try simp only [List.all_append, Bool.and_eq_true]
    exact congrArg (fun x => x.1) n0
  have fn2 : (fnL.map fun d => fnW (Kof s) d.at_) = fnL.map DefD.val := by
    rw [chN_eq]
    try simp only [List.map_append]
    rw [show (chN 0).map (fun d => fnW (Kof s) d.at_) = (chN 0).map DefD.val from congrArg (fun x => x.2.1) n0]
  have ts : (tsL.map fun t => dicW (Kof s) (t.1 (Kof s))) = tsL.map fun t => some (keysIn (w.withFollow "special-get-raises" true).params t.2) := congrArg (fun x => x.2.2) n0
  have obv : ob s = hk.val (w.withFollow "special-get-raises" true) := by
    show (obsT faL fnL tsL (Kof s), exB (Kof s) && tabsB (HandSHeadRun.getT s) [] (Kof s)) = (valT fnL tsL (w.withFollow "special-get-raises" true), true)
    refine Prod.ext ?_ z3
    refine Prod.ext (Prod.ext ?_ fn2) ts
    exact Bool.and_eq_true_iff.mpr ⟨fa, fn1⟩
  exact congrArg some (Prod.ext z1 (Prod.ext z2 obv))
theorem run (w : World) : HandSHeadRun.RunEq RR qv hk ob 6000 loose w := PySem.W.byRow2 "special-get-raises" (P := fun w => HandSHeadRun.RunEq RR qv hk ob 6000 loose w) runF runT w
end T

end

section
set_option Elab.async false
set_option linter.all false
set_option maxRecDepth 100000
/-! A shallow evaluator over the hand layer: pure values, a heap of lists and instances; each combinator is sound for the layer's readings. -/
namespace Sh
open PySem L2

/-! ### values, objects, results -/
inductive O where
  | lst (xs : List D)
  | ins (c : Nat) (fs : List D)
  /-- a dict whose keys are texts -/
  | dct (ks : List (List Nat)) (ds : List D)
abbrev Hd := List O
abbrev Sl := List (Option D)
inductive R (α : Type) where
  | ok (a : α) (h : Hd)
  | exc (c : Nat) (fs : List D) (h : Hd)
  | no
def R.bind {α β : Type} (r : R α) (k : α → Hd → R β) : R β := match r with
  | .ok a h => k a h
  | .exc c fs h => .exc c fs h
  | .no => .no
abbrev Ex := Sl → Hd → R D
/-- statements' results -/
inductive RS where
  | nx (s : Sl) (h : Hd)
  | rt (d : D) (h : Hd)
  | ct (s : Sl) (h : Hd)
  | bk (s : Sl) (h : Hd)
  | exc (c : Nat) (fs : List D) (s : Sl) (h : Hd)
  | no
abbrev Sm := Sl → Hd → RS

/-- what is fixed: the written part, classes' addresses, their fields -/
structure Su where
  K : PySem.W.Frag
  ca : Nat → Addr
  cf : Nat → List Str

/-! ### relations -/
/-- a list that stays -/
def SqF (K : PySem.W.Frag) (H : Hp) (a : Addr) (xs : List V) : Prop :=
  (∃ o, H a = some (.frz o (.lst xs))) ∨
    ∃ (o : Obj) (its : Array Value) (n : Nat), K.lookup a = some o ∧ o.cls = .type "list" ∧ o.dict = none ∧ o.data = .seq its n ∧ its.size ≤ sizeLine ∧ Vals xs its.toList
theorem SqF.l {K : PySem.W.Frag} {H : Hp} {a : Addr} {xs : List V} (h : SqF K H a xs) : SqL K H a xs := by
  rcases h with h | h
  · exact .inl (.inr h)
  · exact .inr h
mutual
inductive VR (K : PySem.W.Frag) (ρ : List Addr) (H : Hp) : D → V → Prop
  | non : VR K ρ H .non .non
  | bl (b : Bool) : VR K ρ H (.bl b) (.bl b)
  | int (i : Int) : VR K ρ H (.int i) (.int i)
  | str (l : List Nat) : VR K ρ H (.str l) (.str ⟨l.toArray⟩)
  | tup {ds : List D} {a : Addr} {xs : List V} : SqT K H a xs → VRs K ρ H ds xs → VR K ρ H (.tup ds) (.ref a)
  | obj {i : Nat} {a : Addr} : ρ[i]? = some a → VR K ρ H (.obj i) (.ref a)
  | fl {ds : List D} {a : Addr} {xs : List V} : SqF K H a xs → VRs K ρ H ds xs → VR K ρ H (.fl ds) (.ref a)
inductive VRs (K : PySem.W.Frag) (ρ : List Addr) (H : Hp) : List D → List V → Prop
  | nil : VRs K ρ H [] []
  | cons {d : D} {v : V} {ds : List D} {vs : List V} : VR K ρ H d v → VRs K ρ H ds vs → VRs K ρ H (d :: ds) (v :: vs)
end
/-- stays whatever is written elsewhere -/
def still : HO → Bool
  | .lst _ => false
  | .ins _ _ _ => false
  | .dK _ => false
  | _ => true
structure Step (ρ : List Addr) (H : Hp) (ρ' : List Addr) (H' : Hp) : Prop where
  pre : ∃ t, ρ' = ρ ++ t ∧ ∀ a ∈ t, H a = none
  keep : ∀ a o, H a = some o → (a ∉ ρ ∨ still o = true) → H' a = some o
  there : ∀ a o, H a = some o → ∃ o', H' a = some o'
theorem Step.refl {ρ : List Addr} {H : Hp} : Step ρ H ρ H := ⟨⟨[], by simp, by simp⟩, fun _ _ h _ => h, fun _ o h => ⟨o, h⟩⟩
theorem Step.trans {ρ ρ1 ρ2 : List Addr} {H H1 H2 : Hp} (a : Step ρ H ρ1 H1) (b : Step ρ1 H1 ρ2 H2) : Step ρ H ρ2 H2 := by
  obtain ⟨t, e, f⟩ := a.pre
  obtain ⟨t2, e2, f2⟩ := b.pre
  refine ⟨⟨t ++ t2, by rw [e2, e, List.append_assoc], fun x hx => ?_⟩, fun x o h c => ?_, fun x o h => ?_⟩
  · rcases List.mem_append.mp hx with hx | hx
    · exact f x hx
    · cases q : H x with
      | none => rfl
      | some o =>
        obtain ⟨o', q'⟩ := a.there x o q
        rw [f2 x hx] at q'
        cases q'
  · have h1 := a.keep x o h c
    refine b.keep x o h1 ?_
    rcases c with c | c
    · left
      rw [e]
      intro hx
      rcases List.mem_append.mp hx with hx | hx
      · exact c hx
      · rw [f x hx] at h; cases h
    · exact .inr c
  · obtain ⟨o', h1⟩ := a.there x o h
    exact b.there x o' h1
theorem Step.get {ρ ρ' : List Addr} {H H' : Hp} (s : Step ρ H ρ' H') {i : Nat} {a : Addr} (h : ρ[i]? = some a) : ρ'[i]? = some a := by
  obtain ⟨t, e, _⟩ := s.pre
  obtain ⟨hl, _⟩ := List.getElem?_eq_some_iff.mp h
  rw [e, List.getElem?_append_left hl, h]
theorem Step.sqT {K : PySem.W.Frag} {ρ ρ' : List Addr} {H H' : Hp} (s : Step ρ H ρ' H') {a : Addr} {xs : List V} (h : SqT K H a xs) : SqT K H' a xs := by
  rcases h with (h | ⟨o, h⟩) | h
  · exact .inl (.inl (s.keep _ _ h (.inr rfl)))
  · exact .inl (.inr ⟨o, s.keep _ _ h (.inr rfl)⟩)
  · exact .inr h
theorem Step.sqF {K : PySem.W.Frag} {ρ ρ' : List Addr} {H H' : Hp} (s : Step ρ H ρ' H') {a : Addr} {xs : List V} (h : SqF K H a xs) : SqF K H' a xs := by
  rcases h with ⟨o, h⟩ | h
  · exact .inl ⟨o, s.keep _ _ h (.inr rfl)⟩
  · exact .inr h
theorem Step.new {ρ : List Addr} {H : Hp} {p : Addr} {o : HO} (h : H p = none) : Step ρ H ρ (upd H p o) :=
  ⟨⟨[], by simp, by simp⟩, fun a u e _ => by rw [upd_ne (ne_of_none e h)]; exact e, fun a u e => ⟨u, by rw [upd_ne (ne_of_none e h)]; exact e⟩⟩
theorem Step.new1 {ρ : List Addr} {H : Hp} {p : Addr} {o : HO} (h : H p = none) : Step ρ H (ρ ++ [p]) (upd H p o) :=
  ⟨⟨[p], rfl, fun a ha => by rw [List.mem_singleton.mp ha]; exact h⟩, fun a u e _ => by rw [upd_ne (ne_of_none e h)]; exact e, fun a u e => ⟨u, by rw [upd_ne (ne_of_none e h)]; exact e⟩⟩
theorem Step.set {ρ : List Addr} {H : Hp} {i : Nat} {p : Addr} {o u : HO} (h : ρ[i]? = some p) (e : H p = some u) (n : still u = false) : Step ρ H ρ (upd H p o) := by
  refine ⟨⟨[], by simp, by simp⟩, fun a w q c => ?_, fun a w q => ?_⟩
  · rw [upd_ne ?_]
    · exact q
    · rintro rfl
      rcases c with c | c
      · exact c (List.mem_of_getElem? h)
      · rw [e] at q
        cases q
        rw [n] at c
        cases c
  · by_cases z : a = p
    · subst z
      exact ⟨_, upd_same⟩
    · exact ⟨w, by rw [upd_ne z]; exact q⟩
mutual
theorem VR.mono {K : PySem.W.Frag} {ρ ρ' : List Addr} {H H' : Hp} (s : Step ρ H ρ' H') : ∀ {d : D} {v : V}, VR K ρ H d v → VR K ρ' H' d v
  | _, _, .non => .non
  | _, _, .bl b => .bl b
  | _, _, .int i => .int i
  | _, _, .str l => .str l
  | _, _, .tup h1 h2 => .tup (s.sqT h1) (VRs.mono s h2)
  | _, _, .obj h => .obj (s.get h)
  | _, _, .fl h1 h2 => .fl (s.sqF h1) (VRs.mono s h2)
theorem VRs.mono {K : PySem.W.Frag} {ρ ρ' : List Addr} {H H' : Hp} (s : Step ρ H ρ' H') : ∀ {ds : List D} {vs : List V}, VRs K ρ H ds vs → VRs K ρ' H' ds vs
  | _, _, .nil => .nil
  | _, _, .cons h1 h2 => .cons (VR.mono s h1) (VRs.mono s h2)
end
section
variable {K : PySem.W.Frag} {ρ : List Addr} {H : Hp}
theorem VRs.length : ∀ {ds : List D} {vs : List V}, VRs K ρ H ds vs → ds.length = vs.length
  | _, _, .nil => rfl
  | _, _, .cons _ h => congrArg Nat.succ (VRs.length h)
theorem VRs.get : ∀ {ds : List D} {vs : List V} {i : Nat} {d : D}, VRs K ρ H ds vs → ds[i]? = some d → ∃ v, vs[i]? = some v ∧ VR K ρ H d v
  | _, _, _, _, .nil, e => by simp at e
  | _, _, 0, _, .cons r _, e => by simp at e; subst e; exact ⟨_, rfl, r⟩
  | _, _, i + 1, d, .cons _ t, e => by
    obtain ⟨v, h1, h2⟩ := VRs.get (i := i) (d := d) t (by simpa using e)
    exact ⟨v, by simpa using h1, h2⟩
theorem VRs.append : ∀ {ds es : List D} {vs ws : List V}, VRs K ρ H ds vs → VRs K ρ H es ws → VRs K ρ H (ds ++ es) (vs ++ ws)
  | _, _, _, _, .nil, s => s
  | _, _, _, _, .cons r t, s => .cons r (VRs.append t s)
theorem VRs.take : ∀ {ds : List D} {vs : List V} (n : Nat), VRs K ρ H ds vs → VRs K ρ H (ds.take n) (vs.take n)
  | _, _, 0, _ => .nil
  | _, _, _ + 1, .nil => .nil
  | _, _, n + 1, .cons r t => .cons r (VRs.take n t)
theorem VRs.drop : ∀ {ds : List D} {vs : List V} (n : Nat), VRs K ρ H ds vs → VRs K ρ H (ds.drop n) (vs.drop n)
  | _, _, 0, r => r
  | _, _, _ + 1, .nil => .nil
  | _, _, n + 1, .cons _ t => VRs.drop n t
theorem VRs.set : ∀ {ds : List D} {vs : List V} (i : Nat) {d : D} {v : V}, VRs K ρ H ds vs → VR K ρ H d v → VRs K ρ H (ds.set i d) (vs.set i v)
  | _, _, _, _, _, .nil, _ => .nil
  | _, _, 0, _, _, .cons _ t, r => .cons r t
  | _, _, i + 1, _, _, .cons q t, r => .cons q (VRs.set i t r)
theorem VRs.reverse : ∀ {ds : List D} {vs : List V}, VRs K ρ H ds vs → VRs K ρ H ds.reverse vs.reverse
  | _, _, .nil => .nil
  | _, _, .cons r t => by
    rw [List.reverse_cons, List.reverse_cons]
    exact (VRs.reverse t).append (.cons r .nil)
theorem VRs.dropLast {ds : List D} {vs : List V} (r : VRs K ρ H ds vs) : VRs K ρ H ds.dropLast vs.dropLast := by
  rw [List.dropLast_eq_take, List.dropLast_eq_take, r.length]
  exact r.take _
end
/-- a dict's pairs -/
def dkz (ks : List (List Nat)) (vs : List V) : List (Key × V) := (ks.map fun k => (.inr ⟨k.toArray⟩ : Key)).zip vs
/-- objects -/
inductive OR (S : Su) (ρ : List Addr) (H : Hp) : O → Addr → Prop
  | lst {ds : List D} {a : Addr} {vs : List V} : H a = some (.lst vs) → VRs S.K ρ H ds vs → OR S ρ H (.lst ds) a
  | ins {c : Nat} {fs : List D} {a dx : Addr} {vs : List V} : H a = some (.ins (S.ca c) dx ((S.cf c).zip vs)) → fs.length ≤ (S.cf c).length → VRs S.K ρ H fs vs → OR S ρ H (.ins c fs) a
  | dct {ks : List (List Nat)} {ds : List D} {a : Addr} {vs : List V} : H a = some (.dK (dkz ks vs)) → ks.length = ds.length → VRs S.K ρ H ds vs → OR S ρ H (.dct ks ds) a
structure HR (S : Su) (ρ : List Addr) (hd : Hd) (H : Hp) : Prop where
  len : ρ.length = hd.length
  nd : ρ.Nodup
  at_ : ∀ (i : Nat) (o : O) (a : Addr), hd[i]? = some o → ρ[i]? = some a → OR S ρ H o a
theorem HR.find {S : Su} {ρ : List Addr} {hd : Hd} {H : Hp} (h : HR S ρ hd H) {i : Nat} {o : O} (e : hd[i]? = some o) : ∃ a, ρ[i]? = some a ∧ OR S ρ H o a := by
  obtain ⟨hl, _⟩ := List.getElem?_eq_some_iff.mp e
  rw [← h.len] at hl
  exact ⟨ρ[i], List.getElem?_eq_getElem hl, h.at_ i o _ e (List.getElem?_eq_getElem hl)⟩
theorem HR.obj {S : Su} {ρ : List Addr} {hd : Hd} {H : Hp} (h : HR S ρ hd H) {i : Nat} {o : O} {v : V} (e : hd[i]? = some o) (r : VR S.K ρ H (.obj i) v) : ∃ a, v = .ref a ∧ ρ[i]? = some a ∧ OR S ρ H o a := by
  cases r with
  | obj q => exact ⟨_, rfl, q, h.at_ i o _ e q⟩
/-- a step that leaves the known objects -/
theorem OR.mono {S : Su} {ρ ρ' : List Addr} {H H' : Hp} {o : O} {a : Addr} (s : Step ρ H ρ' H') (k : ∀ u, H a = some u → H' a = some u) (h : OR S ρ H o a) : OR S ρ' H' o a := by
  cases h with
  | lst h1 h2 => exact .lst (k _ h1) (h2.mono s)
  | ins h1 h2 h3 => exact .ins (k _ h1) h2 (h3.mono s)
  | dct h1 h2 h3 => exact .dct (k _ h1) h2 (h3.mono s)
theorem OR.there {S : Su} {ρ : List Addr} {H : Hp} {o : O} {a : Addr} (h : OR S ρ H o a) : ∃ u, H a = some u ∧ still u = false := by
  cases h with
  | lst h1 h2 => exact ⟨_, h1, rfl⟩
  | ins h1 h2 h3 => exact ⟨_, h1, rfl⟩
  | dct h1 h2 h3 => exact ⟨_, h1, rfl⟩
theorem HR.tracked {S : Su} {ρ : List Addr} {hd : Hd} {H : Hp} (h : HR S ρ hd H) {i : Nat} {a : Addr} (e : ρ[i]? = some a) : ∃ u, H a = some u ∧ still u = false := by
  obtain ⟨hl, _⟩ := List.getElem?_eq_some_iff.mp e
  have hl' : i < hd.length := by rw [← h.len]; exact hl
  exact (h.at_ i _ a (List.getElem?_eq_getElem hl') e).there
/-- the heap grows elsewhere -/
theorem HR.new {S : Su} {ρ : List Addr} {hd : Hd} {H : Hp} {p : Addr} {o : HO} (h : HR S ρ hd H) (n : H p = none) : HR S ρ hd (upd H p o) :=
  ⟨h.len, h.nd, fun i ob a e1 e2 => (h.at_ i ob a e1 e2).mono (Step.new n) fun u q => by rw [upd_ne (ne_of_none q n)]; exact q⟩
theorem HR.notin {S : Su} {ρ : List Addr} {hd : Hd} {H : Hp} {p : Addr} (h : HR S ρ hd H) (n : H p = none) : p ∉ ρ := fun hm => by
  obtain ⟨i, e⟩ := List.mem_iff_getElem?.mp hm
  obtain ⟨u, q, _⟩ := h.tracked e
  rw [n] at q; cases q
/-- a new object -/
theorem HR.push {S : Su} {ρ : List Addr} {hd : Hd} {H : Hp} {p : Addr} {o : HO} {ob : O} (h : HR S ρ hd H) (n : H p = none) (q : OR S (ρ ++ [p]) (upd H p o) ob p) : HR S (ρ ++ [p]) (hd ++ [ob]) (upd H p o) := by
  refine ⟨by simp [h.len], ?_, fun i u a e1 e2 => ?_⟩
  · rw [List.nodup_append]
    refine ⟨h.nd, by simp, fun a ha b hb e => ?_⟩
    rw [List.mem_singleton.mp hb] at e
    rw [e] at ha
    exact h.notin n ha
  · by_cases hi : i < ρ.length
    · rw [List.getElem?_append_left hi] at e2
      rw [List.getElem?_append_left (by rw [← h.len]; exact hi)] at e1
      exact (h.at_ i u a e1 e2).mono (Step.new1 n) fun w z => by rw [upd_ne (ne_of_none z n)]; exact z
    · have hi' : ρ.length ≤ i := Nat.le_of_not_lt hi
      rw [List.getElem?_append_right hi'] at e2
      rw [List.getElem?_append_right (by rw [← h.len]; exact hi')] at e1
      rw [← h.len] at e1
      have z : i - ρ.length = 0 := by
        cases w : i - ρ.length with
        | zero => rfl
        | succ m => rw [w] at e2; simp at e2
      rw [z] at e1 e2
      simp at e1 e2
      subst e1 e2
      exact q
theorem HR.lst {S : Su} {ρ : List Addr} {hd : Hd} {H : Hp} {p : Addr} {ds : List D} {vs : List V} (h : HR S ρ hd H) (n : H p = none) (r : VRs S.K ρ H ds vs) : HR S (ρ ++ [p]) (hd ++ [.lst ds]) (upd H p (.lst vs)) :=
  h.push n (.lst upd_same (r.mono (Step.new1 n)))
/-- an object is changed -/
theorem HR.set {S : Su} {ρ : List Addr} {hd : Hd} {H : Hp} {i : Nat} {p : Addr} {o : HO} {ob : O} (h : HR S ρ hd H) (e : ρ[i]? = some p) (q : OR S ρ (upd H p o) ob p) : HR S ρ (hd.set i ob) (upd H p o) := by
  obtain ⟨u, hu, hs⟩ := h.tracked e
  refine ⟨by simp [h.len], h.nd, fun j w a e1 e2 => ?_⟩
  by_cases hj : j = i
  · subst hj
    rw [e] at e2
    cases e2
    have hl : j < hd.length := by
      rw [← h.len]
      exact (List.getElem?_eq_some_iff.mp e).1
    rw [List.getElem?_set_self hl] at e1
    cases e1
    exact q
  · rw [List.getElem?_set_ne (Ne.symm hj)] at e1
    have ha : a ≠ p := by
      rintro rfl
      obtain ⟨h1, e1'⟩ := List.getElem?_eq_some_iff.mp e
      obtain ⟨h2, e2'⟩ := List.getElem?_eq_some_iff.mp e2
      exact hj ((List.getElem_inj h.nd).mp (e2'.trans e1'.symm))
    exact (h.at_ j w a e1 e2).mono (Step.set e hu hs) fun w z => by rw [upd_ne ha]; exact z

/-! ### slots -/
structure SR (K : PySem.W.Frag) (ρ : List Addr) (H : Hp) (ds : Sl) (σ : St) : Prop where
  len : ds.length = σ.length
  at_ : ∀ (i : Nat) (d : D), ds[i]? = some (some d) → ∃ v, σ[i]? = some (some v) ∧ VR K ρ H d v
section
variable {K : PySem.W.Frag} {ρ ρ' : List Addr} {H H' : Hp} {ds : Sl} {σ : St}
theorem SR.mono (s : Step ρ H ρ' H') (h : SR K ρ H ds σ) : SR K ρ' H' ds σ := ⟨h.len, fun i d e => let ⟨v, a, b⟩ := h.at_ i d e; ⟨v, a, b.mono s⟩⟩
theorem SR.set {d : D} {v : V} (i : Nat) (h : SR K ρ H ds σ) (r : VR K ρ H d v) : SR K ρ H (ds.set i (some d)) (σ.set i (some v)) := by
  refine ⟨by simp [h.len], fun j e q => ?_⟩
  by_cases hj : i = j
  · subst hj
    by_cases hl : i < ds.length
    · rw [List.getElem?_set_self hl] at q
      cases q
      exact ⟨v, List.getElem?_set_self (by rw [← h.len]; exact hl), r⟩
    · rw [List.getElem?_eq_none (by simpa using hl)] at q; cases q
  · rw [List.getElem?_set_ne hj] at q
    obtain ⟨w, a, b⟩ := h.at_ j e q
    exact ⟨w, by rw [List.getElem?_set_ne hj]; exact a, b⟩
theorem SR.unset (i : Nat) (h : SR K ρ H ds σ) : SR K ρ H (ds.set i none) (σ.set i none) := by
  refine ⟨by simp [h.len], fun j e q => ?_⟩
  by_cases hj : i = j
  · subst hj
    by_cases hl : i < ds.length
    · rw [List.getElem?_set_self hl] at q
      cases q
    · rw [List.getElem?_eq_none (by simpa using hl)] at q; cases q
  · rw [List.getElem?_set_ne hj] at q
    obtain ⟨w, a, b⟩ := h.at_ j e q
    exact ⟨w, by rw [List.getElem?_set_ne hj]; exact a, b⟩
end

/-! ### ends -/
/-- an exception of class c with fields fs lies so: its own dict at dd -/
def ExR (S : Su) (ρ : List Addr) (H : Hp) (c : Nat) (fs : List D) (dd : Addr) : Prop := ∃ vs, H dd = some (.xd ((S.cf c).zip vs)) ∧ VRs S.K ρ H fs vs
/-- an expression's end -/
def Fin {α β : Type} (S : Su) (T : List Addr → Hp → α → β → Prop) (ρ : List Addr) (H : Hp) (W : XK) (r : R α) (Q : β → Hp → Prop) : Prop := match r with
  | .ok d h' => ∀ ρ' v H', Step ρ H ρ' H' → HR S ρ' h' H' → T ρ' H' d v → Q v H'
  | .exc c fs h' => ∀ ρ' dd H', Step ρ H ρ' H' → HR S ρ' h' H' → ExR S ρ' H' c fs dd → W (.ref (S.ca c)) (some dd) H'
  | .no => False
abbrev FinV (S : Su) := Fin S (VR S.K)
abbrev FinVs (S : Su) := Fin S (VRs S.K)
section
variable {α β γ δ : Type} {S : Su} {T : List Addr → Hp → α → β → Prop} {U : List Addr → Hp → γ → δ → Prop} {ρ ρ1 : List Addr} {H H1 : Hp} {W : XK} {r : R α} {Q : β → Hp → Prop}
theorem Fin.mono (s : Step ρ H ρ1 H1) (h : Fin S T ρ H W r Q) : Fin S T ρ1 H1 W r Q := by
  cases r with
  | ok d h' => exact fun ρ' v H' st => h ρ' v H' (s.trans st)
  | exc c fs h' => exact fun ρ' dd H' st => h ρ' dd H' (s.trans st)
  | no => exact h
theorem Fin.imp {Q' : β → Hp → Prop} (h : Fin S T ρ H W r Q) (k : ∀ v H', Q v H' → Q' v H') : Fin S T ρ H W r Q' := by
  cases r with
  | ok d h' => exact fun ρ' v H' a b c => k v H' (h ρ' v H' a b c)
  | exc c fs h' => exact h
  | no => exact h
/-- the bind: what stands behind the first part -/
theorem Fin.bind {k : α → Hd → R γ} {Q2 : δ → Hp → Prop} {Q : β → Hp → Prop} (h : Fin S U ρ H W (r.bind k) Q2)
    (hk : ∀ ρ' h' H' d v, Step ρ H ρ' H' → HR S ρ' h' H' → T ρ' H' d v → Fin S U ρ' H' W (k d h') Q2 → Q v H') : Fin S T ρ H W r Q := by
  cases r with
  | ok d h' => exact fun ρ' v H' st hr t => hk ρ' h' H' d v st hr t (Fin.mono st h)
  | exc c fs h' => exact h
  | no => exact h
end

/-! ### denotations -/
def dn (S : Su) (W : WX) (e : Ex) : TE := fun σ H Q => ∃ ρ ds hd, SR S.K ρ H ds σ ∧ HR S ρ hd H ∧ FinV S ρ H (fun c d H' => W c d σ H') (e ds hd) Q
abbrev Exs := Sl → Hd → R (List D)
def dnA (S : Su) (W : WX) (e : Exs) : TA := fun σ H Q => ∃ ρ ds hd, SR S.K ρ H ds σ ∧ HR S ρ hd H ∧ FinVs S ρ H (fun c d H' => W c d σ H') (e ds hd) Q
abbrev Ext := Sl → Hd → R Bool
abbrev TB : List Addr → Hp → Bool → Bool → Prop := fun _ _ a b => a = b
def dnT (S : Su) (W : WX) (e : Ext) : TT := fun σ H Q => ∃ ρ ds hd, SR S.K ρ H ds σ ∧ HR S ρ hd H ∧ Fin S TB ρ H (fun c d H' => W c d σ H') (e ds hd) Q
def FinS (S : Su) (W : WX) (ρ : List Addr) (H : Hp) (r : RS) (D : Ends) : Prop := match r with
  | .nx s h' => ∀ ρ' σ' H', Step ρ H ρ' H' → HR S ρ' h' H' → SR S.K ρ' H' s σ' → D.nx σ' H'
  | .rt d h' => ∀ ρ' v H', Step ρ H ρ' H' → HR S ρ' h' H' → VR S.K ρ' H' d v → D.rt v H'
  | .ct s h' => ∀ ρ' σ' H', Step ρ H ρ' H' → HR S ρ' h' H' → SR S.K ρ' H' s σ' → D.ct σ' H'
  | .bk s h' => ∀ ρ' σ' H', Step ρ H ρ' H' → HR S ρ' h' H' → SR S.K ρ' H' s σ' → D.bk σ' H'
  | .exc c fs s h' => ∀ ρ' σ' dd H', Step ρ H ρ' H' → HR S ρ' h' H' → SR S.K ρ' H' s σ' → ExR S ρ' H' c fs dd → W (.ref (S.ca c)) (some dd) σ' H'
  | .no => False
theorem FinS.mono {S : Su} {W : WX} {ρ ρ1 : List Addr} {H H1 : Hp} {r : RS} {D : Ends} (s : Step ρ H ρ1 H1) (h : FinS S W ρ H r D) : FinS S W ρ1 H1 r D := by
  cases r with
  | nx a b => exact fun ρ' σ' H' st => h ρ' σ' H' (s.trans st)
  | rt a b => exact fun ρ' σ' H' st => h ρ' σ' H' (s.trans st)
  | ct a b => exact fun ρ' σ' H' st => h ρ' σ' H' (s.trans st)
  | bk a b => exact fun ρ' σ' H' st => h ρ' σ' H' (s.trans st)
  | exc c fs a b => exact fun ρ' σ' dd H' st => h ρ' σ' dd H' (s.trans st)
  | no => exact h
def dnS (S : Su) (W : WX) (s : Sm) : TS := fun D σ H => ∃ ρ ds hd, SR S.K ρ H ds σ ∧ HR S ρ hd H ∧ FinS S W ρ H (s ds hd) D
theorem PE.mono' {X : Cx} {e : Expr} {t u : TE} (h : PE X e t) (k : ∀ σ H Q, u σ H Q → t σ H Q) : PE X e u := ⟨fun pins s σ H Q I q => h.run pins s σ H Q I (k σ H Q q)⟩
theorem PT.mono' {X : Cx} {e : Expr} {t u : TT} (h : PT X e t) (k : ∀ σ H Q, u σ H Q → t σ H Q) : PT X e u := ⟨fun pins s σ H Q I q => h.run pins s σ H Q I (k σ H Q q)⟩
theorem PW.mono' {X : Cx} {e : Expr} {t u : TT} (h : PW X e t) (k : ∀ σ H Q, u σ H Q → t σ H Q) : PW X e u := ⟨fun wh pins s σ H Q I q => h.run wh pins s σ H Q I (k σ H Q q)⟩
theorem PA.mono' {X : Cx} {e : List Expr} {t u : TA} (h : PA X e t) (k : ∀ σ H Q, u σ H Q → t σ H Q) : PA X e u := ⟨fun pos pins s σ H Q I q => h.run pos pins s σ H Q I (k σ H Q q)⟩
theorem PS.mono' {X : Cx} {e : Stmt} {t u : TS} (h : PS X e t) (k : ∀ D σ H, u D σ H → t D σ H) : PS X e u := ⟨fun pins s σ H D I q => h.run pins s σ H D I (k D σ H q)⟩
theorem PSs.mono' {X : Cx} {e : List Stmt} {t u : TS} (h : PSs X e t) (k : ∀ D σ H, u D σ H → t D σ H) : PSs X e u := ⟨fun pins s σ H D I q => h.run pins s σ H D I (k D σ H q)⟩
end Sh

end

section
set_option Elab.async false
set_option linter.all false
set_option maxRecDepth 100000
namespace Sh
open PySem L2
def M : Nat := 1000000
theorem M_line {n : Nat} (h : n ≤ M) : n ≤ sizeLine := by
  rw [sizeLine_eq]
  unfold M at h
  omega
theorem M_lt {n : Nat} (h : n < M) : n < sizeLine := by
  rw [sizeLine_eq]
  unfold M at h
  omega

/-! ### ends of operations -/
section
variable {S : Su} {ρ : List Addr} {hd : Hd} {H : Hp} {W : XK} {Q : VK}
theorem FinV.ok0 {d : D} {v : V} (f : FinV S ρ H W (.ok d hd) Q) (hr : HR S ρ hd H) (r : VR S.K ρ H d v) : Q v H := f ρ v H Step.refl hr r
theorem FinV.tup {ds : List D} {vs : List V} (f : FinV S ρ H W (.ok (.tup ds) hd) Q) (hr : HR S ρ hd H) (r : VRs S.K ρ H ds vs) : ∀ p, H p = none → Q (.ref p) (upd H p (.tup vs)) := fun p n =>
  f ρ _ _ (Step.new n) (hr.new n) (.tup (SqT.of upd_same) (r.mono (Step.new n)))
/-- a new list -/
def newL (ds : List D) (h : Hd) : R D := if ds.length ≤ M then .ok (.obj h.length) (h ++ [.lst ds]) else .no
theorem FinV.newL {ds : List D} {vs : List V} (f : FinV S ρ H W (newL ds hd) Q) (hr : HR S ρ hd H) (r : VRs S.K ρ H ds vs) : vs.length ≤ sizeLine ∧ ∀ p, H p = none → Q (.ref p) (upd H p (.lst vs)) := by
  unfold Sh.newL at f
  by_cases h : ds.length ≤ M
  · rw [if_pos h] at f
    refine ⟨by rw [← r.length]; exact M_line h, fun p n => f _ _ _ (Step.new1 n) (hr.lst n r) (.obj ?_)⟩
    rw [← hr.len]
    simp
  · rw [if_neg h] at f
    exact f.elim
/-- a list is changed -/
theorem FinV.setL {d : D} {v : V} {ds : List D} {vs ws : List V} {i : Nat} {a : Addr} (f : FinV S ρ H W (.ok d (hd.set i (.lst ds))) Q) (hr : HR S ρ hd H) (e : ρ[i]? = some a) (q : H a = some (.lst ws)) (r : VRs S.K ρ H ds vs) (rv : VR S.K ρ H d v) : Q v (upd H a (.lst vs)) := by
  have st : Step ρ H ρ (upd H a (.lst vs)) := Step.set e q rfl
  exact f ρ v _ st (hr.set e (.lst upd_same (r.mono st))) (rv.mono st)
end

/-! ### two-place operations -/
def OpS (S : Su) (r : R2) (op : D → D → Hd → R D) : Prop := ∀ (ρ : List Addr) (hd : Hd) (H : Hp) (W : XK) (x y : D) (vx vy : V) (Q : VK), HR S ρ hd H → VR S.K ρ H x vx → VR S.K ρ H y vy → FinV S ρ H W (op x y hd) Q → r vx vy H Q
def e2 (op : D → D → Hd → R D) (a b : Ex) : Ex := fun s h => (a s h).bind fun x h1 => (b s h1).bind fun y h2 => op x y h2
theorem dn_op {S : Su} {W : WX} {r : R2} {op : D → D → Hd → R D} {a b : Ex} (ho : OpS S r op) {σ : St} {H : Hp} {Q : VK} (h : dn S W (e2 op a b) σ H Q) : tOp r (dn S W a) (dn S W b) σ H Q := by
  obtain ⟨ρ, ds, hd, sr, hr, f⟩ := h
  refine ⟨ρ, ds, hd, sr, hr, f.bind fun ρ1 h1 H1 x vx st hr1 vr f1 => ?_⟩
  exact ⟨ρ1, ds, h1, sr.mono st, hr1, f1.bind fun ρ2 h2 H2 y vy st2 hr2 vr2 f2 => ho ρ2 h2 H2 _ x y vx vy Q hr2 (vr.mono st2) vr2 f2⟩
def e1 (op : D → Hd → R D) (a : Ex) : Ex := fun s h => (a s h).bind fun x h1 => op x h1
def UnS (S : Su) (r : V → Hp → VK → Prop) (op : D → Hd → R D) : Prop := ∀ (ρ : List Addr) (hd : Hd) (H : Hp) (W : XK) (x : D) (vx : V) (Q : VK), HR S ρ hd H → VR S.K ρ H x vx → FinV S ρ H W (op x hd) Q → r vx H Q
theorem dn_un {S : Su} {W : WX} {r : V → Hp → VK → Prop} {op : D → Hd → R D} {a : Ex} (ho : UnS S r op) {σ : St} {H : Hp} {Q : VK} (h : dn S W (e1 op a) σ H Q) : tUn r (dn S W a) σ H Q := by
  obtain ⟨ρ, ds, hd, sr, hr, f⟩ := h
  exact ⟨ρ, ds, hd, sr, hr, f.bind fun ρ1 h1 H1 x vx st hr1 vr f1 => ho ρ1 h1 H1 _ x vx Q hr1 vr f1⟩
section
variable {X : Cx} {S : Su} {W : WX} {a b : Expr} {ea eb : Ex} {pos : Pos} {op : D → D → Hd → R D} {r : R2}
theorem de_bin {bo : Operator} (ho : OpR X (binaryOp bo) r) (hs : OpS S r op) (ha : PE X a (dn S W ea)) (hb : PE X b (dn S W eb)) : PE X (.BinOp a bo b pos) (dn S W (e2 op ea eb)) :=
  PE.mono' (pe_op ho ha hb) fun _ _ _ h => dn_op hs h
theorem de_cmp {co : CmpOp} (ho : OpR X (compareOp co) r) (hs : OpS S r op) (ha : PE X a (dn S W ea)) (hb : PE X b (dn S W eb)) (hm : behindInMarks co b = false) : PE X (.Compare a [co] [b] pos) (dn S W (e2 op ea eb)) :=
  PE.mono' (pe_cmpR ho ha hb hm) fun _ _ _ h => dn_op hs h
theorem de_un {uo : UnaryOp} {r : V → Hp → VK → Prop} {op : D → Hd → R D} (ho : UnR X (unaryOp uo) r) (hs : UnS S r op) (ha : PE X a (dn S W ea)) : PE X (.UnaryOp uo a pos) (dn S W (e1 op ea)) :=
  PE.mono' (pe_un ho ha) fun _ _ _ h => dn_un hs h
end

/-! ### slots and constants -/
def eV (i : Nat) : Ex := fun s h => match s[i]? with
  | some (some d) => .ok d h
  | _ => .no
def eC (d : D) : Ex := fun _ h => .ok d h
theorem dn_var {S : Su} {W : WX} {i : Nat} {σ : St} {H : Hp} {Q : VK} (h : dn S W (eV i) σ H Q) : tVar i σ H Q := by
  obtain ⟨ρ, ds, hd, sr, hr, f⟩ := h
  unfold eV at f
  split at f
  · rename_i d e
    obtain ⟨v, h1, h2⟩ := sr.at_ i d e
    exact ⟨v, h1, f.ok0 hr h2⟩
  · exact f.elim
theorem dn_c {S : Su} {W : WX} {d : D} {v : V} {σ : St} {H : Hp} {Q : VK} (k : ∀ ρ H, VR S.K ρ H d v) (h : dn S W (eC d) σ H Q) : tC v σ H Q := by
  obtain ⟨ρ, ds, hd, sr, hr, f⟩ := h
  exact f.ok0 hr (k ρ H)
section
variable {X : Cx} {S : Su} {W : WX} {pos : Pos}
theorem de_var (i : Nat) {x : Str} (hN : X.N[i]? = some x := by rfl) (hv : Vis X.env.scope x := by first | exact Or.inl rfl | exact Or.inr (Or.inl rfl) | exact Or.inr (Or.inr rfl)) (hd : (x == ("__debug__" : Str)) = false := by decide)
    (hcd : (x == ("__classdict__" : Str)) = false := by decide) : PE X (.Name x pos) (dn S W (eV i)) := PE.mono' (pe_var hN hv hd hcd) fun _ _ _ h => dn_var h
theorem de_int {i : Int} {j} : PE X (.Constant (.int i) j pos) (dn S W (eC (.int i))) := PE.mono' pe_int fun _ _ _ h => dn_c (fun _ _ => .int i) h
theorem de_bl {b : Bool} {j} : PE X (.Constant (.bool b) j pos) (dn S W (eC (.bl b))) := PE.mono' pe_bl fun _ _ _ h => dn_c (fun _ _ => .bl b) h
theorem de_non {j} : PE X (.Constant .none j pos) (dn S W (eC .non)) := PE.mono' pe_non fun _ _ _ h => dn_c (fun _ _ => .non) h
theorem vr_str {K : PySem.W.Frag} {ρ : List Addr} {H : Hp} {x : Str} {l : List Nat} (e : x.cps.toList = l) : VR K ρ H (.str l) (.str x) := by
  subst e
  exact .str x.cps.toList
theorem de_str {x : Str} {j} (l : List Nat) (e : x.cps.toList = l := by decide +kernel) : PE X (.Constant (.str x) j pos) (dn S W (eC (.str l))) := PE.mono' pe_str fun _ _ _ h => dn_c (fun _ _ => vr_str e) h
/-- a module's constant -/
theorem de_glob {x : Str} {v : V} {u : Value} {d : D} (k : ∀ ρ H, VR S.K ρ H d v) (hm : X.mg x = some u) (r : RelV v u) (hg : Gl X x := by rfl) (hd : (x == ("__debug__" : Str)) = false := by decide) : PE X (.Name x pos) (dn S W (eC d)) :=
  PE.mono' (pe_glob hg hm r hd) fun _ _ _ h => dn_c k h
end

/-! ### + - * % // -/
theorem str_app (a b : List Nat) : ((⟨a.toArray⟩ : Str) ++ (⟨b.toArray⟩ : Str)) = ⟨(a ++ b).toArray⟩ := by
  show (⟨a.toArray ++ b.toArray⟩ : Str) = _
  simp
theorem str_len (a : List Nat) : (⟨a.toArray⟩ : Str).length = a.length := by
  show a.toArray.size = a.length
  simp
def oAdd (x y : D) (h : Hd) : R D := match x, y with
  | .int i, .int j => .ok (.int (i + j)) h
  | .str a, .str b => if a.length + b.length ≤ M then .ok (.str (a ++ b)) h else .no
  | .tup a, .tup b => if a.length + b.length ≤ M then .ok (.tup (a ++ b)) h else .no
  | .obj i, .obj j => match h[i]?, h[j]? with
    | some (.lst a), some (.lst b) => newL (a ++ b) h
    | _, _ => .no
  | _, _ => .no
def rAddG (K : PySem.W.Frag) : R2 := fun x y H Q => (rI0 (fun i j => .int (i + j)) x y H Q ∨ (∃ i j, x = .str i ∧ y = .str j ∧ i.length + j.length ≤ sizeLine ∧ Q (.str (i ++ j)) H)) ∨ (rCatA K x y H Q ∨ rCat x y H Q)
theorem op_addG {X : Cx} : OpR X (binaryOp .Add) (rAddG X.K) := (op_add.or op_add_str).or (op_catA.or op_cat)
theorem os_add {S : Su} : OpS S (rAddG S.K) oAdd := by
  intro ρ hd H W x y vx vy Q hr rx ry f
  unfold oAdd at f
  split at f
  · cases rx; cases ry
    exact .inl (.inl ⟨_, _, rfl, rfl, f.ok0 hr (.int _)⟩)
  · rename_i a b
    cases rx; cases ry
    split at f
    · rename_i hz
      refine .inl (.inr ⟨_, _, rfl, rfl, by rw [str_len, str_len]; exact M_line hz, ?_⟩)
      rw [str_app]
      exact f.ok0 hr (.str _)
    · exact f.elim
  · rename_i a b
    cases rx with
    | tup q1 q2 =>
      cases ry with
      | tup q3 q4 =>
        split at f
        · rename_i hz
          refine .inr (.inl ⟨_, _, _, _, rfl, rfl, q1, q3, by rw [← q2.length, ← q4.length]; exact M_line hz, fun e => ?_, fun _ e => ?_, fun _ _ => f.tup hr (q2.append q4)⟩)
          · subst e
            cases q2
            exact f.ok0 hr (.tup q3 q4)
          · subst e
            cases q4
            rw [List.append_nil] at f
            exact f.ok0 hr (.tup q1 q2)
        · exact f.elim
  · rename_i i j
    split at f
    · rename_i a b e1 e2
      obtain ⟨p, rfl, p1, o1⟩ := hr.obj e1 rx
      obtain ⟨q, rfl, p2, o2⟩ := hr.obj e2 ry
      cases o1 with
      | lst g1 r1 =>
        cases o2 with
        | lst g2 r2 =>
          obtain ⟨hz, k⟩ := f.newL hr (r1.append r2)
          rw [List.length_append] at hz
          exact .inr (.inr ⟨_, _, _, _, rfl, rfl, g1, g2, hz, k⟩)
    · exact f.elim
  · exact f.elim
def oSub (x y : D) (h : Hd) : R D := match x, y with
  | .int i, .int j => .ok (.int (i - j)) h
  | _, _ => .no
theorem os_sub {S : Su} : OpS S (rI0 fun i j => .int (i - j)) oSub := by
  intro ρ hd H W x y vx vy Q hr rx ry f
  unfold oSub at f
  split at f
  · cases rx; cases ry
    exact ⟨_, _, rfl, rfl, f.ok0 hr (.int _)⟩
  · exact f.elim
end Sh

end

section
set_option Elab.async false
set_option linter.all false
set_option maxRecDepth 100000
namespace Sh
open PySem L2

theorem fold_flat (l : List Nat) : ∀ (n : Nat) (acc : List Nat), (List.replicate n l.toArray).foldl (· ++ ·) acc.toArray = (acc ++ (List.replicate n l).flatten).toArray
  | 0, acc => by simp
  | n + 1, acc => by
    rw [List.replicate_succ, List.foldl_cons, List.replicate_succ, List.flatten_cons, ← List.append_assoc]
    have e : acc.toArray ++ l.toArray = (acc ++ l).toArray := by simp
    rw [e]
    exact fold_flat l n (acc ++ l)
def rMulS : R2 := fun x y H Q => ∃ (l : List Nat) (k : Int), x = .str ⟨l.toArray⟩ ∧ y = .int k ∧ 0 ≤ k ∧ k ≤ 1000 ∧ l.length ≤ 1000 ∧ Q (.str ⟨(List.replicate k.toNat l).flatten.toArray⟩) H
theorem op_mulS {X : Cx} : OpR X (binaryOp .Mult) rMulS := by
  intro pins s σ H x y v u Q I rx ry h
  obtain ⟨l, k, rfl, rfl, h0, h1, h2, q⟩ := h
  obtain ⟨t, rfl⟩ := rx
  obtain ⟨t', rfl⟩ := ry
  have hl : (⟨l.toArray⟩ : Str).length = l.length := str_len l
  by_cases hk : k < 1
  · have e : k.toNat = 0 := by omega
    rw [e] at q
    exact PySem.P.mul_str_none hk (by omega) ⟨.str _, H, I.tok _, ⟨_, rfl⟩, q⟩
  · have hp : l.length * k.toNat ≤ 1000 * 1000 := Nat.mul_le_mul h2 (by omega)
    refine PySem.P.mul_str (by rw [decide_eq_false (by omega), decide_eq_false (by omega)]; rfl) (fun _ _ => ?_) (fun _ _ => ?_) ?_
    · rw [hl]
      have : (1000 : Int) ≤ (2 ^ 63 - 1) / k := by
        rw [Int.le_ediv_iff_mul_le (by omega)]
        omega
      omega
    · rw [hl]
      simp only [Builtin.Str.tooLong]
      have := sizeLine_eq
      apply decide_eq_false
      first | omega | (simp; omega)
    · rw [if_neg hk]
      by_cases hb : (k == 1 || (⟨l.toArray⟩ : Str).length == 0) = true
      · rw [if_pos hb]
        refine ⟨.str ⟨l.toArray⟩, H, I, ⟨_, rfl⟩, ?_⟩
        have : (List.replicate k.toNat l).flatten = l := by
          rw [hl] at hb
          simp only [Bool.or_eq_true, beq_iff_eq] at hb
          rcases hb with hb | hb
          · have e : k.toNat = 1 := by omega
            rw [e]
            simp
          · have e : l = [] := List.length_eq_zero_iff.mp hb
            subst e
            simp
        rw [this] at q
        exact q
      · rw [if_neg hb]
        have e : (List.replicate k.toNat l.toArray).foldl (· ++ ·) #[] = (List.replicate k.toNat l).flatten.toArray := by
          have := fold_flat l k.toNat []
          simpa using this
        refine ⟨?_, ?_⟩
        · rw [e, str_len]
          have hz : (List.replicate k.toNat l).flatten.length = k.toNat * l.length := by simp
          rw [hz, Nat.mul_comm, sizeLine_eq]
          omega
        · rw [e]
          exact ⟨.str _, H, I.tok _, ⟨_, rfl⟩, q⟩

def rMulG (K : PySem.W.Frag) : R2 := fun x y H Q => (rI CMulW (fun i j => .int (i * j)) x y H Q ∨ rMulS x y H Q) ∨ rRepT K x y H Q
theorem op_mulG {X : Cx} : OpR X (binaryOp .Mult) (rMulG X.K) := (op_mulW.or op_mulS).or op_repT
def reps {α : Type} : Nat → List α → List α
  | 0, _ => []
  | n + 1, l => l ++ reps n l
theorem reps_eq {α : Type} (l : List α) : ∀ n, reps n l = (List.replicate n l).flatten
  | 0 => rfl
  | n + 1 => by rw [List.replicate_succ, List.flatten_cons, ← reps_eq l n]; rfl
def oMul (x y : D) (h : Hd) : R D := match x, y with
  | .int i, .int j => if i.natAbs.log2 + j.natAbs.log2 < 1000000 then .ok (.int (i * j)) h else .no
  | .str a, .int k => if 0 ≤ k ∧ k ≤ 1000 ∧ a.length ≤ 1000 then .ok (.str (reps k.toNat a)) h else .no
  | .tup a, .int k => if 2 ≤ k ∧ k ≤ 1000 ∧ a.length ≤ 1000 ∧ a.isEmpty = false then .ok (.tup (reps k.toNat a)) h else .no
  | _, _ => .no
theorem VRs.reps {K : PySem.W.Frag} {ρ : List Addr} {H : Hp} {ds : List D} {vs : List V} (r : VRs K ρ H ds vs) : ∀ n, VRs K ρ H (reps n ds) (List.replicate n vs).flatten
  | 0 => .nil
  | n + 1 => by
    rw [List.replicate_succ, List.flatten_cons]
    exact r.append (VRs.reps r n)
theorem os_mul {S : Su} : OpS S (rMulG S.K) oMul := by
  intro ρ hd H W x y vx vy Q hr rx ry f
  unfold oMul at f
  split at f
  · cases rx; cases ry
    split at f
    · rename_i hz
      exact .inl (.inl ⟨_, _, rfl, rfl, hz, f.ok0 hr (.int _)⟩)
    · exact f.elim
  · rename_i a k
    cases rx; cases ry
    split at f
    · rename_i hz
      refine .inl (.inr ⟨a, k, rfl, rfl, hz.1, hz.2.1, hz.2.2, ?_⟩)
      rw [← reps_eq]
      exact f.ok0 hr (.str _)
    · exact f.elim
  · rename_i a k
    cases rx with
    | tup q1 q2 =>
      cases ry
      split at f
      · rename_i hz
        refine .inr ⟨_, _, _, rfl, rfl, q1, ?_, hz.1, hz.2.1, by rw [← q2.length]; exact hz.2.2.1, f.tup hr (q2.reps k.toNat)⟩
        intro e
        subst e
        cases q2
        simp at hz
      · exact f.elim
  · exact f.elim
def oMod (x y : D) (h : Hd) : R D := match x, y with
  | .int i, .int j => if 0 < j then .ok (.int (i % j)) h else .no
  | _, _ => .no
theorem os_mod {S : Su} : OpS S (rI (fun _ j => 0 < j) fun i j => .int (i % j)) oMod := by
  intro ρ hd H W x y vx vy Q hr rx ry f
  unfold oMod at f
  split at f
  · cases rx; cases ry
    split at f
    · rename_i hz
      exact ⟨_, _, rfl, rfl, hz, f.ok0 hr (.int _)⟩
    · exact f.elim
  · exact f.elim
def oDiv (x y : D) (h : Hd) : R D := match x, y with
  | .int i, .int j => if 0 < j ∧ j.natAbs.log2 < 9000 then .ok (.int (i / j)) h else .no
  | _, _ => .no
theorem os_div {S : Su} : OpS S (rI CDivW fun i j => .int (i / j)) oDiv := by
  intro ρ hd H W x y vx vy Q hr rx ry f
  unfold oDiv at f
  split at f
  · cases rx; cases ry
    split at f
    · rename_i hz
      exact ⟨_, _, rfl, rfl, hz, f.ok0 hr (.int _)⟩
    · exact f.elim
  · exact f.elim
def oPow (x y : D) (h : Hd) : R D := match x, y with
  | .int i, .int j => if 0 ≤ j ∧ j ≤ 1000000 ∧ i.natAbs < 2 ^ 64 then .ok (.int (i ^ j.toNat)) h else .no
  | _, _ => .no
theorem os_pow {S : Su} : OpS S (rI CPow fun i j => .int (i ^ j.toNat)) oPow := by
  intro ρ hd H W x y vx vy Q hr rx ry f
  unfold oPow at f
  split at f
  · cases rx; cases ry
    split at f
    · rename_i hz
      exact ⟨_, _, rfl, rfl, hz, f.ok0 hr (.int _)⟩
    · exact f.elim
  · exact f.elim
def oNeg (x : D) (h : Hd) : R D := match x with
  | .int i => .ok (.int (-i)) h
  | _ => .no
theorem us_neg {S : Su} : UnS S (rU fun i => .int (-i)) oNeg := by
  intro ρ hd H W x vx Q hr rx f
  unfold oNeg at f
  split at f
  · cases rx
    exact ⟨_, rfl, f.ok0 hr (.int _)⟩
  · exact f.elim

/-! ### comparisons of ints, is -/
def oCmp (p : Int → Int → Bool) (x y : D) (h : Hd) : R D := match x, y with
  | .int i, .int j => .ok (.bl (p i j)) h
  | _, _ => .no
theorem os_cmp {S : Su} {p : Int → Int → Bool} : OpS S (rI0 fun i j => .bl (p i j)) (oCmp p) := by
  intro ρ hd H W x y vx vy Q hr rx ry f
  unfold oCmp at f
  split at f
  · cases rx; cases ry
    exact ⟨_, _, rfl, rfl, f.ok0 hr (.bl _)⟩
  · exact f.elim
abbrev oLt := oCmp fun i j => decide (i < j)
abbrev oLe := oCmp fun i j => decide (i ≤ j)
abbrev oGt := oCmp fun i j => decide (j < i)
abbrev oGe := oCmp fun i j => decide (j ≤ i)
def D.isNon : D → Bool
  | .non => true
  | _ => false
def oIsN (x : D) (h : Hd) : R D := .ok (.bl x.isNon) h
def oNotN (x : D) (h : Hd) : R D := .ok (.bl (!x.isNon)) h
theorem isNon_eq {K : PySem.W.Frag} {ρ : List Addr} {H : Hp} {x : D} {v : V} (r : VR K ρ H x v) : decide (v = .non) = x.isNon := by
  cases r <;> simp [D.isNon]
/-- e is None -/
theorem de_isN {X : Cx} {S : Su} {W : WX} {a : Expr} {ea : Ex} {j} {pos p2 : Pos} (ha : PE X a (dn S W ea)) : PE X (.Compare a [.Is] [.Constant .none j p2] pos) (dn S W (e1 oIsN ea)) := by
  refine PE.mono' (pe_cmpR op_isN ha pe_non (nomark _)) fun σ H Q h => ?_
  obtain ⟨ρ, ds, hd, sr, hr, f⟩ := h
  refine ⟨ρ, ds, hd, sr, hr, f.bind fun ρ1 h1 H1 x vx st hr1 vr f1 => ⟨rfl, ?_⟩⟩
  rw [isNon_eq vr]
  exact FinV.ok0 f1 hr1 (.bl _)
theorem de_notN {X : Cx} {S : Su} {W : WX} {a : Expr} {ea : Ex} {j} {pos p2 : Pos} (ha : PE X a (dn S W ea)) : PE X (.Compare a [.IsNot] [.Constant .none j p2] pos) (dn S W (e1 oNotN ea)) := by
  refine PE.mono' (pe_cmpR op_notN ha pe_non (nomark _)) fun σ H Q h => ?_
  obtain ⟨ρ, ds, hd, sr, hr, f⟩ := h
  refine ⟨ρ, ds, hd, sr, hr, f.bind fun ρ1 h1 H1 x vx st hr1 vr f1 => ⟨rfl, ?_⟩⟩
  rw [isNon_eq vr]
  exact FinV.ok0 f1 hr1 (.bl _)
def oIsB (neg : Bool) (x y : D) (h : Hd) : R D := match x, y with
  | .bl a, .bl b => .ok (.bl (if neg then !decide (a = b) else decide (a = b))) h
  | _, _ => .no
theorem os_isB {S : Su} : OpS S rIsB (oIsB false) := by
  intro ρ hd H W x y vx vy Q hr rx ry f
  unfold oIsB at f
  split at f
  · cases rx; cases ry
    exact ⟨_, _, rfl, rfl, f.ok0 hr (.bl _)⟩
  · exact f.elim
theorem os_notB {S : Su} : OpS S rNotB (oIsB true) := by
  intro ρ hd H W x y vx vy Q hr rx ry f
  unfold oIsB at f
  split at f
  · cases rx; cases ry
    exact ⟨_, _, rfl, rfl, f.ok0 hr (.bl _)⟩
  · exact f.elim

/-! ### == and != -/
mutual
def D.pure : D → Bool
  | .obj _ => false
  | .fl _ => false
  | .tup xs => D.pures xs
  | _ => true
def D.pures : List D → Bool
  | [] => true
  | x :: xs => x.pure && D.pures xs
end
mutual
def D.toP : D → PyData
  | .non => .none
  | .bl b => .bool b
  | .int i => .int i
  | .str l => .str ⟨l.toArray⟩
  | .tup xs => .tuple (D.toPs xs)
  | .obj _ => .none
  | .fl _ => .none
def D.toPs : List D → List PyData
  | [] => []
  | x :: xs => x.toP :: D.toPs xs
end
mutual
theorem dp_of {K : PySem.W.Frag} {ρ : List Addr} {H : Hp} : ∀ {d : D} {v : V}, VR K ρ H d v → d.pure = true → Dp K H v d.toP
  | _, _, .non, _ => .non
  | _, _, .bl b, _ => .bl b
  | _, _, .int i, _ => .int i
  | _, _, .str l, _ => .str _
  | _, _, .tup h1 h2, p => .tup h1 (dps_of h2 p)
  | _, _, .obj h, p => nomatch p
  | _, _, .fl _ _, p => nomatch p
theorem dps_of {K : PySem.W.Frag} {ρ : List Addr} {H : Hp} : ∀ {ds : List D} {vs : List V}, VRs K ρ H ds vs → D.pures ds = true → DpAll K H vs (D.toPs ds)
  | _, _, .nil, _ => .nil
  | _, _, .cons h1 h2, p => .cons (dp_of h1 (Bool.and_eq_true_iff.mp p).1) (dps_of h2 (Bool.and_eq_true_iff.mp p).2)
end
/-- two lists, one of them empty -/
def rLE (K : PySem.W.Frag) (neg : Bool) : R2 := fun x y H Q => ∃ p q xs ys, x = .ref p ∧ y = .ref q ∧ SqL K H p xs ∧ SqL K H q ys ∧ (xs = [] ∨ ys = []) ∧ Q (.bl (if neg then !decide (xs.length = ys.length) else decide (xs.length = ys.length))) H
theorem op_eqLE {X : Cx} (hu : X.A.units + 64 < cLine) : OpR X (compareOp .Eq) (rLE X.K false) := by
  intro pins s σ H x y v u Q I rx ry h
  obtain ⟨p, q, xs, ys, rfl, rfl, h1, h2, he, k⟩ := h
  cases rx
  cases ry
  obtain ⟨its, r1, p1, _⟩ := I.list h1
  obtain ⟨its2, r2, p2, _⟩ := I.list h2
  have l1 := r1.length
  have l2 := r2.length
  by_cases hz : xs.length = ys.length
  · rw [decide_eq_true hz] at k
    have hx : its = [] := by
      rcases he with e | e
      · subst e; cases r1; rfl
      · subst e
        have : xs = [] := List.length_eq_zero_iff.mp hz
        subst this; cases r1; rfl
    subst hx
    have n0 : ([] : List Value).length = 0 := rfl
    have := PySem.SeqAt.RcAt.lists (A := X.A) (e := fun _ => true) p1.isList p2.isList (by rw [List.size_toArray, List.size_toArray]; omega) (by omega) (fun j j1 => absurd j1 (by simp))
    exact this X.prog X.w X.xe _ ⟨.bl _, H, I, rfl, by simpa using k⟩
  · rw [decide_eq_false hz] at k
    exact PySem.SeqAt.RcAt.lists_lengths (A := X.A) p1.isList p2.isList (by simp; omega) (by omega) X.prog X.w X.xe _ ⟨.bl _, H, I, rfl, k⟩
theorem op_neLE {X : Cx} (hu : X.A.units + 64 < cLine) : OpR X (compareOp .NotEq) (rLE X.K true) := by
  intro pins s σ H x y v u Q I rx ry h
  obtain ⟨p, q, xs, ys, rfl, rfl, h1, h2, he, k⟩ := h
  cases rx
  cases ry
  obtain ⟨its, r1, p1, _⟩ := I.list h1
  obtain ⟨its2, r2, p2, _⟩ := I.list h2
  have l1 := r1.length
  have l2 := r2.length
  by_cases hz : xs.length = ys.length
  · rw [decide_eq_true hz] at k
    have hx : its = [] := by
      rcases he with e | e
      · subst e; cases r1; rfl
      · subst e
        have : xs = [] := List.length_eq_zero_iff.mp hz
        subst this; cases r1; rfl
    subst hx
    have n0 : ([] : List Value).length = 0 := rfl
    have := PySem.SeqAt.RcNeAt.lists (A := X.A) (e := fun _ => true) p1.isList p2.isList (by rw [List.size_toArray, List.size_toArray]; omega) (by omega) (fun j j1 => absurd j1 (by simp))
    exact this X.prog X.w X.xe _ ⟨.bl _, H, I, rfl, by simpa using k⟩
  · rw [decide_eq_false hz] at k
    exact PySem.SeqAt.RcNeAt.lists_lengths (A := X.A) p1.isList p2.isList (by simp; omega) (by omega) X.prog X.w X.xe _ ⟨.bl _, H, I, rfl, by simpa using k⟩
/-- scalars that == tells apart as data does -/
def scalD : D → D → Option Bool
  | .non, .non => some true
  | .non, .int _ => some false
  | .int _, .non => some false
  | .non, .bl _ => some false
  | .bl _, .non => some false
  | .non, .str _ => some false
  | .str _, .non => some false
  | .int a, .int b => some (a == b)
  | .bl a, .bl b => some (a == b)
  | .str a, .str b => some (a == b)
  | .int _, .str _ => some false
  | .str _, .int _ => some false
  | .bl _, .str _ => some false
  | .str _, .bl _ => some false
  | _, _ => none
theorem scal_of {K : PySem.W.Frag} {ρ : List Addr} {H : Hp} {x y : D} {vx vy : V} {b : Bool} (rx : VR K ρ H x vx) (ry : VR K ρ H y vy) (h : scalD x y = some b) : scal vx vy = true ∧ decide (vx = vy) = b := by
  cases rx <;> cases ry <;> first
    | (injection h with h; subst h; refine ⟨rfl, ?_⟩; first | (simp; done) | (simp [Bool.beq_eq_decide_eq]; done))
    | cases h
def lsts (x : D) (h : Hd) : Option (List D) := match x with
  | .obj i => match h[i]? with
    | some (.lst a) => some a
    | _ => none
  | _ => none
def pdat (x : D) (h : Hd) : Option PyData := match lsts x h with
  | some ds => if D.pures ds then some (.list (D.toPs ds)) else none
  | none => if x.pure then some x.toP else none
theorem lsts_of {S : Su} {ρ : List Addr} {hd : Hd} {H : Hp} {x : D} {v : V} {ds : List D} (hr : HR S ρ hd H) (r : VR S.K ρ H x v) (h : lsts x hd = some ds) : ∃ (i : Nat) (a : Addr) (vs : List V), x = .obj i ∧ v = .ref a ∧ ρ[i]? = some a ∧ H a = some (.lst vs) ∧ VRs S.K ρ H ds vs ∧ hd[i]? = some (.lst ds) := by
  unfold lsts at h
  split at h
  · split at h
    · rename_i i a e
      cases h
      obtain ⟨p, rfl, p1, o1⟩ := hr.obj e r
      cases o1 with
      | lst g1 r1 => exact ⟨_, _, _, rfl, rfl, p1, g1, r1, e⟩
    · cases h
  · cases h
theorem pdat_of {S : Su} {ρ : List Addr} {hd : Hd} {H : Hp} {x : D} {v : V} {p : PyData} (hr : HR S ρ hd H) (r : VR S.K ρ H x v) (h : pdat x hd = some p) : Dp S.K H v p := by
  unfold pdat at h
  split at h
  · rename_i ds e
    split at h
    · rename_i hp
      cases h
      obtain ⟨i, a, vs, rfl, rfl, _, g, rs, _⟩ := lsts_of hr r e
      exact .lst (SqL.of g) (dps_of rs hp)
    · cases h
  · split at h
    · rename_i hp
      cases h
      exact dp_of r hp
    · cases h
def isNil {α : Type} : List α → Bool
  | [] => true
  | _ => false
def eqB (x y : D) (h : Hd) : Option Bool := match scalD x y with
  | some b => some b
  | none => match lsts x h, lsts y h with
    | some xs, some ys => if isNil xs || isNil ys then some (isNil xs && isNil ys) else (match pdat x h, pdat y h with
      | some a, some b => if SeqAt.shaped a && SeqAt.shaped b then some (PyData.eqv a b) else none
      | _, _ => none)
    | _, _ => match pdat x h, pdat y h with
      | some a, some b => if SeqAt.shaped a && SeqAt.shaped b then some (PyData.eqv a b) else none
      | _, _ => none
def oEq (neg : Bool) (x y : D) (h : Hd) : R D := match eqB x y h with
  | some b => .ok (.bl (if neg then !b else b)) h
  | none => .no
def rEqG (K : PySem.W.Frag) : R2 := fun x y H Q => (rEq x y H Q ∨ rEqD K x y H Q) ∨ rLE K false x y H Q
def rNeG (K : PySem.W.Frag) : R2 := fun x y H Q => (rNe x y H Q ∨ rNeD K x y H Q) ∨ rLE K true x y H Q
theorem op_eqG {X : Cx} (hu : X.A.units + 64 < cLine) : OpR X (compareOp .Eq) (rEqG X.K) := (op_eq.or (op_eqD hu)).or (op_eqLE hu)
theorem op_neG {X : Cx} (hu : X.A.units + 64 < cLine) : OpR X (compareOp .NotEq) (rNeG X.K) := (op_ne.or (op_neD hu)).or (op_neLE hu)
theorem eqB_cases {S : Su} {ρ : List Addr} {hd : Hd} {H : Hp} {x y : D} {vx vy : V} {b : Bool} (hr : HR S ρ hd H) (rx : VR S.K ρ H x vx) (ry : VR S.K ρ H y vy) (h : eqB x y hd = some b) :
    (scal vx vy = true ∧ decide (vx = vy) = b) ∨ (∃ d e, Dp S.K H vx d ∧ Dp S.K H vy e ∧ SeqAt.shaped d = true ∧ SeqAt.shaped e = true ∧ PyData.eqv d e = b) ∨
      ∃ p q xs ys, vx = .ref p ∧ vy = .ref q ∧ SqL S.K H p xs ∧ SqL S.K H q ys ∧ (xs = [] ∨ ys = []) ∧ decide (xs.length = ys.length) = b := by
  have dat : (match pdat x hd, pdat y hd with
      | some a, some b => if SeqAt.shaped a && SeqAt.shaped b then some (PyData.eqv a b) else none
      | _, _ => none) = some b → ∃ d e, Dp S.K H vx d ∧ Dp S.K H vy e ∧ SeqAt.shaped d = true ∧ SeqAt.shaped e = true ∧ PyData.eqv d e = b := fun q => by
    split at q
    · rename_i a c e1 e2
      split at q
      · rename_i hs
        cases q
        obtain ⟨s1, s2⟩ := Bool.and_eq_true_iff.mp hs
        exact ⟨a, c, pdat_of hr rx e1, pdat_of hr ry e2, s1, s2, rfl⟩
      · cases q
    · cases q
  unfold eqB at h
  split at h
  · rename_i c e
    cases h
    exact .inl (scal_of rx ry e)
  · split at h
    · rename_i xs ys e1 e2
      split at h
      · rename_i hn
        cases h
        obtain ⟨i, a, vs, rfl, rfl, _, g1, r1, _⟩ := lsts_of hr rx e1
        obtain ⟨j, c, ws, rfl, rfl, _, g2, r2, _⟩ := lsts_of hr ry e2
        refine .inr (.inr ⟨_, _, _, _, rfl, rfl, SqL.of g1, SqL.of g2, ?_, ?_⟩)
        · cases r1 with
          | nil => exact .inl rfl
          | cons _ _ =>
            cases r2 with
            | nil => exact .inr rfl
            | cons _ _ => exact absurd hn (by simp [isNil])
        · cases r1 <;> cases r2 <;> first | rfl | (simp [isNil]; done) | exact absurd hn (by simp [isNil])
      · exact .inr (.inl (dat h))
    · exact .inr (.inl (dat h))
theorem os_eq {S : Su} : OpS S (rEqG S.K) (oEq false) := by
  intro ρ hd H W x y vx vy Q hr rx ry f
  unfold oEq at f
  split at f
  · rename_i b e
    have q : Q (.bl b) H := f.ok0 hr (.bl _)
    rcases eqB_cases hr rx ry e with ⟨h1, h2⟩ | ⟨d, e, h1, h2, h3, h4, h5⟩ | ⟨p, p2, xs, ys, h1, h2, h3, h4, h5, h6⟩
    · exact .inl (.inl ⟨h1, by rw [h2]; exact q⟩)
    · exact .inl (.inr ⟨d, e, h1, h2, h3, h4, by rw [h5]; exact q⟩)
    · exact .inr ⟨p, p2, xs, ys, h1, h2, h3, h4, h5, by rw [h6]; exact q⟩
  · exact f.elim
theorem os_ne {S : Su} : OpS S (rNeG S.K) (oEq true) := by
  intro ρ hd H W x y vx vy Q hr rx ry f
  unfold oEq at f
  split at f
  · rename_i b e
    have q : Q (.bl (!b)) H := f.ok0 hr (.bl _)
    rcases eqB_cases hr rx ry e with ⟨h1, h2⟩ | ⟨d, e, h1, h2, h3, h4, h5⟩ | ⟨p, p2, xs, ys, h1, h2, h3, h4, h5, h6⟩
    · exact .inl (.inl ⟨h1, by rw [h2]; exact q⟩)
    · exact .inl (.inr ⟨d, e, h1, h2, h3, h4, by rw [h5]; exact q⟩)
    · exact .inr ⟨p, p2, xs, ys, h1, h2, h3, h4, h5, by rw [h6]; exact q⟩
  · exact f.elim
end Sh

end

section
set_option Elab.async false
set_option linter.all false
set_option maxRecDepth 100000
namespace Sh
open PySem L2

/-! ### in, not in -/
def D.flat : D → Bool
  | .non => true
  | .bl _ => true
  | .int _ => true
  | .str _ => true
  | _ => false
def eqF : D → D → Bool
  | .non, .non => true
  | .bl a, .bl b => a == b
  | .bl a, .int b => (if a then 1 else 0) == b
  | .int a, .bl b => a == (if b then 1 else 0)
  | .int a, .int b => a == b
  | .str a, .str b => a == b
  | _, _ => false
theorem flat_of {K : PySem.W.Frag} {ρ : List Addr} {H : Hp} {x : D} {v : V} (r : VR K ρ H x v) : flatV v = x.flat := by
  cases r <;> rfl
theorem eqF_of {K : PySem.W.Frag} {ρ : List Addr} {H : Hp} {x y : D} {vx vy : V} (rx : VR K ρ H x vx) (ry : VR K ρ H y vy) : eqV vx vy = eqF x y := by
  cases rx <;> cases ry <;> first
    | rfl
    | (simp only [eqV, eqF]; rw [Bool.eq_iff_iff]; simp; done)
theorem allflat_of {K : PySem.W.Frag} {ρ : List Addr} {H : Hp} : ∀ {ds : List D} {vs : List V}, VRs K ρ H ds vs → vs.all flatV = ds.all D.flat
  | _, _, .nil => rfl
  | _, _, .cons h1 h2 => by rw [List.all_cons, List.all_cons, flat_of h1, allflat_of h2]
theorem inV_of {K : PySem.W.Frag} {ρ : List Addr} {H : Hp} {x : D} {vx : V} (rx : VR K ρ H x vx) : ∀ {ds : List D} {vs : List V}, VRs K ρ H ds vs → inV vx vs = ds.any fun y => eqF y x
  | _, _, .nil => rfl
  | _, _, .cons h1 h2 => by
    have ih := inV_of rx h2
    unfold inV at ih ⊢
    rw [List.any_cons, List.any_cons, eqF_of h1 rx, ih]
def inS (a b : List Nat) : Bool := match a with
  | [c] => decide (c ∈ b)
  | _ => !(Builtin.Str.occurrences ⟨b.toArray⟩ ⟨a.toArray⟩ 0 b.length 1).isEmpty
def oIn (neg : Bool) (x y : D) (h : Hd) : R D := match y with
  | .str b => match x with
    | .str a => .ok (.bl (if neg then !inS a b else inS a b)) h
    | _ => .no
  | .tup ys => if x.flat && ys.all D.flat then .ok (.bl (if neg then !(ys.any fun y => eqF y x) else ys.any fun y => eqF y x)) h else .no
  | y => match lsts y h with
    | some ys => if x.flat && ys.all D.flat then .ok (.bl (if neg then !(ys.any fun y => eqF y x) else ys.any fun y => eqF y x)) h else .no
    | none => .no
def rInStr (neg : Bool) : R2 := fun x y H Q => ∃ a b : List Nat, x = .str ⟨a.toArray⟩ ∧ y = .str ⟨b.toArray⟩ ∧ Q (.bl (if neg then !inS a b else inS a b)) H
theorem found_eq (a b : List Nat) : (!(Builtin.Str.occurrences ⟨b.toArray⟩ ⟨a.toArray⟩ 0 (⟨b.toArray⟩ : Str).length 1).isEmpty) = inS a b := by
  rw [str_len]
  unfold inS
  split
  · rename_i c
    have h := PySem.StrLaws.found_one (⟨b.toArray⟩ : Str) c
    rw [str_len] at h
    exact h
  · rfl
theorem op_inStr {X : Cx} : OpR X (compareOp .In) (rInStr false) := by
  intro pins s σ H x y v u Q I rx ry h
  obtain ⟨a, b, rfl, rfl, q⟩ := h
  refine op_in_str pins s σ H _ _ v u Q I rx ry ⟨_, _, rfl, rfl, ?_⟩
  rw [found_eq]
  exact q
theorem op_notInStr {X : Cx} : OpR X (compareOp .NotIn) (rInStr true) := by
  intro pins s σ H x y v u Q I rx ry h
  obtain ⟨a, b, rfl, rfl, q⟩ := h
  refine op_notin_str pins s σ H _ _ v u Q I rx ry ⟨_, _, rfl, rfl, ?_⟩
  rw [found_eq]
  exact q
def rInG (K : PySem.W.Frag) (neg : Bool) : R2 := fun x y H Q => rInStr neg x y H Q ∨ rIn K neg x y H Q
theorem op_inG {X : Cx} : OpR X (compareOp .In) (rInG X.K false) := op_inStr.or op_in_seq
theorem op_notInG {X : Cx} : OpR X (compareOp .NotIn) (rInG X.K true) := op_notInStr.or op_notIn_seq
theorem os_in {S : Su} (neg : Bool) : OpS S (rInG S.K neg) (oIn neg) := by
  intro ρ hd H W x y vx vy Q hr rx ry f
  unfold oIn at f
  split at f
  · split at f
    · cases rx; cases ry
      exact .inl ⟨_, _, rfl, rfl, f.ok0 hr (.bl _)⟩
    · exact f.elim
  · cases ry with
    | tup q1 q2 =>
      split at f
      · rename_i hz
        obtain ⟨z1, z2⟩ := Bool.and_eq_true_iff.mp hz
        refine .inr ⟨_, _, rfl, .inr q1, by rw [flat_of rx]; exact z1, by rw [allflat_of q2]; exact z2, ?_⟩
        rw [inV_of rx q2]
        exact f.ok0 hr (.bl _)
      · exact f.elim
  · split at f
    · rename_i ys e
      split at f
      · rename_i hz
        obtain ⟨z1, z2⟩ := Bool.and_eq_true_iff.mp hz
        obtain ⟨i, a, vs, rfl, rfl, _, g, rs, _⟩ := lsts_of hr ry e
        refine .inr ⟨_, _, rfl, .inl (SqL.of g), by rw [flat_of rx]; exact z1, by rw [allflat_of rs]; exact z2, ?_⟩
        rw [inV_of rx rs]
        exact f.ok0 hr (.bl _)
      · exact f.elim
    · exact f.elim

/-! ### indexes, slices -/
theorem atI_of {K : PySem.W.Frag} {ρ : List Addr} {H : Hp} {ds : List D} {vs : List V} {i : Int} {d : D} (r : VRs K ρ H ds vs) (h : atI ds i = some d) : ∃ v, atI vs i = some v ∧ VR K ρ H d v := by
  unfold atI at h ⊢
  rw [← r.length]
  cases e : ixN ds.length i with
  | none => rw [e] at h; cases h
  | some j =>
    rw [e] at h
    exact r.get h
def oIx (x y : D) (h : Hd) : R D := match y with
  | .int i => match x with
    | .str l => if l.length ≤ M then (match atI l i with
      | some c => .ok (.str [c]) h
      | none => .no) else .no
    | .tup xs => match atI xs i with
      | some d => .ok d h
      | none => .no
    | .fl xs => match atI xs i with
      | some d => .ok d h
      | none => .no
    | x => match lsts x h with
      | some xs => (match atI xs i with
        | some d => .ok d h
        | none => .no)
      | none => .no
  | _ => .no
theorem os_ix {S : Su} : OpS S (rIx S.K) oIx := by
  intro ρ hd H W x y vx vy Q hr rx ry f
  unfold oIx at f
  split at f
  · cases ry
    split at f
    · rename_i l
      cases rx
      split at f
      · rename_i hz
        split at f
        · rename_i c e
          exact .inr (.inr ⟨_, _, c, rfl, rfl, by rw [str_len]; exact M_line hz, e, f.ok0 hr (.str [c])⟩)
        · exact f.elim
      · exact f.elim
    · cases rx with
      | tup q1 q2 =>
        split at f
        · rename_i d e
          obtain ⟨v, h1, h2⟩ := atI_of q2 e
          exact .inr (.inl ⟨_, _, _, v, rfl, rfl, q1, h1, f.ok0 hr h2⟩)
        · exact f.elim
    · cases rx with
      | fl q1 q2 =>
        split at f
        · rename_i d e
          obtain ⟨v, h1, h2⟩ := atI_of q2 e
          exact .inl ⟨_, _, _, v, rfl, rfl, q1.l, h1, f.ok0 hr h2⟩
        · exact f.elim
    · split at f
      · rename_i xs e
        split at f
        · rename_i d e2
          obtain ⟨i, a, vs, rfl, rfl, _, g, rs, _⟩ := lsts_of hr rx e
          obtain ⟨v, h1, h2⟩ := atI_of rs e2
          exact .inl ⟨_, _, _, v, rfl, rfl, SqL.of g, h1, f.ok0 hr h2⟩
        · exact f.elim
      · exact f.elim
  · exact f.elim
theorem de_ix {X : Cx} {S : Su} {W : WX} {a b : Expr} {ea eb : Ex} {pos : Pos} (hK : S.K = X.K) (ha : PE X a (dn S W ea)) (hb : PE X b (dn S W eb)) (hs : PlainIx b := by exact fun _ _ => rfl) : PE X (.Subscript a b pos) (dn S W (e2 oIx ea eb)) :=
  PE.mono' (pe_ix ix_seq ha hb hs) fun _ _ _ h => dn_op (hK ▸ os_ix) h
/-- a slice of a list of anything -/
def cut {α : Type} (xs : List α) (lo hi : Option Int) : List α := (xs.drop (HT.sIx xs.length 0 lo)).take (HT.sIx xs.length xs.length hi - HT.sIx xs.length 0 lo)
theorem VRs.cut {K : PySem.W.Frag} {ρ : List Addr} {H : Hp} {ds : List D} {vs : List V} (r : VRs K ρ H ds vs) (lo hi : Option Int) : VRs K ρ H (cut ds lo hi) (cutV vs lo hi) := by
  unfold Sh.cut cutV
  rw [r.length]
  exact (r.drop _).take _
def oCut (x : D) (lo hi : Option Int) (h : Hd) : R D := match x with
  | .str l => if l.length ≤ M then .ok (.str (cut l lo hi)) h else .no
  | .tup xs => .ok (.tup (cut xs lo hi)) h
  | .fl xs => newL (cut xs lo hi) h
  | x => match lsts x h with
    | some xs => newL (cut xs lo hi) h
    | none => .no
def rSlG (K : PySem.W.Frag) : V → Option Int → Option Int → Hp → VK → Prop := fun x lo hi H Q => (rSlL K x lo hi H Q ∨ rSlA K x lo hi H Q) ∨ rSlS x lo hi H Q
theorem sl_G {X : Cx} : SlR X (rSlG X.K) := (sl_list.or sl_tupA).or sl_str
theorem os_cut {S : Su} {ρ : List Addr} {hd : Hd} {H : Hp} {W : XK} {x : D} {vx : V} {lo hi : Option Int} {Q : VK} (hr : HR S ρ hd H) (rx : VR S.K ρ H x vx) (f : FinV S ρ H W (oCut x lo hi hd) Q) : rSlG S.K vx lo hi H Q := by
  unfold oCut at f
  split at f
  · rename_i l
    cases rx
    split at f
    · rename_i hz
      refine .inr ⟨_, rfl, by rw [str_len]; exact M_line hz, ?_⟩
      have e : cutS (⟨l.toArray⟩ : Str) lo hi = ⟨(cut l lo hi).toArray⟩ := by
        unfold cutS cut
        rw [str_len]
      rw [e]
      exact f.ok0 hr (.str _)
    · exact f.elim
  · cases rx with
    | tup q1 q2 =>
      rename_i ds a vs
      refine .inl (.inr ⟨_, _, rfl, q1, fun hw => ?_, fun hw => f.tup hr (q2.cut lo hi)⟩)
      have e : cut ds lo hi = ds := by
        unfold Sh.cut
        rw [q2.length, hw.1, hw.2, List.drop_zero, Nat.sub_zero, ← q2.length, List.take_length]
      rw [e] at f
      exact f.ok0 hr (.tup q1 q2)
  · cases rx with
    | fl q1 q2 => exact .inl (.inl ⟨_, _, rfl, q1.l, (f.newL hr (q2.cut lo hi)).2⟩)
  · split at f
    · rename_i xs e
      obtain ⟨i, a, vs, rfl, rfl, _, g, rs, _⟩ := lsts_of hr rx e
      exact .inl (.inl ⟨_, _, rfl, SqL.of g, (f.newL hr (rs.cut lo hi)).2⟩)
    · exact f.elim
/-- a slice's bound: there or not -/
def pO : Option Ex → Sl → Hd → R (Option Int)
  | none, _, h => .ok none h
  | some e, s, h => (e s h).bind fun d h1 => match d with
    | .int i => .ok (some i) h1
    | _ => .no
abbrev TO' : List Addr → Hp → Option Int → Option Int → Prop := fun _ _ a b => a = b
def dnO (S : Su) (W : WX) (e : Option Ex) : TO := fun σ H Q => ∃ ρ ds hd, SR S.K ρ H ds σ ∧ HR S ρ hd H ∧ Fin S TO' ρ H (fun c d H' => W c d σ H') (pO e ds hd) Q
theorem PO.mono' {X : Cx} {e : Option Expr} {t u : TO} (h : PO X e t) (k : ∀ σ H Q, u σ H Q → t σ H Q) : PO X e u := ⟨fun pins s σ H Q I q => h.run pins s σ H Q I (k σ H Q q)⟩
theorem do_none {X : Cx} {S : Su} {W : WX} : PO X none (dnO S W none) := PO.mono' po_none fun σ H Q h => by
  obtain ⟨ρ, ds, hd, sr, hr, f⟩ := h
  exact f ρ none H Step.refl hr rfl
theorem do_some {X : Cx} {S : Su} {W : WX} {e : Expr} {ee : Ex} (he : PE X e (dn S W ee)) : PO X (some e) (dnO S W (some ee)) := PO.mono' (po_some he) fun σ H Q h => by
  obtain ⟨ρ, ds, hd, sr, hr, f⟩ := h
  refine ⟨ρ, ds, hd, sr, hr, Fin.bind (r := ee ds hd) f fun ρ1 h1 H1 x vx st hr1 vr f1 => ?_⟩
  split at f1
  · cases vr
    exact ⟨_, rfl, f1 ρ1 _ H1 Step.refl hr1 rfl⟩
  · exact f1.elim
def eCut (a : Ex) (lo hi : Option Ex) : Ex := fun s h => (a s h).bind fun x h1 => (pO lo s h1).bind fun l h2 => (pO hi s h2).bind fun u h3 => oCut x l u h3
theorem de_cut {X : Cx} {S : Su} {W : WX} {a : Expr} {lo hi : Option Expr} {ea : Ex} {el eh : Option Ex} {pos p2 : Pos} (hK : S.K = X.K) (ha : PE X a (dn S W ea)) (hl : PO X lo (dnO S W el)) (hh : PO X hi (dnO S W eh)) :
    PE X (.Subscript a (.Slice lo hi none p2) pos) (dn S W (eCut ea el eh)) := PE.mono' (pe_slice sl_G ha hl hh) fun σ H Q h => by
  obtain ⟨ρ, ds, hd, sr, hr, f⟩ := h
  refine ⟨ρ, ds, hd, sr, hr, Fin.bind (r := ea ds hd) f fun ρ1 h1 H1 x vx st hr1 vr f1 => ?_⟩
  refine ⟨ρ1, ds, h1, sr.mono st, hr1, Fin.bind (r := pO el ds h1) f1 fun ρ2 h2 H2 l vl st2 hr2 e2 f2 => ?_⟩
  refine ⟨ρ2, ds, h2, (sr.mono st).mono st2, hr2, Fin.bind (r := pO eh ds h2) f2 fun ρ3 h3 H3 u vu st3 hr3 e3 f3 => ?_⟩
  cases e2
  cases e3
  have q : rSlG S.K vx l u H3 Q := os_cut hr3 ((vr.mono st2).mono st3) f3
  rw [hK] at q
  exact q

/-! ### dicts of the top, by text keys -/
structure DictC (S : Su) (w : World) (d : Addr) (kvs : List (List Nat × D)) : Prop where
  dict : ∃ es n, KDict S.K w d es n
  at_ : ∀ z : List Nat, match kvs.lookup z with
    | none => PySem.W.nsIn S.K d ⟨z.toArray⟩ = some none
    | some x => ∃ u v, PySem.W.nsIn S.K d ⟨z.toArray⟩ = some (some u) ∧ RelV v u ∧ ∀ ρ H, VR S.K ρ H x v
def oInD (neg : Bool) (kvs : List (List Nat × D)) (x : D) (h : Hd) : R D := match x with
  | .str z => .ok (.bl (if neg then !(kvs.lookup z).isSome else (kvs.lookup z).isSome)) h
  | _ => .no
theorem DictC.isSome {S : Su} {w : World} {d : Addr} {kvs : List (List Nat × D)} (D : DictC S w d kvs) (z : List Nat) : ∃ r, PySem.W.nsIn S.K d ⟨z.toArray⟩ = some r ∧ r.isSome = (kvs.lookup z).isSome := by
  have q := D.at_ z
  split at q
  · rename_i e
    exact ⟨_, q, by rw [e]; rfl⟩
  · rename_i x e
    obtain ⟨u, v, h, _⟩ := q
    exact ⟨_, h, by rw [e]; rfl⟩
theorem de_inD {X : Cx} {S : Su} {W : WX} {a : Expr} {ea : Ex} {x : Str} {d : Addr} {kvs : List (List Nat × D)} {pos p2 : Pos} (hK : S.K = X.K) (D : DictC S X.w d kvs) (hm : X.mg x = some (.ref d)) (ha : PE X a (dn S W ea)) (hg : Gl X x := by rfl) (hd : (x == ("__debug__" : Str)) = false := by decide)
    (hmk : behindInMarks .In (.Name x p2) = false := by rfl) : PE X (.Compare a [.In] [.Name x p2] pos) (dn S W (e1 (oInD false kvs) ea)) := by
  obtain ⟨es, n, KD⟩ := D.dict
  rw [hK] at KD
  refine PE.mono' (pe_cmpR (op_in_kd KD) ha (pe_glob (v := .ref d) hg hm rfl hd) hmk) fun σ H Q h => ?_
  obtain ⟨ρ, ds, hd, sr, hr, f⟩ := h
  refine ⟨ρ, ds, hd, sr, hr, Fin.bind (r := ea ds hd) f fun ρ1 h1 H1 x vx st hr1 vr f1 => ?_⟩
  unfold oInD at f1
  split at f1
  · rename_i z
    cases vr
    obtain ⟨r, e1, e2⟩ := D.isSome z
    rw [hK] at e1
    refine ⟨_, r, rfl, rfl, e1, ?_⟩
    rw [e2]
    exact FinV.ok0 f1 hr1 (.bl _)
  · exact f1.elim
theorem de_ninD {X : Cx} {S : Su} {W : WX} {a : Expr} {ea : Ex} {x : Str} {d : Addr} {kvs : List (List Nat × D)} {pos p2 : Pos} (hK : S.K = X.K) (D : DictC S X.w d kvs) (hm : X.mg x = some (.ref d)) (ha : PE X a (dn S W ea)) (hg : Gl X x := by rfl) (hd : (x == ("__debug__" : Str)) = false := by decide)
    (hmk : behindInMarks .NotIn (.Name x p2) = false := by rfl) : PE X (.Compare a [.NotIn] [.Name x p2] pos) (dn S W (e1 (oInD true kvs) ea)) := by
  obtain ⟨es, n, KD⟩ := D.dict
  rw [hK] at KD
  refine PE.mono' (pe_cmpR (op_notIn_kd KD) ha (pe_glob (v := .ref d) hg hm rfl hd) hmk) fun σ H Q h => ?_
  obtain ⟨ρ, ds, hd, sr, hr, f⟩ := h
  refine ⟨ρ, ds, hd, sr, hr, Fin.bind (r := ea ds hd) f fun ρ1 h1 H1 x vx st hr1 vr f1 => ?_⟩
  unfold oInD at f1
  split at f1
  · rename_i z
    cases vr
    obtain ⟨r, e1, e2⟩ := D.isSome z
    rw [hK] at e1
    refine ⟨_, r, rfl, rfl, e1, ?_⟩
    rw [e2]
    exact FinV.ok0 f1 hr1 (.bl _)
  · exact f1.elim
def oGetD (kvs : List (List Nat × D)) (x : D) (h : Hd) : R D := match x with
  | .str z => match kvs.lookup z with
    | some d => .ok d h
    | none => .no
  | _ => .no
theorem de_getD {X : Cx} {S : Su} {W : WX} {a : Expr} {ea : Ex} {x : Str} {d : Addr} {kvs : List (List Nat × D)} {pos p2 : Pos} (hK : S.K = X.K) (D : DictC S X.w d kvs) (hm : X.mg x = some (.ref d)) (ha : PE X a (dn S W ea)) (hg : Gl X x := by rfl) (hd : (x == ("__debug__" : Str)) = false := by decide)
    (hs : PlainIx a := by exact fun _ _ => rfl) : PE X (.Subscript (.Name x p2) a pos) (dn S W (e1 (oGetD kvs) ea)) := by
  obtain ⟨es, n, KD⟩ := D.dict
  rw [hK] at KD
  refine PE.mono' (pe_ix ix_kdict (pe_glob (v := .ref d) hg hm rfl hd) ha hs) fun σ H Q h => ?_
  obtain ⟨ρ, ds, hd, sr, hr, f⟩ := h
  refine ⟨ρ, ds, hd, sr, hr, Fin.bind (r := ea ds hd) f fun ρ1 h1 H1 x vx st hr1 vr f1 => ?_⟩
  unfold oGetD at f1
  split at f1
  · rename_i z
    cases vr
    have q := D.at_ z
    split at f1
    · rename_i y e
      rw [e] at q
      obtain ⟨u, v, h1, h2, h3⟩ := q
      rw [hK] at h1
      exact ⟨d, _, v, rfl, rfl, ⟨es, n, u, KD.at_, KD.lit, h1, h2⟩, FinV.ok0 f1 hr1 (h3 _ _)⟩
    · exact f1.elim
  · exact f1.elim

/-! ### lists of expressions; displays -/
def as0 : Exs := fun _ h => .ok [] h
def as1 (a : Ex) (r : Exs) : Exs := fun s h => (a s h).bind fun x h1 => (r s h1).bind fun xs h2 => .ok (x :: xs) h2
def oSeq (x : D) (h : Hd) : Option (List D) := match x with
  | .tup xs => some xs
  | x => lsts x h
def asS (a : Ex) (r : Exs) : Exs := fun s h => (a s h).bind fun x h1 => match oSeq x h1 with
  | some xs => (r s h1).bind fun ys h2 => .ok (xs ++ ys) h2
  | none => .no
theorem oSeq_of {S : Su} {ρ : List Addr} {hd : Hd} {H : Hp} {x : D} {v : V} {ds : List D} (hr : HR S ρ hd H) (r : VR S.K ρ H x v) (h : oSeq x hd = some ds) : ∃ a vs, v = .ref a ∧ (SqL S.K H a vs ∨ SqT S.K H a vs) ∧ VRs S.K ρ H ds vs := by
  unfold oSeq at h
  split at h
  · cases h
    cases r with
    | tup q1 q2 => exact ⟨_, _, rfl, .inr q1, q2⟩
  · obtain ⟨i, a, vs, rfl, rfl, _, g, rs, _⟩ := lsts_of hr r h
    exact ⟨_, _, rfl, .inl (SqL.of g), rs⟩
section
variable {X : Cx} {S : Su} {W : WX} {e : Expr} {es : List Expr} {ee : Ex} {er : Exs} {pos p : Pos}
theorem da_nil : PA X [] (dnA S W as0) := PA.mono' pa_nil fun σ H Q h => by
  obtain ⟨ρ, ds, hd, sr, hr, f⟩ := h
  exact f ρ [] H Step.refl hr .nil
theorem da_cons (ha : PE X e (dn S W ee)) (hr : PA X es (dnA S W er)) (hs : starEach (e :: es) X.env = (false, eval e X.env) :: starEach es X.env := by rfl) : PA X (e :: es) (dnA S W (as1 ee er)) := PA.mono' (pa_cons ha hr hs) fun σ H Q h => by
  obtain ⟨ρ, ds, hd, sr, hr, f⟩ := h
  refine ⟨ρ, ds, hd, sr, hr, Fin.bind (r := ee ds hd) f fun ρ1 h1 H1 x vx st hr1 vr f1 => ?_⟩
  refine ⟨ρ1, ds, h1, sr.mono st, hr1, Fin.bind (r := er ds h1) f1 fun ρ2 h2 H2 xs vxs st2 hr2 vr2 f2 => ?_⟩
  exact f2 ρ2 _ H2 Step.refl hr2 (.cons (vr.mono st2) vr2)
theorem da_star (hK : S.K = X.K) (ha : PE X e (dn S W ee)) (hr : PA X es (dnA S W er)) (hs : starEach (.Starred e p :: es) X.env = (true, eval e X.env) :: starEach es X.env := by rfl) : PA X (.Starred e p :: es) (dnA S W (asS ee er)) := PA.mono' (StX.pa_star ha hr hs) fun σ H Q h => by
  obtain ⟨ρ, ds, hd, sr, hr, f⟩ := h
  refine ⟨ρ, ds, hd, sr, hr, Fin.bind (r := ee ds hd) f fun ρ1 h1 H1 x vx st hr1 vr f1 => ?_⟩
  split at f1
  · rename_i xs eq
    obtain ⟨a, vs, rfl, q, rs⟩ := oSeq_of hr1 vr eq
    rw [hK] at q
    refine ⟨a, vs, rfl, q.symm, ρ1, ds, h1, sr.mono st, hr1, Fin.bind (r := er ds h1) f1 fun ρ2 h2 H2 ys vys st2 hr2 vr2 f2 => ?_⟩
    exact f2 ρ2 _ H2 Step.refl hr2 ((rs.mono st2).append vr2)
  · exact f1.elim
def eTup (r : Exs) : Ex := fun s h => (r s h).bind fun xs h1 => if xs.length ≤ M then .ok (.tup xs) h1 else .no
def eLst (r : Exs) : Ex := fun s h => (r s h).bind fun xs h1 => newL xs h1
theorem de_tup {x1} (h : PA X es (dnA S W er)) : PE X (.Tuple es x1 pos) (dn S W (eTup er)) := PE.mono' (pe_tup h) fun σ H Q h => by
  obtain ⟨ρ, ds, hd, sr, hr, f⟩ := h
  refine ⟨ρ, ds, hd, sr, hr, Fin.bind (r := er ds hd) f fun ρ1 h1 H1 xs vxs st hr1 vr f1 => ?_⟩
  split at f1
  · rename_i hz
    exact ⟨by rw [← vr.length]; exact M_line hz, FinV.tup f1 hr1 vr⟩
  · exact f1.elim
theorem de_lst (h : PA X es (dnA S W er)) : PE X (.List es pos) (dn S W (eLst er)) := PE.mono' (pe_lst h) fun σ H Q h => by
  obtain ⟨ρ, ds, hd, sr, hr, f⟩ := h
  refine ⟨ρ, ds, hd, sr, hr, Fin.bind (r := er ds hd) f fun ρ1 h1 H1 xs vxs st hr1 vr f1 => ?_⟩
  exact FinV.newL f1 hr1 vr
end
end Sh

end

section
set_option Elab.async false
set_option linter.all false
set_option maxRecDepth 100000
namespace Sh
open PySem L2

/-! ### tests -/
section
variable {S : Su} {ρ : List Addr} {hd : Hd} {H : Hp} {W : XK}
theorem FinT.ok0 {b : Bool} {Q : Bool → Hp → Prop} (f : Fin S TB ρ H W (.ok b hd) Q) (hr : HR S ρ hd H) : Q b H := f ρ b H Step.refl hr rfl
end
def tru (x : D) (h : Hd) : Option Bool := match x with
  | .non => some false
  | .bl b => some b
  | .int i => some (i != 0)
  | .str l => if l.length ≤ M then some (match l with | [] => false | _ :: _ => true) else none
  | .tup xs => some (!xs.isEmpty)
  | x => match lsts x h with
    | some xs => some (!xs.isEmpty)
    | none => none
theorem VRs.empty {K : PySem.W.Frag} {ρ : List Addr} {H : Hp} {ds : List D} {vs : List V} (r : VRs K ρ H ds vs) : ds.isEmpty = vs.isEmpty := by cases r <;> rfl
theorem tru_of {S : Su} {ρ : List Addr} {hd : Hd} {H : Hp} {x : D} {v : V} {b : Bool} (hr : HR S ρ hd H) (r : VR S.K ρ H x v) (h : tru x hd = some b) : TruV S.K v H b := by
  unfold tru at h
  split at h
  · cases r; cases h; exact rfl
  · cases r; cases h; exact rfl
  · cases r; cases h; exact rfl
  · rename_i l
    cases r
    split at h
    · rename_i hz
      refine ⟨by rw [str_len]; exact M_line hz, ?_⟩
      rw [str_len]
      cases h
      cases l with
      | nil => rfl
      | cons a t =>
        show true = (((t.length + 1 : Nat) : Int) != 0)
        symm
        rw [bne_iff_ne]
        intro e
        omega
    · cases h
  · cases r with
    | tup q1 q2 =>
      cases h
      exact .inr (.inl ⟨_, q1, by rw [q2.empty]⟩)
  · split at h
    · rename_i xs e
      cases h
      obtain ⟨i, a, vs, rfl, rfl, _, g, rs, _⟩ := lsts_of hr r e
      exact .inl ⟨_, SqL.of g, by rw [rs.empty]⟩
    · cases h
def oTru (x : D) (h : Hd) : R Bool := match tru x h with
  | some b => .ok b h
  | none => .no
def tV (e : Ex) : Ext := fun s h => (e s h).bind oTru
def tAn (a b : Ext) : Ext := fun s h => (a s h).bind fun c h1 => match c with
  | true => b s h1
  | false => .ok false h1
def tO (a b : Ext) : Ext := fun s h => (a s h).bind fun c h1 => match c with
  | true => .ok true h1
  | false => b s h1
def tN (a : Ext) : Ext := fun s h => (a s h).bind fun c h1 => .ok (!c) h1
section
variable {X : Cx} {S : Su} {W : WX} {a b c : Expr} {rest : List Expr} {ea eb ec : Ex} {ta tb : Ext} {pos : Pos} {op : D → D → Hd → R D} {r : R2}
theorem dn_test {Q : Bool → Hp → Prop} {σ : St} {H : Hp} (h : dnT S W (tV ea) σ H Q) : tTest (dn S W ea) σ H Q ∨ True := .inr trivial
theorem dt_val (hK : S.K = X.K) (ha : PE X a (dn S W ea)) (he : ∀ whole, isTrue a X.env whole = (do let v ← whole; standAt a.pos; holding [v] (truthy v)) := by intro _; rfl) : PT X a (dnT S W (tV ea)) := PT.mono' (pt_truth ha he) fun σ H Q h => by
  obtain ⟨ρ, ds, hd, sr, hr, f⟩ := h
  refine ⟨ρ, ds, hd, sr, hr, Fin.bind (r := ea ds hd) f fun ρ1 h1 H1 x vx st hr1 vr f1 => ?_⟩
  unfold oTru at f1
  split at f1
  · rename_i b e
    refine ⟨b, ?_, FinT.ok0 f1 hr1⟩
    rw [← hK]
    exact tru_of hr1 vr e
  · exact f1.elim
theorem dt_bool {t : TE} {σ : St} {H : Hp} {Q : Bool → Hp → Prop} (k : ∀ Q', dn S W ea σ H Q' → t σ H Q') (h : dnT S W (tV ea) σ H Q) (hb : ∀ ds hd d h1, ea ds hd = .ok d h1 → ∃ b, d = .bl b) : tTest t σ H Q := by
  obtain ⟨ρ, ds, hd, sr, hr, f⟩ := h
  refine k _ ⟨ρ, ds, hd, sr, hr, ?_⟩
  unfold tV at f
  cases e : ea ds hd with
  | ok d h1 =>
    obtain ⟨b, rfl⟩ := hb _ _ _ _ e
    rw [e] at f
    intro ρ' v H' st hr' vr
    cases vr
    exact ⟨b, rfl, f ρ' b H' st hr' rfl⟩
  | exc c fs h1 =>
    rw [e] at f
    exact f
  | no =>
    rw [e] at f
    exact f
theorem dt_not (ha : PT X a (dnT S W ta)) : PT X (.UnaryOp .Not a pos) (dnT S W (tN ta)) := PT.mono' (pt_not ha) fun σ H Q h => by
  obtain ⟨ρ, ds, hd, sr, hr, f⟩ := h
  refine ⟨ρ, ds, hd, sr, hr, Fin.bind (r := ta ds hd) f fun ρ1 h1 H1 x vx st hr1 vr f1 => ?_⟩
  cases vr
  exact FinT.ok0 f1 hr1
theorem dw_and1 (ha : PT X a (dnT S W ta)) : PW X (.BoolOp .And [a] pos) (dnT S W ta) := pw_and1 ha
theorem dw_or1 (ha : PT X a (dnT S W ta)) : PW X (.BoolOp .Or [a] pos) (dnT S W ta) := pw_or1 ha
theorem dw_and (ha : PT X a (dnT S W ta)) (hb : PW X (.BoolOp .And (b :: rest) pos) (dnT S W tb)) : PW X (.BoolOp .And (a :: b :: rest) pos) (dnT S W (tAn ta tb)) := PW.mono' (pw_and ha hb) fun σ H Q h => by
  obtain ⟨ρ, ds, hd, sr, hr, f⟩ := h
  refine ⟨ρ, ds, hd, sr, hr, Fin.bind (r := ta ds hd) f fun ρ1 h1 H1 x vx st hr1 vr f1 => ?_⟩
  cases vr
  cases x with
  | true => rw [if_pos rfl]; exact ⟨ρ1, ds, h1, sr.mono st, hr1, f1⟩
  | false => rw [if_neg (by simp)]; exact FinT.ok0 f1 hr1
theorem dw_or (ha : PT X a (dnT S W ta)) (hb : PW X (.BoolOp .Or (b :: rest) pos) (dnT S W tb)) : PW X (.BoolOp .Or (a :: b :: rest) pos) (dnT S W (tO ta tb)) := PW.mono' (pw_or ha hb) fun σ H Q h => by
  obtain ⟨ρ, ds, hd, sr, hr, f⟩ := h
  refine ⟨ρ, ds, hd, sr, hr, Fin.bind (r := ta ds hd) f fun ρ1 h1 H1 x vx st hr1 vr f1 => ?_⟩
  cases vr
  cases x with
  | true => rw [if_pos rfl]; exact FinT.ok0 f1 hr1
  | false => rw [if_neg (by simp)]; exact ⟨ρ1, ds, h1, sr.mono st, hr1, f1⟩
/-- comparisons as tests -/
def oBl (x : D) (h : Hd) : R Bool := match x with
  | .bl b => .ok b h
  | _ => .no
def tB1 (e : Ex) : Ext := fun s h => (e s h).bind oBl
theorem dn_tB1 {t : TE} {σ : St} {H : Hp} {Q : Bool → Hp → Prop} (k : ∀ Q', dn S W ea σ H Q' → t σ H Q') (h : dnT S W (tB1 ea) σ H Q) : tTest t σ H Q := by
  obtain ⟨ρ, ds, hd, sr, hr, f⟩ := h
  refine k _ ⟨ρ, ds, hd, sr, hr, Fin.bind (r := ea ds hd) f fun ρ1 h1 H1 x vx st hr1 vr f1 => ?_⟩
  unfold oBl at f1
  split at f1
  · cases vr
    exact ⟨_, rfl, FinT.ok0 f1 hr1⟩
  · exact f1.elim
theorem dt_cmp {co : CmpOp} (ho : OpR X (compareOp co) r) (hs : OpS S r op) (ha : PE X a (dn S W ea)) (hb : PE X b (dn S W eb)) (hm : behindInMarks co b = false) : PT X (.Compare a [co] [b] pos) (dnT S W (tB1 (e2 op ea eb))) :=
  PT.mono' (pt_cmpR ho ha hb hm) fun _ _ _ h => dn_tB1 (fun _ q => dn_op hs q) h
/-- a comparison that has a value rule (is None, in a dict), as a test -/
theorem dt_pc {co : CmpOp} {t : TE} (hp : PC X co a b t) (k : ∀ σ H Q, dn S W ea σ H Q → t σ H Q) (h1 : behindInMarks co b = false := by first | exact nobehind _ (by decide) (by decide) | rfl) : PT X (.Compare a [co] [b] pos) (dnT S W (tB1 ea)) :=
  PT.mono' (pt_cmp hp h1) fun _ _ _ h => dn_tB1 (fun Q' q => k _ _ Q' q) h
/-- and, or, not, if as values -/
def eAn (a b : Ex) : Ex := fun s h => (a s h).bind fun c h1 => match c with
  | .bl true => b s h1
  | .bl false => .ok (.bl false) h1
  | _ => .no
def eO (a b : Ex) : Ex := fun s h => (a s h).bind fun c h1 => match c with
  | .bl true => .ok (.bl true) h1
  | .bl false => b s h1
  | _ => .no
def oNot (x : D) (h : Hd) : R D := match x with
  | .bl b => .ok (.bl (!b)) h
  | _ => .no
theorem de_one {bo} (ha : PE X a (dn S W ea)) : PE X (.BoolOp bo [a] pos) (dn S W ea) := pe_one ha
theorem de_and (ha : PE X a (dn S W ea)) (hb : PE X (.BoolOp .And (b :: rest) pos) (dn S W eb)) : PE X (.BoolOp .And (a :: b :: rest) pos) (dn S W (eAn ea eb)) := PE.mono' (pe_and ha hb) fun σ H Q h => by
  obtain ⟨ρ, ds, hd, sr, hr, f⟩ := h
  refine ⟨ρ, ds, hd, sr, hr, Fin.bind (r := ea ds hd) f fun ρ1 h1 H1 x vx st hr1 vr f1 => ?_⟩
  split at f1
  · cases vr
    exact ⟨_, rfl, by rw [if_pos rfl]; exact ⟨ρ1, ds, h1, sr.mono st, hr1, f1⟩⟩
  · cases vr
    exact ⟨_, rfl, by rw [if_neg (by simp)]; exact FinV.ok0 f1 hr1 (.bl _)⟩
  · exact f1.elim
theorem de_or (ha : PE X a (dn S W ea)) (hb : PE X (.BoolOp .Or (b :: rest) pos) (dn S W eb)) : PE X (.BoolOp .Or (a :: b :: rest) pos) (dn S W (eO ea eb)) := PE.mono' (pe_or ha hb) fun σ H Q h => by
  obtain ⟨ρ, ds, hd, sr, hr, f⟩ := h
  refine ⟨ρ, ds, hd, sr, hr, Fin.bind (r := ea ds hd) f fun ρ1 h1 H1 x vx st hr1 vr f1 => ?_⟩
  split at f1
  · cases vr
    exact ⟨_, rfl, by rw [if_pos rfl]; exact FinV.ok0 f1 hr1 (.bl _)⟩
  · cases vr
    exact ⟨_, rfl, by rw [if_neg (by simp)]; exact ⟨ρ1, ds, h1, sr.mono st, hr1, f1⟩⟩
  · exact f1.elim
theorem de_not (ha : PE X a (dn S W ea)) : PE X (.UnaryOp .Not a pos) (dn S W (e1 oNot ea)) := PE.mono' (pe_not ha) fun σ H Q h => by
  obtain ⟨ρ, ds, hd, sr, hr, f⟩ := h
  refine ⟨ρ, ds, hd, sr, hr, Fin.bind (r := ea ds hd) f fun ρ1 h1 H1 x vx st hr1 vr f1 => ?_⟩
  unfold oNot at f1
  split at f1
  · cases vr
    exact ⟨_, rfl, FinV.ok0 f1 hr1 (.bl _)⟩
  · exact f1.elim
def eIf (t : Ext) (a b : Ex) : Ex := fun s h => (t s h).bind fun c h1 => match c with
  | true => a s h1
  | false => b s h1
theorem de_if (hc : PT X c (dnT S W ta)) (ha : PE X a (dn S W ea)) (hb : PE X b (dn S W eb)) : PE X (.IfExp c a b pos) (dn S W (eIf ta ea eb)) := PE.mono' (pe_ifExp hc ha hb) fun σ H Q h => by
  obtain ⟨ρ, ds, hd, sr, hr, f⟩ := h
  refine ⟨ρ, ds, hd, sr, hr, Fin.bind (r := ta ds hd) f fun ρ1 h1 H1 x vx st hr1 vr f1 => ?_⟩
  cases vr
  cases x with
  | true => rw [if_pos rfl]; exact ⟨ρ1, ds, h1, sr.mono st, hr1, f1⟩
  | false => rw [if_neg (by simp)]; exact ⟨ρ1, ds, h1, sr.mono st, hr1, f1⟩
/-- a op b op c -/
def eCh (op op' : D → D → Hd → R D) (a b c : Ex) : Ex := fun s h => (a s h).bind fun x h1 => (b s h1).bind fun y h2 => (op x y h2).bind fun z h3 => match z with
  | .bl true => (c s h3).bind fun w h4 => op' y w h4
  | .bl false => .ok (.bl false) h3
  | _ => .no
theorem de_chainT {op' : D → D → Hd → R D} {r' : R2} (hs : OpS S r op) (hs' : OpS S r' op') (σ : St) (H : Hp) (Q : VK) (h : dn S W (eCh op op' ea eb ec) σ H Q) : tChain r r' (dn S W ea) (dn S W eb) (dn S W ec) σ H Q := by
  obtain ⟨ρ, ds, hd, sr, hr, f⟩ := h
  refine ⟨ρ, ds, hd, sr, hr, Fin.bind (r := ea ds hd) f fun ρ1 h1 H1 x vx st hr1 vr f1 => ?_⟩
  refine ⟨ρ1, ds, h1, sr.mono st, hr1, Fin.bind (r := eb ds h1) f1 fun ρ2 h2 H2 y vy st2 hr2 vr2 f2 => ?_⟩
  refine hs ρ2 h2 H2 _ x y vx vy _ hr2 (vr.mono st2) vr2 (Fin.bind (r := op x y h2) f2 fun ρ3 h3 H3 z vz st3 hr3 vr3 f3 => ?_)
  split at f3
  · cases vr3
    refine ⟨true, rfl, ?_⟩
    rw [if_pos rfl]
    refine ⟨ρ3, ds, h3, ((sr.mono st).mono st2).mono st3, hr3, Fin.bind (r := ec ds h3) f3 fun ρ4 h4 H4 w vw st4 hr4 vr4 f4 => ?_⟩
    exact hs' ρ4 h4 H4 _ y w vy vw Q hr4 ((vr2.mono st3).mono st4) vr4 f4
  · cases vr3
    refine ⟨false, rfl, ?_⟩
    rw [if_neg (by simp)]
    exact FinV.ok0 f3 hr3 (.bl _)
  · exact f3.elim
theorem de_chain {co co' : CmpOp} {op' : D → D → Hd → R D} {r' : R2} (ho : OpR X (compareOp co) r) (ho' : OpR X (compareOp co') r') (hs : OpS S r op) (hs' : OpS S r' op') (ha : PE X a (dn S W ea)) (hb : PE X b (dn S W eb)) (hc : PE X c (dn S W ec))
    (hm : lastMarks [co, co'] [b, c] = false := by with_unfolding_all rfl) : PE X (.Compare a [co, co'] [b, c] pos) (dn S W (eCh op op' ea eb ec)) := PE.mono' (pe_chain ho ho' ha hb hc hm) (de_chainT hs hs')
theorem dt_chain {co co' : CmpOp} {op' : D → D → Hd → R D} {r' : R2} (ho : OpR X (compareOp co) r) (ho' : OpR X (compareOp co') r') (hs : OpS S r op) (hs' : OpS S r' op') (ha : PE X a (dn S W ea)) (hb : PE X b (dn S W eb)) (hc : PE X c (dn S W ec))
    (hm : lastMarks [co, co'] [b, c] = false := by with_unfolding_all rfl) : PT X (.Compare a [co, co'] [b, c] pos) (dnT S W (tB1 (eCh op op' ea eb ec))) := PT.mono' (pt_chain ho ho' ha hb hc hm) fun σ H Q h => dn_tB1 (fun Q' q => de_chainT hs hs' σ H Q' q) h
end

/-! ### attributes -/
/-- the classes that have the attribute, and where it lies -/
structure FldC (S : Su) (f : Str) (t : List (Nat × Nat)) : Prop where
  at_ : ∀ c i, t.lookup c = some i → (S.cf c)[i]? = some f ∧ Cls S.K (S.ca c) ∧ NoAttr S.K (S.ca c) f ∧ (S.cf c).Nodup ∧ (S.cf c).length < 900
def oFld (t : List (Nat × Nat)) (x : D) (h : Hd) : R D := match x with
  | .obj j => match h[j]? with
    | some (.ins c fs) => match t.lookup c with
      | some i => match fs[i]? with
        | some d => .ok d h
        | none => .no
      | none => .no
    | _ => .no
  | _ => .no
theorem lookup_zip {f : Str} : ∀ {ks : List Str} {vs : List V} {i : Nat} {v : V}, ks[i]? = some f → vs[i]? = some v → ks.Nodup → (ks.zip vs).lookup f = some v
  | [], _, _, _, h, _, _ => by simp at h
  | _ :: _, [], _, _, _, h, _ => by simp at h
  | k :: ks, w :: vs, 0, v, h, q, _ => by
    simp at h q
    subst h q
    simp [List.zip, List.zipWith, List.lookup]
  | k :: ks, w :: vs, i + 1, v, h, q, n => by
    simp at h q
    have hn : f ≠ k := by
      rintro rfl
      exact (List.nodup_cons.mp n).1 (List.mem_of_getElem? h)
    have hb : (f == k) = false := by simpa using hn
    show List.lookup f ((k, w) :: ks.zip vs) = _
    rw [List.lookup_cons, hb]
    exact lookup_zip h q (List.nodup_cons.mp n).2
theorem de_fld {X : Cx} {S : Su} {W : WX} {e : Expr} {ee : Ex} {f : Str} {t : List (Nat × Nat)} {pos : Pos} (hK : S.K = X.K) (F : FldC S f t) (he : PE X e (dn S W ee)) (hb : attributeBase e f X.env (eval e X.env) = eval e X.env := by rfl) : PE X (.Attribute e f pos) (dn S W (e1 (oFld t) ee)) := PE.mono' (pe_fld he hb) fun σ H Q h => by
  obtain ⟨ρ, ds, hd, sr, hr, f⟩ := h
  refine ⟨ρ, ds, hd, sr, hr, Fin.bind (r := ee ds hd) f fun ρ1 h1 H1 x vx st hr1 vr f1 => ?_⟩
  unfold oFld at f1
  split at f1
  · split at f1
    · rename_i c fs e
      obtain ⟨a, rfl, g, o⟩ := hr1.obj e vr
      split at f1
      · rename_i i e2
        obtain ⟨k1, k2, k3, k4, _⟩ := F.at_ c i e2
        split at f1
        · rename_i d e3
          cases o with
          | ins q1 q2 q3 =>
            obtain ⟨v, z1, z2⟩ := q3.get e3
            rw [hK] at k2 k3
            exact ⟨a, _, _, _, v, rfl, q1, k2, k3, lookup_zip k1 z1 k4, FinV.ok0 f1 hr1 z2⟩
        · exact f1.elim
      · exact f1.elim
    · exact f1.elim
  · exact f1.elim
/-- an expression's end inside a statement -/
def rS {α : Type} (r : R α) (s : Sl) (k : α → Hd → RS) : RS := match r with
  | .ok a h => k a h
  | .exc c fs h => .exc c fs s h
  | .no => .no
theorem FinS.bind {α β : Type} {S : Su} {W : WX} {T : List Addr → Hp → α → β → Prop} {ρ : List Addr} {H : Hp} {r : R α} {s : Sl} {σ : St} {k : α → Hd → RS} {E : Ends} {Q : β → Hp → Prop} (sr : SR S.K ρ H s σ) (h : FinS S W ρ H (rS r s k) E)
    (hk : ∀ ρ' h' H' d v, Step ρ H ρ' H' → HR S ρ' h' H' → T ρ' H' d v → SR S.K ρ' H' s σ → FinS S W ρ' H' (k d h') E → Q v H') : Fin S T ρ H (fun c d H' => W c d σ H') r Q := by
  cases r with
  | ok d h' => exact fun ρ' v H' st hr t => hk ρ' h' H' d v st hr t (sr.mono st) (FinS.mono st h)
  | exc c fs h' => exact fun ρ' dd H' st hr ex => h ρ' σ dd H' st hr (sr.mono st) ex
  | no => exact h
/-- o.f = value: the attribute is there, or it is the next one -/
def oSt (t : List (Nat × Nat)) (s : Sl) (x y : D) (h2 : Hd) : RS := match x with
  | .obj j => match h2[j]? with
    | some (.ins c fs) => match t.lookup c with
      | some i => if i < fs.length then .nx s (h2.set j (.ins c (fs.set i y))) else if i = fs.length then .nx s (h2.set j (.ins c (fs ++ [y]))) else .no
      | none => .no
    | _ => .no
  | _ => .no
def sFl (t : List (Nat × Nat)) (o e : Ex) : Sm := fun s h => rS (e s h) s fun y h1 => rS (o s h1) s fun x h2 => oSt t s x y h2
theorem putF_set {f : Str} {y : V} : ∀ {ks : List Str} {vs : List V} {i : Nat}, ks[i]? = some f → i < vs.length → ks.Nodup → putF f y (ks.zip vs) = ks.zip (vs.set i y)
  | [], _, _, h, _, _ => by simp at h
  | _ :: _, [], _, _, h, _ => by simp at h
  | k :: ks, w :: vs, 0, h, q, _ => by
    simp at h
    subst h
    simp [List.zip, List.zipWith, putF]
  | k :: ks, w :: vs, i + 1, h, q, n => by
    simp at h q
    have hn : ¬ k = f := by
      rintro rfl
      exact (List.nodup_cons.mp n).1 (List.mem_of_getElem? h)
    show putF f y ((k, w) :: ks.zip vs) = (k, w) :: ks.zip (vs.set i y)
    unfold putF
    rw [if_neg hn, putF_set h q (List.nodup_cons.mp n).2]
theorem putF_new {f : Str} {y : V} : ∀ {ks : List Str} {vs : List V}, ks[vs.length]? = some f → ks.Nodup → putF f y (ks.zip vs) = ks.zip (vs ++ [y])
  | [], _, h, _ => by simp at h
  | k :: ks, [], h, _ => by
    simp at h
    subst h
    simp [List.zip, List.zipWith, putF]
  | k :: ks, w :: vs, h, n => by
    simp at h
    have hn : ¬ k = f := by
      rintro rfl
      exact (List.nodup_cons.mp n).1 (List.mem_of_getElem? h)
    show putF f y ((k, w) :: ks.zip vs) = (k, w) :: ks.zip (vs ++ [y])
    unfold putF
    rw [if_neg hn, putF_new h (List.nodup_cons.mp n).2]
theorem ds_fld {X : Cx} {S : Su} {W : WX} {o e : Expr} {eo ee : Ex} {fn : Str} {t : List (Nat × Nat)} {pos pos' : Pos} (hK : S.K = X.K) (F : FldC S fn t) (ho : PE X o (dn S W eo)) (he : PE X e (dn S W ee)) (hs : swapsWith e (some (.Attribute o fn pos')) pos.line X.env = pure false := by rfl) :
    PS X (.Assign [.Attribute o fn pos'] e pos) (dnS S W (sFl t eo ee)) := PS.mono' (ps_fld ho he hs) fun E σ H h => by
  obtain ⟨ρ, ds, hd, sr, hr, f⟩ := h
  refine ⟨ρ, ds, hd, sr, hr, FinS.bind (r := ee ds hd) sr f fun ρ1 h1 H1 y vy st1 hr1 ry sr1 f1 => ?_⟩
  refine ⟨ρ1, ds, h1, sr1, hr1, FinS.bind (r := eo ds h1) sr1 f1 fun ρ2 h2 H2 x vx st2 hr2 rx sr2 f2 => ?_⟩
  unfold oSt at f2
  split at f2
  · rename_i j
    split at f2
    · rename_i c fs e
      obtain ⟨a, rfl, g, o⟩ := hr2.obj e rx
      split at f2
      · rename_i i e3
        obtain ⟨k1, k2, k3, k4, k5⟩ := F.at_ c i e3
        rw [hK] at k2 k3
        cases o with
        | @ins _ _ _ dx vs q1 q2 q3 =>
          have hlt : ((S.cf c).zip vs).length < 1000 := by
            rw [List.length_zip]
            omega
          have ry2 := ry.mono st2
          split at f2
          · rename_i hi
            refine ⟨a, _, dx, _, rfl, q1, k2, k3, hlt, ?_⟩
            rw [putF_set k1 (by rw [← q3.length]; exact hi) k4]
            have st3 : Step ρ2 H2 ρ2 (upd H2 a (.ins (S.ca c) dx ((S.cf c).zip (vs.set i vy)))) := Step.set g q1 rfl
            exact f2 ρ2 σ _ st3 (hr2.set g (.ins upd_same (by simpa using q2) ((q3.set i ry2).mono st3))) (sr2.mono st3)
          · split at f2
            · rename_i hi2
              refine ⟨a, _, dx, _, rfl, q1, k2, k3, hlt, ?_⟩
              have hl : i = vs.length := by rw [← q3.length]; exact hi2
              subst hl
              rw [putF_new k1 k4]
              have st3 : Step ρ2 H2 ρ2 (upd H2 a (.ins (S.ca c) dx ((S.cf c).zip (vs ++ [vy])))) := Step.set g q1 rfl
              have hle : (fs ++ [y]).length ≤ (S.cf c).length := by
                have := (List.getElem?_eq_some_iff.mp k1).1
                rw [List.length_append, q3.length]
                exact this
              exact f2 ρ2 σ _ st3 (hr2.set g (.ins upd_same hle ((q3.append (.cons ry2 .nil)).mono st3))) (sr2.mono st3)
            · exact f2.elim
      · exact f2.elim
    · exact f2.elim
  · exact f2.elim
end Sh

end

section
set_option Elab.async false
set_option linter.all false
set_option maxRecDepth 100000
namespace Sh
open PySem L2

/-! ### calls of builtins -/
def CalS (S : Su) (r : List V → Hp → VK → Prop) (op : List D → Hd → R D) : Prop := ∀ (ρ : List Addr) (hd : Hd) (H : Hp) (W : XK) (xs : List D) (vs : List V) (Q : VK), HR S ρ hd H → VRs S.K ρ H xs vs → FinV S ρ H W (op xs hd) Q → r vs H Q
def eB (op : List D → Hd → R D) (a : Exs) : Ex := fun s h => (a s h).bind fun xs h1 => op xs h1
theorem dn_B {S : Su} {W : WX} {r : List V → Hp → VK → Prop} {op : List D → Hd → R D} {a : Exs} (ho : CalS S r op) {σ : St} {H : Hp} {Q : VK} (h : dn S W (eB op a) σ H Q) : tCB r (dnA S W a) σ H Q := by
  obtain ⟨ρ, ds, hd, sr, hr, f⟩ := h
  exact ⟨ρ, ds, hd, sr, hr, Fin.bind (r := a ds hd) f fun ρ1 h1 H1 x vx st hr1 vr f1 => ho ρ1 h1 H1 _ x vx Q hr1 vr f1⟩
section
variable {X : Cx} {S : Su} {W : WX} {e : Expr} {es : List Expr} {ea : Exs} {x : Str} {p pos : Pos} {id T : String} {r : List V → Hp → VK → Prop} {op : List D → Hd → R D}
theorem de_callB (hc : CallR X (.builtin id) r) (ho : CalS S r op) (hm : X.mg x = none) (ha : PA X (e :: es) (dnA S W ea)) (hg : Gl X x := by rfl) (hv : bootBuiltins x = some (.builtin id) := by first | rfl | decide +kernel) (hn : x ≠ "__name__" := by decide) (hdb : (x == ("__debug__" : Str)) = false := by decide)
    (he : starEach (e :: es) X.env = (false, eval e X.env) :: starEach es X.env := by rfl) (hpl : (backTo pos (starEach es X.env)).any (·.1) = false := by rfl) : PE X (.Call (.Name x p) (e :: es) [] pos) (dn S W (eB op ea)) :=
  PE.mono' (pe_callB hc hg hm hv ha hn hdb he hpl) fun _ _ _ h => dn_B ho h
theorem de_callTy (hc : CallR X (.type T) r) (ho : CalS S r op) (hm : X.mg x = none) (ha : PA X (e :: es) (dnA S W ea)) (hg : Gl X x := by rfl) (hv : bootBuiltins x = some (.type T) := by first | rfl | decide +kernel) (hn : x ≠ "__name__" := by decide) (hdb : (x == ("__debug__" : Str)) = false := by decide)
    (he : starEach (e :: es) X.env = (false, eval e X.env) :: starEach es X.env := by rfl) (hpl : (backTo pos (starEach es X.env)).any (·.1) = false := by rfl) : PE X (.Call (.Name x p) (e :: es) [] pos) (dn S W (eB op ea)) :=
  PE.mono' (pe_callTy hc hg hm hv ha hn hdb he hpl) fun _ _ _ h => dn_B ho h
end
theorem VRs.one {K : PySem.W.Frag} {ρ : List Addr} {H : Hp} {x : D} {vs : List V} (r : VRs K ρ H [x] vs) : ∃ v, vs = [v] ∧ VR K ρ H x v := by
  cases r with
  | cons r1 r2 => cases r2; exact ⟨_, rfl, r1⟩
theorem VRs.two {K : PySem.W.Frag} {ρ : List Addr} {H : Hp} {x y : D} {vs : List V} (r : VRs K ρ H [x, y] vs) : ∃ v w, vs = [v, w] ∧ VR K ρ H x v ∧ VR K ρ H y w := by
  cases r with
  | cons r1 r2 =>
    cases r2 with
    | cons r3 r4 => cases r4; exact ⟨_, _, rfl, r1, r3⟩

/-! len -/
def oLen (xs : List D) (h : Hd) : R D := match xs with
  | [.str l] => if l.length ≤ M then .ok (.int l.length) h else .no
  | [.tup xs] => .ok (.int xs.length) h
  | [.fl xs] => .ok (.int xs.length) h
  | [x] => match lsts x h with
    | some xs => .ok (.int xs.length) h
    | none => .no
  | _ => .no
theorem cs_len {S : Su} : CalS S (fun xs H Q => ∃ x n, xs = [x] ∧ LenV S.K x H n ∧ Q (.int (n : Nat)) H) oLen := by
  intro ρ hd H W xs vs Q hr rs f
  unfold oLen at f
  split at f
  · rename_i l
    obtain ⟨v, rfl, r⟩ := rs.one
    cases r
    split at f
    · rename_i hz
      exact ⟨_, l.length, rfl, ⟨by rw [str_len]; exact M_line hz, (str_len l).symm⟩, FinV.ok0 f hr (.int _)⟩
    · exact f.elim
  · obtain ⟨v, rfl, r⟩ := rs.one
    cases r with
    | tup q1 q2 => exact ⟨_, _, rfl, .inr ⟨_, q1, q2.length⟩, FinV.ok0 f hr (.int _)⟩
  · obtain ⟨v, rfl, r⟩ := rs.one
    cases r with
    | fl q1 q2 => exact ⟨_, _, rfl, .inl ⟨_, q1.l, q2.length⟩, FinV.ok0 f hr (.int _)⟩
  · obtain ⟨v, rfl, r⟩ := rs.one
    split at f
    · rename_i ys e
      obtain ⟨i, a, vs, rfl, rfl, _, g, rs, _⟩ := lsts_of hr r e
      exact ⟨_, _, rfl, .inl ⟨_, SqL.of g, rs.length⟩, FinV.ok0 f hr (.int _)⟩
    · exact f.elim
  · exact f.elim

/-! abs, max, min, divmod -/
def oAbs (xs : List D) (h : Hd) : R D := match xs with
  | [.int i] => .ok (.int (if i < 0 then -i else i)) h
  | _ => .no
theorem cs_abs {S : Su} : CalS S (fun xs H Q => ∃ i, xs = [.int i] ∧ Q (.int (if i < 0 then -i else i)) H) oAbs := by
  intro ρ hd H W xs vs Q hr rs f
  unfold oAbs at f
  split at f
  · obtain ⟨v, rfl, r⟩ := rs.one
    cases r
    exact ⟨_, rfl, FinV.ok0 f hr (.int _)⟩
  · exact f.elim
def oMax (xs : List D) (h : Hd) : R D := match xs with
  | [.int i, .int j] => .ok (.int (if j > i then j else i)) h
  | _ => .no
theorem cs_max {S : Su} : CalS S (fun xs H Q => ∃ i j, xs = [.int i, .int j] ∧ Q (.int (if j > i then j else i)) H) oMax := by
  intro ρ hd H W xs vs Q hr rs f
  unfold oMax at f
  split at f
  · obtain ⟨v, w, rfl, r, q⟩ := rs.two
    cases r; cases q
    exact ⟨_, _, rfl, FinV.ok0 f hr (.int _)⟩
  · exact f.elim
def oMin (xs : List D) (h : Hd) : R D := match xs with
  | [.int i, .int j] => .ok (.int (if j < i then j else i)) h
  | _ => .no
theorem cs_min {S : Su} : CalS S (fun xs H Q => ∃ i j, xs = [.int i, .int j] ∧ Q (.int (if j < i then j else i)) H) oMin := by
  intro ρ hd H W xs vs Q hr rs f
  unfold oMin at f
  split at f
  · obtain ⟨v, w, rfl, r, q⟩ := rs.two
    cases r; cases q
    exact ⟨_, _, rfl, FinV.ok0 f hr (.int _)⟩
  · exact f.elim
def oDm (xs : List D) (h : Hd) : R D := match xs with
  | [.int i, .int j] => if 0 < j ∧ j < 1073741824 then .ok (.tup [.int (i / j), .int (i % j)]) h else .no
  | _ => .no

/-! ints, texts -/
theorem signs_ofString' (s : String) : (Str.ofString s).cps.toList = s.toList.map Char.toNat := PyProof.Rows.signs_ofString s
def idg (i : Int) : List Nat := match i with
  | .ofNat n => (Nat.toDigits 10 n).map Char.toNat
  | .negSucc n => 45 :: (Nat.toDigits 10 (n + 1)).map Char.toNat
theorem idg_eq (i : Int) : (Str.ofString (toString i)).cps.toList = idg i := by
  rw [signs_ofString']
  cases i with
  | ofNat n =>
    show (Nat.repr n).toList.map Char.toNat = _
    rw [Nat.toList_repr]
    rfl
  | negSucc n =>
    show (String.append "-" (Nat.repr (n + 1))).toList.map Char.toNat = _
    show ("-" ++ Nat.repr (n + 1)).toList.map Char.toNat = _
    rw [String.toList_append, Nat.toList_repr]
    rfl
theorem vr_int_str {K : PySem.W.Frag} {ρ : List Addr} {H : Hp} (i : Int) : VR K ρ H (.str (idg i)) (.str (Str.ofString (toString i))) := vr_str (idg_eq i)
def oStr (xs : List D) (h : Hd) : R D := match xs with
  | [.int i] => if i.natAbs.log2 < 1920 then .ok (.str (idg i)) h else .no
  | _ => .no
theorem cs_str {S : Su} : CalS S (fun xs H Q => ∃ i : Int, xs = [.int i] ∧ i.natAbs.log2 < 1920 ∧ Q (.str (Str.ofString (toString i))) H) oStr := by
  intro ρ hd H W xs vs Q hr rs f
  unfold oStr at f
  split at f
  · obtain ⟨v, rfl, r⟩ := rs.one
    cases r
    split at f
    · rename_i hz
      exact ⟨_, rfl, hz, FinV.ok0 f hr (vr_int_str _)⟩
    · exact f.elim
  · exact f.elim
def dval (cs : List Nat) : Nat := cs.foldl (fun acc c => acc * 10 + (c - 48)) 0
def isDigs (l : List Nat) : Bool := !l.isEmpty && l.all fun c => Nat.ble 48 c && Nat.ble c 57
def oInt (xs : List D) (h : Hd) : R D := match xs with
  | [.int i] => .ok (.int i) h
  | [.bl b] => .ok (.int (if b then 1 else 0)) h
  | [.str l] => if isDigs l = true ∧ l.length ≤ 640 then .ok (.int (dval l)) h else .no
  | _ => .no
def rIntG : List V → Hp → VK → Prop := fun xs H Q => ((∃ i, xs = [.int i] ∧ Q (.int i) H) ∨ ∃ k, xs = [.bl k] ∧ Q (.int (if k then 1 else 0)) H) ∨ ∃ a n, xs = [.str a] ∧ PySem.intText? a = some n ∧ a.length ≤ 640 ∧ Q (.int n) H
theorem call_intG {X : Cx} : CallR X (.type "int") rIntG := call_int1.or call_int_str
theorem cs_int {S : Su} : CalS S rIntG oInt := by
  intro ρ hd H W xs vs Q hr rs f
  unfold oInt at f
  split at f
  · obtain ⟨v, rfl, r⟩ := rs.one
    cases r
    exact .inl (.inl ⟨_, rfl, FinV.ok0 f hr (.int _)⟩)
  · obtain ⟨v, rfl, r⟩ := rs.one
    cases r
    exact .inl (.inr ⟨_, rfl, FinV.ok0 f hr (.int _)⟩)
  · rename_i l
    obtain ⟨v, rfl, r⟩ := rs.one
    cases r
    split at f
    · rename_i hz
      obtain ⟨z1, z2⟩ := hz
      unfold isDigs at z1
      obtain ⟨z3, z4⟩ := Bool.and_eq_true_iff.mp z1
      have e1 : (⟨l.toArray⟩ : Str).cps.toList = l := List.toList_toArray
      have h1 : NumText.AllDigits (⟨l.toArray⟩ : Str).cps.toList := by
        rw [e1]
        intro c hc
        have := List.all_eq_true.mp z4 c hc
        obtain ⟨y1, y2⟩ := Bool.and_eq_true_iff.mp this
        exact ⟨Nat.le_of_ble_eq_true y1, Nat.le_of_ble_eq_true y2⟩
      have h2 : (⟨l.toArray⟩ : Str).cps.toList ≠ [] := by
        rw [e1]
        rintro rfl
        simp at z3
      have h3 := intText_digits h1 h2 (by rw [str_len]; omega)
      rw [e1] at h3
      exact .inr ⟨_, _, rfl, h3, by rw [str_len]; exact z2, FinV.ok0 f hr (.int _)⟩
    · exact f.elim
  · exact f.elim

/-! list, tuple -/
def oList (xs : List D) (h : Hd) : R D := match xs with
  | [x] => match oSeq x h with
    | some ys => newL ys h
    | none => .no
  | _ => .no
theorem cs_list {S : Su} : CalS S (fun xs H Q => ∃ p ys, xs = [.ref p] ∧ (SqL S.K H p ys ∨ SqT S.K H p ys) ∧ ∀ l, H l = none → Q (.ref l) (upd H l (.lst ys))) oList := by
  intro ρ hd H W xs vs Q hr rs f
  unfold oList at f
  split at f
  · obtain ⟨v, rfl, r⟩ := rs.one
    split at f
    · rename_i ys e
      obtain ⟨a, ws, rfl, q, rs⟩ := oSeq_of hr r e
      exact ⟨a, ws, rfl, q, (FinV.newL f hr rs).2⟩
    · exact f.elim
  · exact f.elim
def oTup (xs : List D) (h : Hd) : R D := match xs with
  | [.tup xs] => .ok (.tup xs) h
  | [x] => match lsts x h with
    | some ys => .ok (.tup ys) h
    | none => .no
  | _ => .no
theorem cs_tup {S : Su} : CalS S (fun xs H Q => ∃ p ys, xs = [.ref p] ∧ ((SqL S.K H p ys ∧ ∀ l, H l = none → Q (.ref l) (upd H l (.tup ys))) ∨ (SqT S.K H p ys ∧ Q (.ref p) H))) oTup := by
  intro ρ hd H W xs vs Q hr rs f
  unfold oTup at f
  split at f
  · obtain ⟨v, rfl, r⟩ := rs.one
    cases r with
    | tup q1 q2 => exact ⟨_, _, rfl, .inr ⟨q1, FinV.ok0 f hr (.tup q1 q2)⟩⟩
  · obtain ⟨v, rfl, r⟩ := rs.one
    split at f
    · rename_i ys e
      obtain ⟨i, a, ws, rfl, rfl, _, g, rs, _⟩ := lsts_of hr r e
      exact ⟨a, ws, rfl, .inl ⟨SqL.of g, FinV.tup f hr rs⟩⟩
    · exact f.elim
  · exact f.elim

/-! all, any -/
def bls : List D → Option (List Bool)
  | [] => some []
  | .bl b :: r => match bls r with
    | some bs => some (b :: bs)
    | none => none
  | _ => none
theorem bls_of {K : PySem.W.Frag} {ρ : List Addr} {H : Hp} : ∀ {ds : List D} {vs : List V} {bs : List Bool}, VRs K ρ H ds vs → bls ds = some bs → vs = bs.map V.bl
  | _, _, _, .nil, e => by
    unfold bls at e
    cases e
    rfl
  | d :: ds, _, bs, .cons r t, e => by
    cases d with
    | bl b =>
      cases r
      unfold bls at e
      split at e
      · rename_i bs' e'
        cases e
        rw [bls_of t e']
        rfl
      · cases e
    | _ => unfold bls at e; cases e
def oAll (xs : List D) (h : Hd) : R D := match xs with
  | [x] => match lsts x h with
    | some ys => match bls ys with
      | some bs => .ok (.bl (bs.all id)) h
      | none => .no
    | none => .no
  | _ => .no
theorem cs_all {S : Su} : CalS S (rAll S.K) oAll := by
  intro ρ hd H W xs vs Q hr rs f
  unfold oAll at f
  split at f
  · obtain ⟨v, rfl, r⟩ := rs.one
    split at f
    · rename_i ys e
      obtain ⟨i, a, ws, rfl, rfl, _, g, rs, _⟩ := lsts_of hr r e
      split at f
      · rename_i bs e2
        refine ⟨a, bs, rfl, ?_, FinV.ok0 f hr (.bl _)⟩
        rw [← bls_of rs e2]
        exact SqL.of g
      · exact f.elim
    · exact f.elim
  · exact f.elim
def oAny (xs : List D) (h : Hd) : R D := match xs with
  | [x] => match lsts x h with
    | some ys => match bls ys with
      | some bs => .ok (.bl (bs.any id)) h
      | none => .no
    | none => .no
  | _ => .no
theorem cs_any {S : Su} : CalS S (rAny S.K) oAny := by
  intro ρ hd H W xs vs Q hr rs f
  unfold oAny at f
  split at f
  · obtain ⟨v, rfl, r⟩ := rs.one
    split at f
    · rename_i ys e
      obtain ⟨i, a, ws, rfl, rfl, _, g, rs, _⟩ := lsts_of hr r e
      split at f
      · rename_i bs e2
        refine ⟨a, bs, rfl, ?_, FinV.ok0 f hr (.bl _)⟩
        rw [← bls_of rs e2]
        exact SqL.of g
      · exact f.elim
    · exact f.elim
  · exact f.elim

/-! isinstance -/
def tyn (x : D) (h : Hd) : Option Nat := match x with
  | .non => some 0
  | .bl _ => some 1
  | .int _ => some 2
  | .str _ => some 3
  | .tup _ => some 4
  | x => match lsts x h with
    | some _ => some 5
    | none => none
def tyS : Nat → String
  | 0 => "NoneType"
  | 1 => "bool"
  | 2 => "int"
  | 3 => "str"
  | 4 => "tuple"
  | _ => "list"
def tyI (t c : Nat) : Bool := Nat.beq t c || (Nat.beq c 2 && Nat.beq t 1)
theorem tyI_kit : ∀ t, t < 6 → ∀ c, c < 6 → 0 < c → kitB (tyS t) (tyS c) = some (tyI t c) := by decide +kernel
theorem tyn_of {S : Su} {ρ : List Addr} {hd : Hd} {H : Hp} {x : D} {v : V} {n : Nat} (hr : HR S ρ hd H) (r : VR S.K ρ H x v) (h : tyn x hd = some n) : n < 6 ∧ TyX S.K H v (.type (tyS n)) := by
  unfold tyn at h
  split at h
  · cases r; cases h; exact ⟨by decide, .base .non⟩
  · cases r; cases h; exact ⟨by decide, .base (.bl _)⟩
  · cases r; cases h; exact ⟨by decide, .base (.int _)⟩
  · cases r; cases h; exact ⟨by decide, .base (.str _)⟩
  · cases r with
    | tup q1 q2 =>
      cases h
      refine ⟨by decide, ?_⟩
      rcases q1 with (q | ⟨o, q⟩) | ⟨o, its, n, q, c, _⟩
      · exact .base (.tup q)
      · exact .fTuple q
      · exact .kTuple q c
  · split at h
    · rename_i ys e
      cases h
      obtain ⟨i, a, ws, rfl, rfl, _, g, rs, _⟩ := lsts_of hr r e
      exact ⟨by decide, .base (.lst g)⟩
    · cases h
def oIsi (c : Nat) (x : D) (h : Hd) : R D := match tyn x h with
  | some t => .ok (.bl (tyI t c)) h
  | none => .no
section
variable {X : Cx} {S : Su} {W : WX} {e : Expr} {ee : Ex} {p p2 p3 p4 pos : Pos}
theorem de_isi (c : Nat) {T : Str} (hK : S.K = X.K) (hm : X.mg "isinstance" = none) (he : PE X e (dn S W ee)) (hmT : X.mg T = none) (hc : 0 < c ∧ c < 6 := by decide) (hvT : bootBuiltins T = some (.type (tyS c)) := by first | rfl | decide +kernel) (hg : Gl X "isinstance" := by rfl) (hgT : Gl X T := by rfl) (hnT : T ≠ "__name__" := by decide) (hdT : (T == ("__debug__" : Str)) = false := by decide)
    (hs : starEach [e, .Name T p2] X.env = (false, eval e X.env) :: starEach [.Name T p2] X.env := by rfl) (hs2 : starEach [.Name T p2] X.env = (false, eval (.Name T p2) X.env) :: starEach [] X.env := by rfl) (hpl : (backTo pos (starEach [.Name T p2] X.env)).any (·.1) = false := by rfl) :
    PE X (.Call (.Name "isinstance" p) [e, .Name T p2] [] pos) (dn S W (e1 (oIsi c) ee)) := by
  have hT : PE X (.Name T p2) (tC (.ty (tyS c))) := pe_bltn hgT hmT hvT rfl hnT hdT
  refine PE.mono' (pe_callB call_isi hg hm (by first | rfl | decide +kernel) (pa_cons he (pa_cons hT pa_nil hs2) hs) (by decide) (by decide) hs hpl) fun σ H Q h => ?_
  obtain ⟨ρ, ds, hd, sr, hr, f⟩ := h
  refine ⟨ρ, ds, hd, sr, hr, Fin.bind (r := ee ds hd) f fun ρ1 h1 H1 x vx st hr1 vr f1 => ?_⟩
  unfold oIsi at f1
  split at f1
  · rename_i t et
    obtain ⟨z1, z2⟩ := tyn_of hr1 vr et
    rw [hK] at z2
    exact ⟨vx, _, _, _, _, rfl, .ty (tyS c), z2, kit_ty (tyI_kit t z1 c hc.2 hc.1), FinV.ok0 f1 hr1 (.bl _)⟩
  · exact f1.elim
/-- isinstance(x, (T1, T2)) -/
def oIsi2 (c d : Nat) (x : D) (h : Hd) : R D := match tyn x h with
  | some t => .ok (.bl (tyI t c || tyI t d)) h
  | none => .no
theorem de_isi2 (c d : Nat) {T U : Str} {x1} (hK : S.K = X.K) (hm : X.mg "isinstance" = none) (he : PE X e (dn S W ee)) (hmT : X.mg T = none) (hmU : X.mg U = none) (hc : 0 < c ∧ c < 6 := by decide) (hd : 0 < d ∧ d < 6 := by decide)
    (hvT : bootBuiltins T = some (.type (tyS c)) := by first | rfl | decide +kernel) (hvU : bootBuiltins U = some (.type (tyS d)) := by first | rfl | decide +kernel)
    (hg : Gl X "isinstance" := by rfl) (hgT : Gl X T := by rfl) (hgU : Gl X U := by rfl) (hnT : T ≠ "__name__" := by decide) (hdT : (T == ("__debug__" : Str)) = false := by decide) (hnU : U ≠ "__name__" := by decide) (hdU : (U == ("__debug__" : Str)) = false := by decide)
    (ht1 : starEach [.Name T p2, .Name U p3] X.env = (false, eval (.Name T p2) X.env) :: starEach [.Name U p3] X.env := by rfl) (ht2 : starEach [.Name U p3] X.env = (false, eval (.Name U p3) X.env) :: starEach [] X.env := by rfl)
    (hs : starEach [e, .Tuple [.Name T p2, .Name U p3] x1 p4] X.env = (false, eval e X.env) :: starEach [.Tuple [.Name T p2, .Name U p3] x1 p4] X.env := by rfl)
    (hs2 : starEach [.Tuple [.Name T p2, .Name U p3] x1 p4] X.env = (false, eval (.Tuple [.Name T p2, .Name U p3] x1 p4) X.env) :: starEach [] X.env := by rfl) (hpl : (backTo pos (starEach [.Tuple [.Name T p2, .Name U p3] x1 p4] X.env)).any (·.1) = false := by rfl) :
    PE X (.Call (.Name "isinstance" p) [e, .Tuple [.Name T p2, .Name U p3] x1 p4] [] pos) (dn S W (e1 (oIsi2 c d) ee)) := by
  have hT : PE X (.Name T p2) (tC (.ty (tyS c))) := pe_bltn hgT hmT hvT rfl hnT hdT
  have hU : PE X (.Name U p3) (tC (.ty (tyS d))) := pe_bltn hgU hmU hvU rfl hnU hdU
  refine PE.mono' (pe_callB call_isiT hg hm (by first | rfl | decide +kernel) (pa_cons he (pa_cons (pe_tup (pa_cons hT (pa_cons hU pa_nil ht2) ht1)) pa_nil hs2) hs) (by decide) (by decide) hs hpl) fun σ H Q h => ?_
  obtain ⟨ρ, ds, hd', sr, hr, f⟩ := h
  refine ⟨ρ, ds, hd', sr, hr, Fin.bind (r := ee ds hd') f fun ρ1 h1 H1 x vx st hr1 vr f1 => ?_⟩
  unfold oIsi2 at f1
  split at f1
  · rename_i t et
    refine ⟨by rw [sizeLine_eq]; show 2 ≤ 16777216; omega, fun p hp => ?_⟩
    have s2 : Step ρ1 H1 ρ1 (upd H1 p (.tup [.ty (tyS c), .ty (tyS d)])) := Step.new hp
    obtain ⟨z1, z2⟩ := tyn_of (hr1.new hp) (vr.mono s2) et
    rw [hK] at z2
    refine ⟨vx, p, _, _, [.type (tyS c), .type (tyS d)], _, rfl, upd_same, .cons (.ty _) (.cons (.ty _) .nil), z2, ?_, FinV.ok0 (Fin.mono s2 f1) (hr1.new hp) (.bl _)⟩
    refine kitAny_cons (kit_ty (tyI_kit t z1 c hc.2 hc.1)) (fun e1 => ?_) (fun e1 => by rw [e1]; rfl)
    rw [e1]
    refine kitAny_cons (kit_ty (tyI_kit t z1 d hd.2 hd.1)) (fun e2 => ?_) (fun e2 => by rw [e2]; rfl)
    rw [e2]
    rfl
  · exact f1.elim
end

/-! ### methods of lists -/
def BmS (S : Su) (T : String) (r : V → List V → Hp → VK → Prop) (op : D → List D → Hd → R D) : Prop := ∀ (ρ : List Addr) (hd : Hd) (H : Hp) (W : XK) (x : D) (vx : V) (xs : List D) (vs : List V) (Q : VK), HR S ρ hd H → VR S.K ρ H x vx → VRs S.K ρ H xs vs → FinV S ρ H W (op x xs hd) Q → r vx vs H Q
/-- the object is a list -/
def eM (op : D → List D → Hd → R D) (o : Ex) (a : Exs) : Ex := fun s h => (o s h).bind fun x h1 => match lsts x h1 with
  | some _ => (a s h1).bind fun xs h2 => op x xs h2
  | none => .no
section
variable {X : Cx} {S : Su} {W : WX} {o e : Expr} {es : List Expr} {eo : Ex} {ea : Exs} {name : Str} {apos cpos : Pos} {id : String} {r : V → List V → Hp → VK → Prop} {op : D → List D → Hd → R D}
theorem de_bm (hK : S.K = X.K) (slot : Slot "list" name id) (hty : typeOf (.builtin id) = pure (.type "method_descriptor")) (hm : MtR X id r) (hs : BmS S "list" r op) (ho : PE X o (dn S W eo)) (ha : PA X (e :: es) (dnA S W ea))
    (hbase : attributeBase o name X.env (eval o X.env) = eval o X.env := by rfl)
    (hfew : ((backTo cpos (starEach (e :: es) X.env)).all (fun x => !x.1) && (backToKw cpos (keywordEach [] X.env)).all (fun x => x.1.isSome)
      && decide ((e :: es).length + ([] : List Keyword).length + (if ([] : List Keyword).isEmpty then 0 else 1) < 30)) = true := by rfl)
    (hline : (apos.endLine == cpos.line) = true := by rfl) (hs1 : starEach (e :: es) X.env = (false, eval e X.env) :: starEach es X.env := by rfl) (hplain : (backTo cpos (starEach es X.env)).any (·.1) = false := by rfl) :
    PE X (.Call (.Attribute o name apos) (e :: es) [] cpos) (dn S W (eM op eo ea)) := PE.mono' (pe_bm PySem.F.plainAttrs_list slot hty hm ho ha hbase hfew hline hs1 hplain) fun σ H Q h => by
  obtain ⟨ρ, ds, hd, sr, hr, f⟩ := h
  refine ⟨ρ, ds, hd, sr, hr, Fin.bind (r := eo ds hd) f fun ρ1 h1 H1 x vx st hr1 vr f1 => ?_⟩
  split at f1
  · rename_i ys e
    obtain ⟨i, a, ws, rfl, rfl, _, g, rs, _⟩ := lsts_of hr1 vr e
    refine ⟨.inl ⟨rfl, _, SqL.of g⟩, ρ1, ds, h1, sr.mono st, hr1, Fin.bind (r := ea ds h1) f1 fun ρ2 h2 H2 xs vs st2 hr2 rs2 f2 => ?_⟩
    exact hs ρ2 h2 H2 _ _ _ xs vs Q hr2 (vr.mono st2) rs2 f2
  · exact f1.elim
theorem de_bm0 (hK : S.K = X.K) (slot : Slot "list" name id) (hty : typeOf (.builtin id) = pure (.type "method_descriptor")) (hm : MtR X id r) (hs : BmS S "list" r op) (ho : PE X o (dn S W eo))
    (hbase : attributeBase o name X.env (eval o X.env) = eval o X.env := by rfl) (hline : (apos.endLine == cpos.line) = true := by rfl) : PE X (.Call (.Attribute o name apos) [] [] cpos) (dn S W (eM op eo as0)) := PE.mono' (pe_bm0 PySem.F.plainAttrs_list slot hty hm ho hbase hline) fun σ H Q h => by
  obtain ⟨ρ, ds, hd, sr, hr, f⟩ := h
  refine ⟨ρ, ds, hd, sr, hr, Fin.bind (r := eo ds hd) f fun ρ1 h1 H1 x vx st hr1 vr f1 => ?_⟩
  split at f1
  · rename_i ys e
    obtain ⟨i, a, ws, rfl, rfl, _, g, rs, _⟩ := lsts_of hr1 vr e
    exact ⟨.inl ⟨rfl, _, SqL.of g⟩, hs ρ1 h1 H1 _ _ _ [] [] Q hr1 vr .nil f1⟩
  · exact f1.elim
end
def oApp (x : D) (xs : List D) (h : Hd) : R D := match x, xs with
  | .obj i, [y] => match h[i]? with
    | some (.lst zs) => if zs.length < M then .ok .non (h.set i (.lst (zs ++ [y]))) else .no
    | _ => .no
  | _, _ => .no
theorem HR.lsto {S : Su} {ρ : List Addr} {hd : Hd} {H : Hp} {i : Nat} {v : V} {xs : List D} (hr : HR S ρ hd H) (r : VR S.K ρ H (.obj i) v) (e : hd[i]? = some (.lst xs)) : ∃ a vs, v = .ref a ∧ ρ[i]? = some a ∧ H a = some (.lst vs) ∧ VRs S.K ρ H xs vs := by
  obtain ⟨a, rfl, g, o⟩ := hr.obj e r
  cases o with
  | lst h1 h2 => exact ⟨a, _, rfl, g, h1, h2⟩
theorem bs_app {S : Su} : BmS S "list" rAppend oApp := by
  intro ρ hd H W x vx xs vs Q hr rx rs f
  unfold oApp at f
  split at f
  · obtain ⟨v, rfl, r⟩ := rs.one
    split at f
    · rename_i zs e
      obtain ⟨a, ws, rfl, g, q, rz⟩ := hr.lsto rx e
      split at f
      · rename_i hz
        exact ⟨a, ws, v, rfl, rfl, q, by rw [← rz.length]; exact M_lt hz, FinV.setL f hr g q (rz.append (.cons r .nil)) .non⟩
      · exact f.elim
    · exact f.elim
  · exact f.elim
def oExt (x : D) (xs : List D) (h : Hd) : R D := match x, xs with
  | .obj i, [y] => match h[i]?, lsts y h with
    | some (.lst zs), some ys => if zs.length + ys.length ≤ M then .ok .non (h.set i (.lst (zs ++ ys))) else .no
    | _, _ => .no
  | _, _ => .no
theorem bs_ext {S : Su} : BmS S "list" rExtend oExt := by
  intro ρ hd H W x vx xs vs Q hr rx rs f
  unfold oExt at f
  split at f
  · obtain ⟨v, rfl, r⟩ := rs.one
    split at f
    · rename_i zs ys e e2
      obtain ⟨a, ws, rfl, g, q, rz⟩ := hr.lsto rx e
      obtain ⟨j, b, us, rfl, rfl, _, q2, ry, _⟩ := lsts_of hr r e2
      split at f
      · rename_i hz
        exact ⟨a, b, ws, us, rfl, rfl, q, q2, by rw [← rz.length, ← ry.length]; exact M_line hz, FinV.setL f hr g q (rz.append ry) .non⟩
      · exact f.elim
    · exact f.elim
  · exact f.elim
def oPop (x : D) (xs : List D) (h : Hd) : R D := match x, xs with
  | .obj i, [] => match h[i]? with
    | some (.lst zs) => match zs[zs.length - 1]? with
      | some y => .ok y (h.set i (.lst zs.dropLast))
      | none => .no
    | _ => .no
  | _, _ => .no
theorem bs_pop {S : Su} : BmS S "list" rPop oPop := by
  intro ρ hd H W x vx xs vs Q hr rx rs f
  unfold oPop at f
  split at f
  · cases rs
    split at f
    · rename_i zs e
      obtain ⟨a, ws, rfl, g, q, rz⟩ := hr.lsto rx e
      split at f
      · rename_i y ey
        obtain ⟨v, h1, h2⟩ := rz.get ey
        refine ⟨a, ws, v, rfl, rfl, q, by rw [← rz.length]; exact h1, FinV.setL f hr g q rz.dropLast h2⟩
      · exact f.elim
    · exact f.elim
  · exact f.elim

/-! ### f-strings, join -/
def oFmt (x : D) (h : Hd) : R D := match x with
  | .str l => if l.length ≤ M then .ok (.str l) h else .no
  | .int i => if i.natAbs.log2 < 1920 then .ok (.str (idg i)) h else .no
  | _ => .no
def jRun : List Ex → List Nat → Sl → Hd → R (List Nat)
  | [], acc, _, h => .ok acc h
  | e :: es, acc, s, h => (e s h).bind fun x h1 => match x with
    | .str y => if (acc ++ y).length ≤ M then jRun es (acc ++ y) s h1 else .no
    | _ => .no
def eJ (es : List Ex) : Ex := fun s h => (jRun es [] s h).bind fun l h1 => .ok (.str l) h1
section
variable {X : Cx} {S : Su} {W : WX}
theorem de_fmt {e : Expr} {ee : Ex} {pos : Pos} (he : PE X e (dn S W ee)) : PE X (.FormattedValue e (-1) none pos) (dn S W (e1 oFmt ee)) := PE.mono' (pe_fmt he) fun σ H Q h => by
  obtain ⟨ρ, ds, hd, sr, hr, f⟩ := h
  refine ⟨ρ, ds, hd, sr, hr, Fin.bind (r := ee ds hd) f fun ρ1 h1 H1 x vx st hr1 vr f1 => ?_⟩
  unfold oFmt at f1
  split at f1
  · cases vr
    split at f1
    · rename_i hz
      exact .inl ⟨_, rfl, by rw [str_len]; exact M_line hz, FinV.ok0 f1 hr1 (.str _)⟩
    · exact f1.elim
  · cases vr
    split at f1
    · rename_i hz
      exact .inr ⟨_, rfl, hz, FinV.ok0 f1 hr1 (vr_int_str _)⟩
    · exact f1.elim
  · exact f1.elim
theorem tJs_of : ∀ (es : List Ex) (acc : List Nat) (ρ : List Addr) (ds : Sl) (hd : Hd) (σ : St) (H : Hp) (Q : Str → Hp → Prop), SR S.K ρ H ds σ → HR S ρ hd H →
    Fin S (fun _ _ l (x : Str) => x = ⟨l.toArray⟩) ρ H (fun c d H' => W c d σ H') (jRun es acc ds hd) Q → tJs (es.map (dn S W)) ⟨acc.toArray⟩ σ H Q
  | [], acc, ρ, ds, hd, σ, H, Q, sr, hr, f => f ρ _ H Step.refl hr rfl
  | e :: es, acc, ρ, ds, hd, σ, H, Q, sr, hr, f => by
    refine ⟨ρ, ds, hd, sr, hr, Fin.bind (r := e ds hd) f fun ρ1 h1 H1 x vx st hr1 vr f1 => ?_⟩
    split at f1
    · rename_i y
      cases vr
      split at f1
      · rename_i hz
        exact ⟨_, rfl, by rw [str_app, str_len]; exact M_line hz, by rw [str_app]; exact tJs_of es (acc ++ y) ρ1 ds h1 σ H1 Q (sr.mono st) hr1 f1⟩
      · exact f1.elim
    · exact f1.elim
theorem dj_nil : PJ X [] ([].map (dn S W)) := .nil
theorem dj_cons {e : Expr} {ee : Ex} {es : List Expr} {ees : List Ex} (h : PE X e (dn S W ee)) (r : PJ X es (ees.map (dn S W))) : PJ X (e :: es) ((ee :: ees).map (dn S W)) := .cons h r
theorem de_joined {v1 v2 : Expr} {rest : List Expr} {es : List Ex} {pos : Pos} (h : PJ X (v1 :: v2 :: rest) (es.map (dn S W))) : PE X (.JoinedStr (v1 :: v2 :: rest) pos) (dn S W (eJ es)) := PE.mono' (pe_joined h) fun σ H Q h => by
  obtain ⟨ρ, ds, hd, sr, hr, f⟩ := h
  refine tJs_of es [] ρ ds hd σ H _ sr hr (Fin.bind (r := jRun es [] ds hd) f fun ρ1 h1 H1 x vx st hr1 vr f1 => ?_)
  subst vr
  exact FinV.ok0 f1 hr1 (.str _)
theorem de_joined1 {e : Expr} {ee : Ex} {pos : Pos} (he : PE X e (dn S W ee)) : PE X (.JoinedStr [e] pos) (dn S W ee) := pe_joined1 he
end
def txts : List D → Option (List (List Nat))
  | [] => some []
  | .str l :: r => match txts r with
    | some ls => some (l :: ls)
    | none => none
  | _ => none
def joinL (sep : List Nat) : List (List Nat) → List Nat
  | [] => []
  | [x] => x
  | x :: y :: r => x ++ (sep ++ joinL sep (y :: r))
def lens : List (List Nat) → Nat
  | [] => 0
  | l :: r => l.length + lens r
theorem strs_of {K : PySem.W.Frag} {ρ : List Addr} {H : Hp} : ∀ {ds : List D} {vs : List V} {ls : List (List Nat)}, VRs K ρ H ds vs → txts ds = some ls → vs = (ls.map fun l => (⟨l.toArray⟩ : Str)).map V.str
  | _, _, _, .nil, e => by
    unfold txts at e
    cases e
    rfl
  | d :: ds, _, ls, .cons r t, e => by
    cases d with
    | str b =>
      cases r
      unfold txts at e
      split at e
      · rename_i bs' e'
        cases e
        rw [strs_of t e']
        rfl
      · cases e
    | _ => unfold txts at e; cases e
theorem joinL_of (sep : List Nat) : ∀ ls : List (List Nat), Str.join ⟨sep.toArray⟩ (ls.map fun l => (⟨l.toArray⟩ : Str)) = ⟨(joinL sep ls).toArray⟩
  | [] => rfl
  | [x] => rfl
  | x :: y :: r => by
    show (⟨x.toArray⟩ : Str) ++ (⟨sep.toArray⟩ : Str) ++ Str.join ⟨sep.toArray⟩ ((y :: r).map fun l => (⟨l.toArray⟩ : Str)) = _
    rw [joinL_of sep (y :: r), str_app, str_app, List.append_assoc]
    rfl
theorem lens_of : ∀ ls : List (List Nat), ((ls.map fun l => (⟨l.toArray⟩ : Str)).map (·.length)).sum = lens ls
  | [] => rfl
  | l :: r => by
    rw [List.map_cons, List.map_cons, List.sum_cons, lens_of r, str_len]
    rfl
def oJoin (x y : D) (h : Hd) : R D := match x with
  | .str sep => match oSeq y h with
    | some ds => match txts ds with
      | some ls => if lens ls + ls.length * sep.length ≤ M then .ok (.str (joinL sep ls)) h else .no
      | none => .no
    | none => .no
  | _ => .no
def isS (x : D) (h : Hd) : R D := match x with
  | .str a => .ok (.str a) h
  | _ => .no
section
variable {X : Cx} {S : Su} {W : WX} {o e : Expr} {eo ee : Ex}
theorem de_join {apos pos : Pos} (hK : S.K = X.K) (ho : PE X o (dn S W eo)) (he : PE X e (dn S W ee)) (hs : starEach [e] X.env = [(false, eval e X.env)] := by rfl) (hbase : attributeBase o "join" X.env (eval o X.env) = eval o X.env := by rfl) (hline : (apos.endLine == pos.line) = true := by rfl) :
    PE X (.Call (.Attribute o "join" apos) [e] [] pos) (dn S W (e2 oJoin (e1 isS eo) ee)) := PE.mono' (pe_join ho he hs hbase hline) fun σ H Q h => by
  obtain ⟨ρ, ds, hd, sr, hr, f⟩ := h
  have f : FinV S ρ H (fun c d H' => W c d σ H') ((eo ds hd).bind fun x h1 => (isS x h1).bind fun x h1 => (ee ds h1).bind fun y h2 => oJoin x y h2) Q := by
    unfold e2 e1 at f
    cases e : eo ds hd with
    | ok a b => rw [e] at f; exact f
    | exc a b c => rw [e] at f; exact f
    | no => rw [e] at f; exact f
  refine ⟨ρ, ds, hd, sr, hr, Fin.bind (r := eo ds hd) f fun ρ1 h1 H1 x vx st hr1 vr f1 => ?_⟩
  unfold isS at f1
  split at f1
  · rename_i a
    cases vr
    refine ⟨⟨_, rfl⟩, ρ1, ds, h1, sr.mono st, hr1, Fin.bind (r := ee ds h1) f1 fun ρ2 h2 H2 y vy st2 hr2 vr2 f2 => ?_⟩
    unfold oJoin at f2
    dsimp only at f2
    split at f2
    · rename_i ds' e
      obtain ⟨p, ws, rfl, q, rs⟩ := oSeq_of hr2 vr2 e
      split at f2
      · rename_i ls e2
        split at f2
        · rename_i hz
          have z := strs_of rs e2
          subst z
          rw [hK] at q
          refine ⟨_, p, _, rfl, rfl, q, ?_, ?_⟩
          · rw [lens_of, List.length_map, str_len]
            unfold M at hz
            omega
          · have e3 : Txt.join ⟨a.toArray⟩ (ls.map fun l => (⟨l.toArray⟩ : Str)) = ⟨(joinL a ls).toArray⟩ := by
              rw [← joinL_of]
              exact StrLaws.glued_eq_join _ _
            rw [e3]
            exact FinV.ok0 f2 hr2 (.str _)
        · exact f2.elim
      · exact f2.elim
    · exact f2.elim
  · exact f1.elim
end
end Sh

end

section
set_option Elab.async false
set_option linter.all false
set_option maxRecDepth 100000
namespace Sh
open PySem L2

/-! ### what keeps values -/
structure WS (K : PySem.W.Frag) (ρ : List Addr) (H : Hp) (ρ' : List Addr) (H' : Hp) : Prop where
  get : ∀ (i : Nat) (a : Addr), ρ[i]? = some a → ρ'[i]? = some a
  sq : ∀ a xs, SqT K H a xs → SqT K H' a xs
  sf : ∀ a xs, SqF K H a xs → SqF K H' a xs
mutual
theorem VR.ws {K : PySem.W.Frag} {ρ ρ' : List Addr} {H H' : Hp} (s : WS K ρ H ρ' H') : ∀ {d : D} {v : V}, VR K ρ H d v → VR K ρ' H' d v
  | _, _, .non => .non
  | _, _, .bl b => .bl b
  | _, _, .int i => .int i
  | _, _, .str l => .str l
  | _, _, .tup h1 h2 => .tup (s.sq _ _ h1) (VRs.ws s h2)
  | _, _, .obj h => .obj (s.get _ _ h)
  | _, _, .fl h1 h2 => .fl (s.sf _ _ h1) (VRs.ws s h2)
theorem VRs.ws {K : PySem.W.Frag} {ρ ρ' : List Addr} {H H' : Hp} (s : WS K ρ H ρ' H') : ∀ {ds : List D} {vs : List V}, VRs K ρ H ds vs → VRs K ρ' H' ds vs
  | _, _, .nil => .nil
  | _, _, .cons h1 h2 => .cons (VR.ws s h1) (VRs.ws s h2)
end
theorem WS.upd {K : PySem.W.Frag} {ρ : List Addr} {H : Hp} {a : Addr} {xs : List V} {o : HO} (e : H a = some (.lst xs)) : WS K ρ H ρ (upd H a o) := by
  refine ⟨fun _ _ h => h, fun b ys q => ?_, fun b ys q => ?_⟩
  rotate_left
  · rcases q with ⟨o', q⟩ | q
    · refine .inl ⟨o', ?_⟩
      rw [upd_ne]
      · exact q
      · rintro rfl
        rw [e] at q
        cases q
    · exact .inr q
  rcases q with (q | ⟨o', q⟩) | q
  · refine .inl (.inl ?_)
    rw [upd_ne]
    · exact q
    · rintro rfl
      rw [e] at q
      cases q
  · refine .inl (.inr ⟨o', ?_⟩)
    rw [upd_ne]
    · exact q
    · rintro rfl
      rw [e] at q
      cases q
  · exact .inr q
theorem SR.ws {K : PySem.W.Frag} {ρ ρ' : List Addr} {H H' : Hp} {ds : Sl} {σ : St} (s : WS K ρ H ρ' H') (h : SR K ρ H ds σ) : SR K ρ' H' ds σ := ⟨h.len, fun i d e => let ⟨v, a, b⟩ := h.at_ i d e; ⟨v, a, b.ws s⟩⟩
/-- a list outside of what is known is changed -/
theorem HR.out {S : Su} {ρ : List Addr} {hd : Hd} {H : Hp} {p : Addr} {xs : List V} {o : HO} (h : HR S ρ hd H) (n : p ∉ ρ) (e : H p = some (.lst xs)) : HR S ρ hd (upd H p o) := by
  refine ⟨h.len, h.nd, fun i ob a e1 e2 => ?_⟩
  have ha : a ≠ p := by
    rintro rfl
    exact n (List.mem_of_getElem? e2)
  have q := h.at_ i ob a e1 e2
  have w : WS S.K ρ H ρ (upd H p o) := WS.upd e
  cases q with
  | lst h1 h2 => exact .lst (by rw [upd_ne ha]; exact h1) (h2.ws w)
  | ins h1 h2 h3 => exact .ins (by rw [upd_ne ha]; exact h1) h2 (h3.ws w)
  | dct h1 h2 h3 => exact .dct (by rw [upd_ne ha]; exact h1) h2 (h3.ws w)

/-! ### what is walked -/
inductive Src where
  | sq (x : D)
  | rng (lo : Int) (n : Nat)
  | enm (x : D)
  | zp (x y : D)
def sqAt (x : D) (i : Nat) (h : Hd) : Option (Option D) := match x with
  | .tup xs => some xs[i]?
  | .str l => some (match l[i]? with
    | some c => some (.str [c])
    | none => none)
  | x => match lsts x h with
    | some xs => some xs[i]?
    | none => none
def Src.at : Src → Nat → Hd → Option (Option D)
  | .sq x, i, h => sqAt x i h
  | .rng lo n, i, _ => some (if i < n then some (.int (lo + i)) else none)
  | .enm x, i, h => match sqAt x i h with
    | some (some d) => some (some (.tup [.int i, d]))
    | some none => some none
    | none => none
  | .zp x y, i, h => match sqAt x i h, sqAt y i h with
    | some (some a), some (some b) => some (some (.tup [a, b]))
    | some none, some _ => some none
    | some (some _), some none => some none
    | _, _ => none
def SrcOk (S : Su) (ρ0 : List Addr) (H0 : Hp) (src : Src) (J : It) : Prop := ∀ (ρ : List Addr) (h : Hd) (H : Hp) (i : Nat), Step ρ0 H0 ρ H → HR S ρ h H →
  (src.at i h = some none → J.stop i H) ∧ ∀ d, src.at i h = some (some d) → J.go i H ∧ ∀ x H', J.yld i H x H' → Step ρ H ρ H' ∧ HR S ρ h H' ∧ VR S.K ρ H' d x
theorem getE_none {α : Type} {xs : List α} {i : Nat} (h : xs[i]? = none) : xs.length ≤ i := by simpa using h
section
variable {S : Su} {ρ : List Addr} {H : Hp}
theorem so_tup {ds : List D} {a : Addr} {vs : List V} (q1 : SqT S.K H a vs) (q2 : VRs S.K ρ H ds vs) : SrcOk S ρ H (.sq (.tup ds)) (Itt S.K a) := fun ρ' h' H' i st hr => by
  have q1' := st.sqT q1
  have q2' := q2.mono st
  refine ⟨fun e => ?_, fun d e => ?_⟩
  · have e : some ds[i]? = some none := e
    have e' := getE_none (Option.some.inj e)
    exact ⟨vs, q1', by rw [← q2'.length]; exact e'⟩
  · have e : some ds[i]? = some (some d) := e
    obtain ⟨v, h1, h2⟩ := q2'.get (Option.some.inj e)
    refine ⟨⟨vs, v, q1', h1⟩, fun x H2 y => ?_⟩
    obtain ⟨rfl, hy⟩ := y
    have z := hy vs q1'
    rw [h1] at z
    cases z
    exact ⟨Step.refl, hr, h2⟩
theorem so_lst {x : D} {a : Addr} (r : VR S.K ρ H x (.ref a)) {hd : Hd} {xs : List D} (e0 : lsts x hd = some xs) : SrcOk S ρ H (.sq x) (Itl S.K a) := fun ρ' h' H' i st hr => by
  have r' := r.mono st
  have hx : ∀ y, Src.at (.sq x) i h' = some y → ∃ ys, lsts x h' = some ys ∧ ys[i]? = y := by
    intro y e
    cases x with
    | obj j =>
      have e : (match lsts (.obj j) h' with | some xs => some xs[i]? | none => none) = some y := e
      split at e
      · rename_i ys e2
        exact ⟨ys, e2, Option.some.inj e⟩
      · cases e
    | _ => cases e0
  refine ⟨fun e => ?_, fun d e => ?_⟩
  · obtain ⟨ys, e2, e3⟩ := hx _ e
    obtain ⟨j, b, vs, rfl, h1, h2, g, rs, _⟩ := lsts_of hr r' e2
    cases h1
    exact ⟨vs, SqL.of g, by rw [← rs.length]; exact getE_none e3⟩
  · obtain ⟨ys, e2, e3⟩ := hx _ e
    obtain ⟨j, b, vs, rfl, h1, h2, g, rs, _⟩ := lsts_of hr r' e2
    cases h1
    obtain ⟨v, z1, z2⟩ := rs.get e3
    refine ⟨⟨vs, v, SqL.of g, z1⟩, fun x H2 y => ?_⟩
    obtain ⟨rfl, hy⟩ := y
    have z := hy vs (SqL.of g)
    rw [z1] at z
    cases z
    exact ⟨Step.refl, hr, z2⟩
theorem so_str {l : List Nat} : SrcOk S ρ H (.sq (.str l)) (Its ⟨l.toArray⟩) := fun ρ' h' H' i st hr => by
  refine ⟨fun e => ?_, fun d e => ?_⟩
  · have e : some (match l[i]? with
      | some c => some (D.str [c])
      | none => none) = some none := e
    cases e2 : l[i]? with
    | some c => rw [e2] at e; cases e
    | none =>
      show (l.toArray).size ≤ i
      rw [List.size_toArray]
      exact getE_none e2
  · have e : some (match l[i]? with
      | some c => some (D.str [c])
      | none => none) = some (some d) := e
    cases e2 : l[i]? with
    | none => rw [e2] at e; cases e
    | some c =>
      rw [e2] at e
      cases e
      refine ⟨by show i < l.toArray.size; rw [List.size_toArray]; exact (List.getElem?_eq_some_iff.mp e2).1, fun x H2 y => ?_⟩
      obtain ⟨rfl, c', hc, rfl⟩ := y
      have hc : l.toArray[i]? = some c' := hc
      rw [List.getElem?_toArray, e2] at hc
      cases hc
      exact ⟨Step.refl, hr, .str [c]⟩
theorem so_rng {lo : Int} {n : Nat} : SrcOk S ρ H (.rng lo n) (Itr lo n) := fun ρ' h' H' i st hr => by
  refine ⟨fun e => ?_, fun d e => ?_⟩
  · have e : some (if i < n then some (D.int (lo + i)) else none) = some none := e
    by_cases h : i < n
    · rw [if_pos h] at e; cases e
    · exact Nat.le_of_not_lt h
  · have e : some (if i < n then some (D.int (lo + i)) else none) = some (some d) := e
    by_cases h : i < n
    · rw [if_pos h] at e
      cases e
      refine ⟨h, fun x H2 y => ?_⟩
      obtain ⟨rfl, rfl⟩ := y
      exact ⟨Step.refl, hr, .int _⟩
    · rw [if_neg h] at e; cases e
/-- a pair just made -/
theorem pair_ok {h' : Hd} {x y : D} {v w : V} {T : Addr} (hr : HR S ρ h' H) (n : H T = none) (r1 : VR S.K ρ H x v) (r2 : VR S.K ρ H y w) : Step ρ H ρ (upd H T (.tup [v, w])) ∧ HR S ρ h' (upd H T (.tup [v, w])) ∧ VR S.K ρ (upd H T (.tup [v, w])) (.tup [x, y]) (.ref T) := by
  have st : Step ρ H ρ (upd H T (.tup [v, w])) := Step.new n
  exact ⟨st, hr.new n, .tup (SqT.of upd_same) (.cons (r1.mono st) (.cons (r2.mono st) .nil))⟩
theorem so_enm {x : D} {a : Addr} (r : VR S.K ρ H x (.ref a)) {hd : Hd} {xs : List D} (e0 : lsts x hd = some xs) : SrcOk S ρ H (.enm x) (Ite S.K a) := fun ρ' h' H' i st hr => by
  have q := so_lst r e0 ρ' h' H' i st hr
  refine ⟨fun e => ?_, fun d e => ?_⟩
  · refine q.1 ?_
    have e : (match sqAt x i h' with
      | some (some d) => some (some (D.tup [.int i, d]))
      | some none => some none
      | none => none) = some none := e
    show sqAt x i h' = _
    split at e
    · cases e
    · assumption
    · cases e
  · have e : (match sqAt x i h' with
      | some (some d) => some (some (D.tup [.int i, d]))
      | some none => some none
      | none => none) = some (some d) := e
    split at e
    · rename_i d' e2
      cases e
      obtain ⟨z1, z2⟩ := q.2 d' e2
      obtain ⟨ws, v, k1, k2⟩ := z1
      refine ⟨⟨ws, v, k1, k2⟩, fun u H2 y => ?_⟩
      obtain ⟨T, w, rfl, hT, rfl, hy⟩ := y
      have z3 := (z2 w H' ⟨rfl, hy⟩).2.2
      exact pair_ok hr hT (.int _) z3
    · cases e
    · cases e
theorem so_zpL {x y : D} {a b : Addr} (r : VR S.K ρ H x (.ref a)) (r2 : VR S.K ρ H y (.ref b)) {hd : Hd} {xs ys : List D} (e0 : lsts x hd = some xs) (e1 : lsts y hd = some ys) : SrcOk S ρ H (.zp x y) (Itz S.K a b) := fun ρ' h' H' i st hr => by
  have q := so_lst r e0 ρ' h' H' i st hr
  have q2 := so_lst r2 e1 ρ' h' H' i st hr
  have lk : ∀ {x : D} {a : Addr}, VR S.K ρ H x (.ref a) → ∀ {zs}, lsts x hd = some zs → ∀ w, sqAt x i h' = some w → ∃ vs, SqL S.K H' a vs := by
    intro x a r zs ez w ew
    have : ∃ us, lsts x h' = some us := by
      cases x with
      | obj j =>
        have ew : (match lsts (.obj j) h' with | some xs => some xs[i]? | none => none) = some w := ew
        split at ew
        · exact ⟨_, by assumption⟩
        · cases ew
      | _ => cases ez
    obtain ⟨us, eu⟩ := this
    obtain ⟨j, b, vs, rfl, h1, h2, g, rs, _⟩ := lsts_of hr (r.mono st) eu
    cases h1
    exact ⟨vs, SqL.of g⟩
  refine ⟨fun e => ?_, fun d e => ?_⟩
  · have e : (match sqAt x i h', sqAt y i h' with
      | some (some a), some (some b) => some (some (D.tup [a, b]))
      | some none, some _ => some none
      | some (some _), some none => some none
      | _, _ => none) = some none := e
    split at e
    · cases e
    · rename_i w k1 k2
      obtain ⟨us, u1, u2⟩ := q.1 k1
      obtain ⟨ws, w1⟩ := lk r2 e1 _ k2
      exact ⟨us, ws, u1, w1, .inl u2⟩
    · rename_i w k1 k2
      obtain ⟨us, u1⟩ := lk r e0 _ k1
      obtain ⟨ws, w1, w2⟩ := q2.1 k2
      exact ⟨us, ws, u1, w1, .inr w2⟩
    · cases e
  · have e : (match sqAt x i h', sqAt y i h' with
      | some (some a), some (some b) => some (some (D.tup [a, b]))
      | some none, some _ => some none
      | some (some _), some none => some none
      | _, _ => none) = some (some d) := e
    split at e
    · rename_i c1 c2 k1 k2
      cases e
      obtain ⟨⟨us, u, u1, u2⟩, z1⟩ := q.2 _ k1
      obtain ⟨⟨ws, w, w1, w2⟩, z2⟩ := q2.2 _ k2
      refine ⟨⟨us, ws, u, w, u1, w1, u2, w2⟩, fun p H2 yy => ?_⟩
      obtain ⟨T, m1, m2, rfl, hT, rfl, hy1, hy2⟩ := yy
      exact pair_ok hr hT (z1 m1 H' ⟨rfl, hy1⟩).2.2 (z2 m2 H' ⟨rfl, hy2⟩).2.2
    · cases e
    · cases e
    · cases e
theorem so_zpT {xs ys : List D} {a b : Addr} {vs ws : List V} (p1 : SqT S.K H a vs) (p2 : VRs S.K ρ H xs vs) (p3 : SqT S.K H b ws) (p4 : VRs S.K ρ H ys ws) : SrcOk S ρ H (.zp (.tup xs) (.tup ys)) (RZ.ItzT S.K a b) := fun ρ' h' H' i st hr => by
  have q := so_tup p1 p2 ρ' h' H' i st hr
  have q2 := so_tup p3 p4 ρ' h' H' i st hr
  refine ⟨fun e => ?_, fun d e => ?_⟩
  · have e : (match some xs[i]?, some ys[i]? with
      | some (some a), some (some b) => some (some (D.tup [a, b]))
      | some none, some _ => some none
      | some (some _), some none => some none
      | _, _ => none) = some none := e
    split at e
    · cases e
    · rename_i w k1 k2
      obtain ⟨us, u1, u2⟩ := q.1 k1
      exact ⟨us, ws, u1, st.sqT p3, .inl u2⟩
    · rename_i w k1 k2
      obtain ⟨us, u1, u2⟩ := q2.1 k2
      exact ⟨vs, us, st.sqT p1, u1, .inr u2⟩
    · cases e
  · have e : (match some xs[i]?, some ys[i]? with
      | some (some a), some (some b) => some (some (D.tup [a, b]))
      | some none, some _ => some none
      | some (some _), some none => some none
      | _, _ => none) = some (some d) := e
    split at e
    · rename_i c1 c2 k1 k2
      cases e
      obtain ⟨⟨us, u, u1, u2⟩, z1⟩ := q.2 _ k1
      obtain ⟨⟨us', w, w1, w2⟩, z2⟩ := q2.2 _ k2
      refine ⟨⟨us, us', u, w, u1, w1, u2, w2⟩, fun p H2 yy => ?_⟩
      obtain ⟨T, m1, m2, rfl, hT, rfl, hy1, hy2⟩ := yy
      exact pair_ok hr hT (z1 m1 H' ⟨rfl, hy1⟩).2.2 (z2 m2 H' ⟨rfl, hy2⟩).2.2
    · cases e
    · cases e
    · cases e
end

/-! ### iterators -/
abbrev Ei := Sl → Hd → R Src
def dnI (S : Su) (W : WX) (e : Ei) : TI := fun σ H R => ∃ ρ ds hd, SR S.K ρ H ds σ ∧ HR S ρ hd H ∧ Fin S (SrcOk S) ρ H (fun c d H' => W c d σ H') (e ds hd) R
theorem PI.mono' {X : Cx} {tg e : Expr} {t u : TI} (h : PI X tg e t) (k : ∀ σ H R, u σ H R → t σ H R) : PI X tg e u := ⟨fun pins s σ H Q I q => h.run pins s σ H Q I (k σ H Q q)⟩
def iSeq (K : PySem.W.Frag) (te : TE) : TI := fun σ H R => te σ H fun x H1 => (∃ a xs, x = .ref a ∧ SqL K H1 a xs ∧ R (Itl K a) H1) ∨ (∃ a xs, x = .ref a ∧ SqT K H1 a xs ∧ R (Itt K a) H1) ∨ ∃ z, x = .str z ∧ R (Its z) H1
theorem pi_seq {X : Cx} {tg e : Expr} {te : TE} (he : PE X e te) : PI X tg e (iSeq X.K te) := by
  refine ⟨fun pins s σ H R I h => ?_⟩
  refine thn (he.run pins s σ H _ I h) fun v s1 ⟨x, H1, I1, r1, q1⟩ => ?_
  rcases q1 with ⟨a, xs, e, hq, q⟩ | ⟨a, xs, e, hq, q⟩ | ⟨z, e, q⟩
  · subst e
    cases r1
    obtain ⟨its, rv, p, hz⟩ := I1.list hq
    refine wpAny_pyIter_list p.isList ?_
    refine ⟨s1.heap.objs.size, [s1.heap.objs.size], _, _, H1, rfl, I1.kept (t' := s1.toks) fun b o e => Heap.get?_push_of_some _ e, turn_list a _, ⟨_, Heap.get?_push_size _ rfl, rfl, rfl⟩, fun b hb => ?_, q⟩
    have e : b = s1.heap.objs.size := by simpa using hb
    subst e
    exact I1.fpOk (Nat.le_refl _) (I1.hok.fresh (Nat.le_refl _))
  · subst e
    cases r1
    obtain ⟨its, rv, p, hz⟩ := I1.tuple hq
    refine wpAny_pyIter_tuple (show s1.heap.IsTuple a its.toArray from p) ?_
    refine ⟨s1.heap.objs.size, [s1.heap.objs.size], _, _, H1, rfl, I1.kept (t' := s1.toks) fun b o e => Heap.get?_push_of_some _ e, turn_tuple a _, ⟨_, Heap.get?_push_size _ rfl, rfl, rfl⟩, fun b hb => ?_, q⟩
    have e : b = s1.heap.objs.size := by simpa using hb
    subst e
    exact I1.fpOk (Nat.le_refl _) (I1.hok.fresh (Nat.le_refl _))
  · subst e
    obtain ⟨t, rfl⟩ := r1
    cases ha : z.cps.all (· < 128)
    · exact wpAny_pyIter_wide ha (pi_one (tk := s1.toks) I1 _ (turn_str _ z t "str_iterator" (.inr rfl)) ⟨_, Heap.get?_push_size _ rfl, rfl, rfl⟩ q)
    · exact wpAny_pyIter_ascii ha (pi_one (tk := s1.toks) I1 _ (turn_str _ z t "str_ascii_iterator" (.inl rfl)) ⟨_, Heap.get?_push_size _ rfl, rfl, rfl⟩ q)
def iSq (e : Ex) : Ei := fun s h => (e s h).bind fun x h1 => match x with
  | .tup xs => .ok (.sq (.tup xs)) h1
  | .str l => .ok (.sq (.str l)) h1
  | x => match lsts x h1 with
    | some _ => .ok (.sq x) h1
    | none => .no
section
variable {X : Cx} {S : Su} {W : WX} {tg e e' : Expr} {ee : Ex} {es : Exs} {p pos tpos : Pos}
theorem FinI.ok0 {ρ : List Addr} {hd : Hd} {H : Hp} {Wk : XK} {src : Src} {J : It} {R : It → Hp → Prop} (f : Fin S (SrcOk S) ρ H Wk (.ok src hd) R) (hr : HR S ρ hd H) (so : SrcOk S ρ H src J) : R J H := f ρ J H Step.refl hr so
theorem di_seq (hK : S.K = X.K) (he : PE X e (dn S W ee)) : PI X tg e (dnI S W (iSq ee)) := PI.mono' (pi_seq he) fun σ H R h => by
  obtain ⟨ρ, ds, hd, sr, hr, f⟩ := h
  refine ⟨ρ, ds, hd, sr, hr, Fin.bind (r := ee ds hd) f fun ρ1 h1 H1 x vx st hr1 vr f1 => ?_⟩
  rw [← hK]
  split at f1
  · cases vr with
    | tup q1 q2 => exact .inr (.inl ⟨_, _, rfl, q1, FinI.ok0 f1 hr1 (so_tup q1 q2)⟩)
  · cases vr
    exact .inr (.inr ⟨_, rfl, FinI.ok0 f1 hr1 so_str⟩)
  · split at f1
    · rename_i xs e
      have vr2 := vr
      obtain ⟨i, a, vs, rfl, rfl, _, g, rs, _⟩ := lsts_of hr1 vr e
      exact .inl ⟨a, vs, rfl, SqL.of g, FinI.ok0 f1 hr1 (so_lst vr2 e)⟩
    · exact f1.elim
def iRg1 (a : Exs) : Ei := fun s h => (a s h).bind fun xs h1 => match xs with
  | [.int j] => if -(2 ^ 62) ≤ j ∧ j < 2 ^ 62 then .ok (.rng 0 j.toNat) h1 else .no
  | _ => .no
theorem di_rng1 {a : Expr} (ha : PA X [a] (dnA S W es)) (hm : X.mg "range" = none) (hg : Gl X "range" := by rfl) (hs : starEach [a] X.env = [(false, eval a X.env)] := by rfl) : PI X tg (.Call (.Name "range" p) [a] [] pos) (dnI S W (iRg1 es)) := PI.mono' (pi_range1 hg hm ha hs) fun σ H R h => by
  obtain ⟨ρ, ds, hd, sr, hr, f⟩ := h
  refine ⟨ρ, ds, hd, sr, hr, Fin.bind (r := es ds hd) f fun ρ1 h1 H1 xs vs st hr1 vr f1 => ?_⟩
  split at f1
  · obtain ⟨v, rfl, r⟩ := vr.one
    cases r
    split at f1
    · rename_i hz
      exact ⟨_, rfl, hz.1, hz.2, FinI.ok0 f1 hr1 so_rng⟩
    · exact f1.elim
  · exact f1.elim
def iRg2 (a : Exs) : Ei := fun s h => (a s h).bind fun xs h1 => match xs with
  | [.int i, .int j] => if -(2 ^ 62) ≤ i ∧ i < 2 ^ 62 ∧ -(2 ^ 62) ≤ j ∧ j < 2 ^ 62 then .ok (.rng i (j - i).toNat) h1 else .no
  | _ => .no
theorem di_rng2 {a b : Expr} (ha : PA X [a, b] (dnA S W es)) (hm : X.mg "range" = none) (hg : Gl X "range" := by rfl) (hs : starEach [a, b] X.env = [(false, eval a X.env), (false, eval b X.env)] := by rfl) (hs2 : starEach [b] X.env = [(false, eval b X.env)] := by rfl) : PI X tg (.Call (.Name "range" p) [a, b] [] pos) (dnI S W (iRg2 es)) := PI.mono' (pi_range2 hg hm ha hs hs2) fun σ H R h => by
  obtain ⟨ρ, ds, hd, sr, hr, f⟩ := h
  refine ⟨ρ, ds, hd, sr, hr, Fin.bind (r := es ds hd) f fun ρ1 h1 H1 xs vs st hr1 vr f1 => ?_⟩
  split at f1
  · obtain ⟨v, w, rfl, r, r2⟩ := vr.two
    cases r
    cases r2
    split at f1
    · rename_i hz
      exact ⟨_, _, rfl, hz, FinI.ok0 f1 hr1 so_rng⟩
    · exact f1.elim
  · exact f1.elim
def iEn (a : Exs) : Ei := fun s h => (a s h).bind fun xs h1 => match xs with
  | [x] => match lsts x h1 with
    | some _ => .ok (.enm x) h1
    | none => .no
  | _ => .no
theorem di_enm {elts : List Expr} {kk : Nat} (hK : S.K = X.K) (ha : PA X [e] (dnA S W es)) (hm : X.mg "enumerate" = none) (hg : Gl X "enumerate" := by rfl) (hs : starEach [e] X.env = [(false, eval e X.env)] := by rfl) : PI X (.Tuple elts kk tpos) (.Call (.Name "enumerate" p) [e] [] pos) (dnI S W (iEn es)) := PI.mono' (pi_enum hg hm ha hs) fun σ H R h => by
  obtain ⟨ρ, ds, hd, sr, hr, f⟩ := h
  refine ⟨ρ, ds, hd, sr, hr, Fin.bind (r := es ds hd) f fun ρ1 h1 H1 xs vs st hr1 vr f1 => ?_⟩
  rw [← hK]
  split at f1
  · obtain ⟨v, rfl, r⟩ := vr.one
    split at f1
    · rename_i ys e
      have r2 := r
      obtain ⟨i, a, vs, rfl, rfl, _, g, rs, _⟩ := lsts_of hr1 r e
      exact ⟨a, vs, rfl, SqL.of g, FinI.ok0 f1 hr1 (so_enm r2 e)⟩
    · exact f1.elim
  · exact f1.elim
def iZp (a : Exs) : Ei := fun s h => (a s h).bind fun xs h1 => match xs with
  | [.tup x, .tup y] => .ok (.zp (.tup x) (.tup y)) h1
  | [x, y] => match lsts x h1, lsts y h1 with
    | some _, some _ => .ok (.zp x y) h1
    | _, _ => .no
  | _ => .no
theorem di_zip {elts : List Expr} {kk : Nat} (hK : S.K = X.K) (ha : PA X [e, e'] (dnA S W es)) (hm : X.mg "zip" = none) (hg : Gl X "zip" := by rfl) (hs : starEach [e, e'] X.env = (false, eval e X.env) :: starEach [e'] X.env := by rfl) (hpl : (backTo pos (starEach [e'] X.env)).any (·.1) = false := by rfl) :
    PI X (.Tuple elts kk tpos) (.Call (.Name "zip" p) [e, e'] [] pos) (dnI S W (iZp es)) := PI.mono' (RZ.pi_zipA hg hm ha hs hpl) fun σ H R h => by
  obtain ⟨ρ, ds, hd, sr, hr, f⟩ := h
  refine ⟨ρ, ds, hd, sr, hr, Fin.bind (r := es ds hd) f fun ρ1 h1 H1 xs vs st hr1 vr f1 => ?_⟩
  rw [← hK]
  split at f1
  · obtain ⟨v, w, rfl, r, r2⟩ := vr.two
    cases r with
    | tup q1 q2 =>
      cases r2 with
      | tup q3 q4 => exact ⟨_, _, _, _, rfl, .inr ⟨q1, q3, FinI.ok0 f1 hr1 (so_zpT q1 q2 q3 q4)⟩⟩
  · obtain ⟨v, w, rfl, r, r2⟩ := vr.two
    split at f1
    · rename_i ys zs e e2
      have r' := r
      have r2' := r2
      obtain ⟨i, a, vs, rfl, rfl, _, g, rs, _⟩ := lsts_of hr1 r e
      obtain ⟨j, b, ws, rfl, rfl, _, g2, rs2, _⟩ := lsts_of hr1 r2 e2
      exact ⟨a, b, vs, ws, rfl, .inl ⟨SqL.of g, SqL.of g2, FinI.ok0 f1 hr1 (so_zpL r' r2' e e2)⟩⟩
    · exact f1.elim
  · exact f1.elim
end
end Sh

end

section
set_option Elab.async false
set_option linter.all false
set_option maxRecDepth 100000
namespace Sh
open PySem L2

/-! ### targets -/
abbrev Gt := D → Sl → Hd → R Sl
abbrev TSl (S : Su) : List Addr → Hp → Sl → St → Prop := fun ρ H s σ => SR S.K ρ H s σ
def dnG (S : Su) (W : WX) (g : Gt) : TG := fun v σ H Q => ∃ ρ ds hd d, SR S.K ρ H ds σ ∧ HR S ρ hd H ∧ VR S.K ρ H d v ∧ Fin S (TSl S) ρ H (fun c d H' => W c d σ H') (g d ds hd) Q
abbrev Gts := List D → Sl → Hd → R Sl
def dnGs (S : Su) (W : WX) (g : Gts) : TGs := fun vs σ H Q => ∃ ρ ds hd xs, SR S.K ρ H ds σ ∧ HR S ρ hd H ∧ VRs S.K ρ H xs vs ∧ Fin S (TSl S) ρ H (fun c d H' => W c d σ H') (g xs ds hd) Q
theorem PG.mono' {X : Cx} {e : Expr} {t u : TG} (h : PG X e t) (k : ∀ v σ H Q, u v σ H Q → t v σ H Q) : PG X e u := ⟨fun pins s σ H v w Q I r q => h.run pins s σ H v w Q I r (k v σ H Q q)⟩
theorem PGs.mono' {X : Cx} {e : List Expr} {t u : TGs} (h : PGs X e t) (k : ∀ v σ H Q, u v σ H Q → t v σ H Q) : PGs X e u := ⟨fun pins s σ H v w Q I r q => h.run pins s σ H v w Q I r (k v σ H Q q)⟩
def gN (i : Nat) : Gt := fun d s h => .ok (s.set i (some d)) h
def gT (gs : Gts) : Gt := fun d s h => match d with
  | .tup xs => gs xs s h
  | _ => .no
def gs0 : Gts := fun xs s h => match xs with
  | [] => .ok s h
  | _ => .no
/-- an exception in a target's part is none of ours -/
def noX {α : Type} : R α → R α
  | .ok a h => .ok a h
  | _ => .no
def gs1 (g : Gt) (gs : Gts) : Gts := fun xs s h => match xs with
  | x :: r => (noX (g x s h)).bind fun s1 h1 => noX (gs r s1 h1)
  | _ => .no
/-- o[i] = d, o a list -/
def oSet (o i d : D) (h : Hd) : R Unit := match o, i with
  | .obj j, .int k => match h[j]? with
    | some (.lst xs) => match ixN xs.length k with
      | some n => .ok () (h.set j (.lst (xs.set n d)))
      | none => .no
    | _ => .no
  | _, _ => .no
def gSb (eo ei : Ex) : Gt := fun d s h => (eo s h).bind fun o h1 => (ei s h1).bind fun i h2 => (oSet o i d h2).bind fun _ h3 => .ok s h3
theorem Fin.nox {α β : Type} {S : Su} {T : List Addr → Hp → α → β → Prop} {ρ : List Addr} {H : Hp} {W W' : XK} {r : R α} {Q : β → Hp → Prop} (h : Fin S T ρ H W (noX r) Q) : Fin S T ρ H W' r Q := by
  cases r with
  | ok d h' => exact h
  | exc c fs h' => exact h.elim
  | no => exact h
theorem Fin.nox2 {α β : Type} {S : Su} {T : List Addr → Hp → α → β → Prop} {ρ : List Addr} {H : Hp} {W W' : XK} {r : R α} {Q : β → Hp → Prop} (h : Fin S T ρ H W (noX r) Q) : Fin S T ρ H W' (noX r) Q := by
  cases r with
  | ok d h' => exact h
  | exc c fs h' => exact h.elim
  | no => exact h
section
variable {X : Cx} {S : Su} {W : WX} {e : Expr} {es : List Expr} {g : Gt} {gs : Gts} {pos : Pos}
theorem dg_name (i : Nat) {x : Str} (hN : X.N.Nodup) (hi : X.N[i]? = some x := by rfl) (hx : Loc X.env.scope x := by first | exact .inl rfl | exact .inr rfl) (hf : X.fn x = true ∨ X.env.scope.names.lookup x = some .local := by first | exact .inr rfl | exact .inl rfl) : PG X (.Name x pos) (dnG S W (gN i)) := PG.mono' (pg_name hN hi hx hf) fun v σ H Q h => by
  obtain ⟨ρ, ds, hd, d, sr, hr, vr, f⟩ := h
  exact f ρ _ H Step.refl hr (sr.set i vr)
theorem dgs_nil : PGs X [] (dnGs S W gs0) := PGs.mono' pgs_nil fun v σ H Q h => by
  obtain ⟨ρ, ds, hd, xs, sr, hr, vr, f⟩ := h
  unfold gs0 at f
  split at f
  · cases vr
    exact ⟨rfl, f ρ _ H Step.refl hr sr⟩
  · exact f.elim
theorem dgs_cons (h1 : PG X e (dnG S W g)) (h2 : PGs X es (dnGs S W gs)) (hs : (assignEach (e :: es) X.env).map (·.2) = assign e X.env :: (assignEach es X.env).map (·.2) := by rfl) : PGs X (e :: es) (dnGs S W (gs1 g gs)) := PGs.mono' (pgs_cons h1 h2 hs) fun v σ H Q h => by
  obtain ⟨ρ, ds, hd, xs, sr, hr, vr, f⟩ := h
  unfold gs1 at f
  split at f
  · rename_i x r
    cases vr with
    | cons r1 r2 =>
      refine ⟨_, _, rfl, ρ, ds, hd, x, sr, hr, r1, Fin.nox (W := fun c d H' => W c d σ H') (Fin.bind (r := noX (g x ds hd)) f fun ρ1 h1 H1 s1 σ1 st hr1 sr1 f1 => ?_)⟩
      exact ⟨ρ1, s1, h1, r, sr1, hr1, r2.mono st, Fin.nox f1⟩
  · exact f.elim
theorem dg_tup {k n : Nat} (hK : S.K = X.K) (hc : X.calm = true) (h : PGs X es (dnGs S W gs)) (hl : ∀ xs ds hd, xs.length ≠ n → gs xs ds hd = .no) (hn : (assignEach es X.env).length = n := by rfl) (hst : (assignEach es X.env).findIdx? (·.1) = none := by rfl) : PG X (.Tuple es k pos) (dnG S W (gT gs)) := PG.mono' (pg_tup hc h hn hst) fun v σ H Q h => by
  obtain ⟨ρ, ds, hd, d, sr, hr, vr, f⟩ := h
  unfold gT at f
  split at f
  · rename_i xs
    cases vr with
    | tup q1 q2 =>
      rw [hK] at q1
      have hxs : xs.length = n := by
        apply Classical.byContradiction
        intro hne
        rw [hl xs ds hd hne] at f
        exact f.elim
      exact ⟨_, _, rfl, q1, by rw [← q2.length]; exact hxs, ρ, ds, hd, xs, sr, hr, q2, f⟩
  · exact f.elim
theorem gl0 : ∀ (xs : List D) (ds : Sl) (hd : Hd), xs.length ≠ 0 → gs0 xs ds hd = .no := fun xs ds hd h => by
  cases xs with
  | nil => exact absurd rfl h
  | cons x r => rfl
theorem gl1 {n : Nat} (hl : ∀ (xs : List D) (ds : Sl) (hd : Hd), xs.length ≠ n → gs xs ds hd = .no) : ∀ (xs : List D) (ds : Sl) (hd : Hd), xs.length ≠ n + 1 → gs1 g gs xs ds hd = .no := fun xs ds hd h => by
  cases xs with
  | nil => rfl
  | cons x r =>
    show (noX (g x ds hd)).bind _ = _
    cases e : g x ds hd with
    | ok s1 h1 =>
      show noX (gs r s1 h1) = _
      rw [hl r s1 h1 (fun e => h (by rw [List.length_cons, e]))]
      rfl
    | exc c fs h1 => rfl
    | no => rfl
theorem dg_sub {o i : Expr} {eo ei : Ex} (ho : PE X o (dn S W eo)) (hi : PE X i (dn S W ei))
    (ha : ∀ v, assign (.Subscript o i pos) X.env v = (do
      let ov ← holding [v] (eval o X.env)
      let iv ← holding [v, ov] (eval i X.env)
      standAt pos
      holding [v, ov, iv] (setItem ov iv v)
      release [v, ov, iv] []) := by intro _; rfl) : PG X (.Subscript o i pos) (dnG S W (gSb eo ei)) := PG.mono' (pg_sub ho hi set_list ha) fun v σ H Q h => by
  obtain ⟨ρ, ds, hd, d, sr, hr, vr, f⟩ := h
  refine ⟨ρ, ds, hd, sr, hr, Fin.bind (r := eo ds hd) f fun ρ1 h1 H1 x vx st hr1 rx f1 => ?_⟩
  refine ⟨ρ1, ds, h1, sr.mono st, hr1, Fin.bind (r := ei ds h1) f1 fun ρ2 h2 H2 y vy st2 hr2 ry f2 => ?_⟩
  have rx2 := rx.mono st2
  have rd := (vr.mono st).mono st2
  unfold oSet at f2
  split at f2
  · rename_i j k
    cases ry
    split at f2
    · rename_i xs e
      obtain ⟨a, vs, rfl, g, q, rs⟩ := hr2.lsto rx2 e
      split at f2
      · rename_i n en
        refine ⟨a, vs, k, n, rfl, rfl, q, by rw [← rs.length]; exact en, ?_⟩
        have st3 : Step ρ2 H2 ρ2 (upd H2 a (.lst (vs.set n v))) := Step.set g q rfl
        have f2 : Fin S (TSl S) ρ2 H2 (fun c d H' => W c d σ H') (.ok ds (h2.set j (.lst (xs.set n d)))) Q := f2
        exact f2 ρ2 σ _ st3 (hr2.set g (.lst upd_same ((rs.set n rd).mono st3))) (((sr.mono st).mono st2).mono st3)
      · exact f2.elim
    · exact f2.elim
  · exact f2.elim
end

/-! ### statements -/
def sSet (i : Nat) (e : Ex) : Sm := fun s h => rS (e s h) s fun d h1 => .nx (s.set i (some d)) h1
def sAsg (e : Ex) (g : Gt) : Sm := fun s h => rS (e s h) s fun d h1 => rS (g d s h1) s fun s2 h2 => .nx s2 h2
def sPar (i j : Nat) (a : Exs) : Sm := fun s h => rS (a s h) s fun xs h1 => match xs with
  | [x, y] => .nx ((s.set i (some x)).set j (some y)) h1
  | _ => .no
def sRet (e : Ex) : Sm := fun s h => rS (e s h) s fun d h1 => .rt d h1
def sRetN : Sm := fun _ h => .rt .non h
def sExp (e : Ex) : Sm := fun s h => rS (e s h) s fun _ h1 => .nx s h1
def sIf (t : Ext) (a b : Sm) : Sm := fun s h => rS (t s h) s fun c h1 => match c with
  | true => a s h1
  | false => b s h1
def sSq (a b : Sm) : Sm := fun s h => match a s h with
  | .nx s1 h1 => b s1 h1
  | r => r
def sPs : Sm := fun s h => .nx s h
def sBk : Sm := fun s h => .bk s h
def sCt : Sm := fun s h => .ct s h
def whR (t : Ext) (b : Sm) : Nat → Sm
  | 0 => fun _ _ => .no
  | f + 1 => fun s h => rS (t s h) s fun c h1 => match c with
    | true => match b s h1 with
      | .nx s2 h2 => whR t b f s2 h2
      | .ct s2 h2 => whR t b f s2 h2
      | .bk s2 h2 => .nx s2 h2
      | .rt d h2 => .rt d h2
      | .exc c fs s2 h2 => .exc c fs s2 h2
      | .no => .no
    | false => .nx s h1
def sWh (t : Ext) (b : Sm) : Sm := whR t b M
def foR (src : Src) (g : Gt) (b : Sm) : Nat → Nat → Sm
  | 0, _ => fun _ _ => .no
  | f + 1, i => fun s h => match src.at i h with
    | none => .no
    | some none => .nx s h
    | some (some d) => rS (g d s h) s fun s1 h1 => match b s1 h1 with
      | .nx s2 h2 => foR src g b f (i + 1) s2 h2
      | .ct s2 h2 => foR src g b f (i + 1) s2 h2
      | .bk s2 h2 => .nx s2 h2
      | .rt d h2 => .rt d h2
      | .exc c fs s2 h2 => .exc c fs s2 h2
      | .no => .no
def sFo (e : Ei) (g : Gt) (b : Sm) : Sm := fun s h => rS (e s h) s fun src h1 => foR src g b M 0 s h1
section
variable {X : Cx} {S : Su} {W : WX} {e : Expr} {ee : Ex} {es : Exs} {st : Stmt} {rest : List Stmt} {a b : Sm} {pos : Pos} {ta : Ext}
theorem ds_set (i : Nat) {x : Str} {pos' : Pos} (hN : X.N.Nodup) (he : PE X e (dn S W ee)) (hi : X.N[i]? = some x := by rfl) (hx : Loc X.env.scope x := by first | exact .inl rfl | exact .inr rfl) (hs : swapsWith e (some (.Name x pos')) pos.line X.env = pure false := by rfl) (hf : X.fn x = true ∨ X.env.scope.names.lookup x = some .local := by first | exact .inr rfl | exact .inl rfl) :
    PS X (.Assign [.Name x pos'] e pos) (dnS S W (sSet i ee)) := PS.mono' (ps_set hN hi hx he hs hf) fun E σ H h => by
  obtain ⟨ρ, ds, hd, sr, hr, f⟩ := h
  refine ⟨ρ, ds, hd, sr, hr, FinS.bind (r := ee ds hd) sr f fun ρ1 h1 H1 y vy st1 hr1 ry sr1 f1 => ?_⟩
  exact f1 ρ1 _ H1 Step.refl hr1 (sr1.set i ry)
theorem ds_asg {tg : Expr} {g : Gt} (he : PE X e (dn S W ee)) (hg : PG X tg (dnG S W g)) (hs : swapsWithSole [tg] e pos.line X.env = pure false := by rfl) (hw : swappedStores [tg] e X.env = pure none := by rfl) (h1 : (assignEach [tg] X.env).map (·.2) = [assign tg X.env] := by rfl) :
    PS X (.Assign [tg] e pos) (dnS S W (sAsg ee g)) := PS.mono' (ps_asg he hg hs hw h1) fun E σ H h => by
  obtain ⟨ρ, ds, hd, sr, hr, f⟩ := h
  refine ⟨ρ, ds, hd, sr, hr, FinS.bind (r := ee ds hd) sr f fun ρ1 h1 H1 y vy st1 hr1 ry sr1 f1 => ?_⟩
  refine ⟨ρ1, ds, h1, y, sr1, hr1, ry, FinS.bind (r := g y ds h1) sr1 f1 fun ρ2 h2 H2 s2 σ2 st2 hr2 sr2 _ f2 => ?_⟩
  exact f2 ρ2 σ2 H2 Step.refl hr2 sr2
theorem ds_par (i j : Nat) {x y : Str} {c d : Expr} {px py pt : Pos} {kt k2 pt2} (hc : X.calm = true) (hN : X.N.Nodup) (ha : PA X [c, d] (dnA S W es)) (hij : i ≠ j := by decide) (hi : X.N[i]? = some x := by rfl) (hj : X.N[j]? = some y := by rfl) (hx : X.env.scope.names.lookup x = some .local := by rfl) (hy : X.env.scope.names.lookup y = some .local := by rfl)
    (hw : swappedStores [.Tuple [.Name x px, .Name y py] kt pt] (.Tuple [c, d] k2 pt2) X.env = pure (some [x, y]) := by rfl)
    (hs : swapsWithSole [.Tuple [.Name x px, .Name y py] kt pt] (.Tuple [c, d] k2 pt2) pos.line X.env = pure false := by rfl) :
    PS X (.Assign [.Tuple [.Name x px, .Name y py] kt pt] (.Tuple [c, d] k2 pt2) pos) (dnS S W (sPar i j es)) := PS.mono' (ps_par hc hN hi hj hij hx hy ha hw hs) fun E σ H h => by
  obtain ⟨ρ, ds, hd, sr, hr, f⟩ := h
  refine ⟨ρ, ds, hd, sr, hr, FinS.bind (r := es ds hd) sr f fun ρ1 h1 H1 xs vs st1 hr1 rs sr1 f1 => ?_⟩
  split at f1
  · obtain ⟨v, w, rfl, r1, r2⟩ := rs.two
    exact ⟨v, w, rfl, f1 ρ1 _ H1 Step.refl hr1 ((sr1.set i r1).set j r2)⟩
  · exact f1.elim
theorem ds_ret (he : PE X e (dn S W ee)) : PS X (.Return (some e) pos) (dnS S W (sRet ee)) := PS.mono' (ps_ret he) fun E σ H h => by
  obtain ⟨ρ, ds, hd, sr, hr, f⟩ := h
  refine ⟨ρ, ds, hd, sr, hr, FinS.bind (r := ee ds hd) sr f fun ρ1 h1 H1 y vy st1 hr1 ry sr1 f1 => ?_⟩
  exact f1 ρ1 vy H1 Step.refl hr1 ry
theorem ds_retN : PS X (.Return none pos) (dnS S W sRetN) := PS.mono' ps_retN fun E σ H h => by
  obtain ⟨ρ, ds, hd, sr, hr, f⟩ := h
  exact f ρ _ H Step.refl hr .non
theorem ds_exp (he : PE X e (dn S W ee)) (hs : swapsWith e none pos.line X.env = pure false := by rfl) : PS X (.Expr e pos) (dnS S W (sExp ee)) := PS.mono' (ps_expr he hs) fun E σ H h => by
  obtain ⟨ρ, ds, hd, sr, hr, f⟩ := h
  refine ⟨ρ, ds, hd, sr, hr, FinS.bind (r := ee ds hd) sr f fun ρ1 h1 H1 y vy st1 hr1 ry sr1 f1 => ?_⟩
  exact f1 ρ1 σ H1 Step.refl hr1 sr1
theorem ds_if {c : Expr} {xs ys : List Stmt} (hc : PT X c (dnT S W ta)) (ha : PSs X xs (dnS S W a)) (hb : PSs X ys (dnS S W b)) : PS X (.If c xs ys pos) (dnS S W (sIf ta a b)) := PS.mono' (ps_if hc ha hb) fun E σ H h => by
  obtain ⟨ρ, ds, hd, sr, hr, f⟩ := h
  refine ⟨ρ, ds, hd, sr, hr, FinS.bind (r := ta ds hd) sr f fun ρ1 h1 H1 y vy st1 hr1 ry sr1 f1 => ?_⟩
  cases ry
  cases y with
  | true => rw [if_pos rfl]; exact ⟨ρ1, ds, h1, sr1, hr1, f1⟩
  | false => rw [if_neg (by simp)]; exact ⟨ρ1, ds, h1, sr1, hr1, f1⟩
theorem dss_one (h : PS X st (dnS S W a)) : PSs X [st] (dnS S W a) := pss_one h
theorem dss_nil : PSs X [] (dnS S W sPs) := PSs.mono' pss_nil fun E σ H h => by
  obtain ⟨ρ, ds, hd, sr, hr, f⟩ := h
  exact f ρ _ H Step.refl hr sr
theorem ds_pass : PS X (.Pass pos) (dnS S W sPs) := PS.mono' ps_pass fun E σ H h => by
  obtain ⟨ρ, ds, hd, sr, hr, f⟩ := h
  exact f ρ _ H Step.refl hr sr
theorem ds_break : PS X (.Break pos) (dnS S W sBk) := PS.mono' ps_break fun E σ H h => by
  obtain ⟨ρ, ds, hd, sr, hr, f⟩ := h
  exact f ρ _ H Step.refl hr sr
theorem ds_continue : PS X (.Continue pos) (dnS S W sCt) := PS.mono' ps_continue fun E σ H h => by
  obtain ⟨ρ, ds, hd, sr, hr, f⟩ := h
  exact f ρ _ H Step.refl hr sr
theorem ds_doc {x j pos'} : PS X (.Expr (.Constant (.str x) j pos) pos') (dnS S W sPs) := PS.mono' ps_doc fun E σ H h => by
  obtain ⟨ρ, ds, hd, sr, hr, f⟩ := h
  exact f ρ _ H Step.refl hr sr
theorem dss_cons (h1 : PS X st (dnS S W a)) (h2 : PSs X rest (dnS S W b)) : PSs X (st :: rest) (dnS S W (sSq a b)) := PSs.mono' (pss_cons h1 h2) fun E σ H h => by
  obtain ⟨ρ, ds, hd, sr, hr, f⟩ := h
  refine ⟨ρ, ds, hd, sr, hr, ?_⟩
  unfold sSq at f
  cases e : a ds hd with
  | nx s1 h1 =>
    rw [e] at f
    exact fun ρ' σ' H' st hr' sr' => ⟨ρ', s1, h1, sr', hr', FinS.mono st f⟩
  | rt d h1 => rw [e] at f; exact f
  | ct s1 h1 => rw [e] at f; exact f
  | bk s1 h1 => rw [e] at f; exact f
  | exc c fs s1 h1 => rw [e] at f; exact f
  | no => rw [e] at f; exact f
/-- loops' bodies -/
theorem FinS.loop {ρ : List Addr} {H : Hp} {r : RS} {E : Ends} {k : Sl → Hd → RS} {N : St → Hp → Prop}
    (h : FinS S W ρ H (match r with
      | .nx s2 h2 => k s2 h2
      | .ct s2 h2 => k s2 h2
      | .bk s2 h2 => .nx s2 h2
      | .rt d h2 => .rt d h2
      | .exc c fs s2 h2 => .exc c fs s2 h2
      | .no => .no) E) (hk : ∀ ρ' s2 h2 σ' H', Step ρ H ρ' H' → HR S ρ' h2 H' → SR S.K ρ' H' s2 σ' → FinS S W ρ' H' (k s2 h2) E → N σ' H') : FinS S W ρ H r { E with nx := N, ct := N, bk := E.nx } := by
  cases r with
  | nx s2 h2 => exact fun ρ' σ' H' st hr sr => hk ρ' s2 h2 σ' H' st hr sr (FinS.mono st h)
  | ct s2 h2 => exact fun ρ' σ' H' st hr sr => hk ρ' s2 h2 σ' H' st hr sr (FinS.mono st h)
  | bk s2 h2 => exact h
  | rt d h2 => exact h
  | exc c fs s2 h2 => exact h
  | no => exact h
theorem ds_while {c : Expr} {body : List Stmt} (hp : PassesOwn (model X.prog X.w) X.A X.env X.xe) (hc : PT X c (dnT S W ta)) (hb : PSs X body (dnS S W b)) : PS X (.While c body [] pos) (dnS S W (sWh ta b)) := PS.mono' (ps_while hp hc hb) fun E σ H h => by
  obtain ⟨ρ, ds, hd, sr, hr, f⟩ := h
  refine ⟨fun m σ H => ∃ ρ ds hd, SR S.K ρ H ds σ ∧ HR S ρ hd H ∧ FinS S W ρ H (whR ta b m ds hd) E, ⟨M, ρ, ds, hd, sr, hr, f⟩, ?_⟩
  rintro m σ H ⟨ρ, ds, hd, sr, hr, f⟩
  cases m with
  | zero => exact f.elim
  | succ m =>
    refine ⟨ρ, ds, hd, sr, hr, FinS.bind (r := ta ds hd) sr f fun ρ1 h1 H1 y vy st1 hr1 ry sr1 f1 => ?_⟩
    cases ry
    cases y with
    | false => rw [if_neg (by simp)]; exact f1 ρ1 _ H1 Step.refl hr1 sr1
    | true =>
      rw [if_pos rfl]
      refine ⟨fun σ' H' => ∃ ρ ds hd, SR S.K ρ H' ds σ' ∧ HR S ρ hd H' ∧ FinS S W ρ H' (whR ta b m ds hd) E, fun σ' H' n => ⟨m, Nat.lt_succ_self _, n⟩, ρ1, ds, h1, sr1, hr1, FinS.loop f1 ?_⟩
      exact fun ρ' s2 h2 σ' H' st hr sr f => ⟨ρ', s2, h2, sr, hr, f⟩
theorem ds_for {tg iter : Expr} {body : List Stmt} {ei : Ei} {g : Gt} (hp : PassesOwn (model X.prog X.w) X.A X.env X.xe) (hc : X.calm = true) (hi : PI X tg iter (dnI S W ei)) (hg : PG X tg (dnG S W g)) (hb : PSs X body (dnS S W b))
    (hs : ∀ x, foldedSetIterable iter X.env x = pure x := by intro _; rfl) : PS X (.For tg iter body [] pos) (dnS S W (sFo ei g b)) := PS.mono' (ps_for hp hc hi hg hb hs) fun E σ H h => by
  obtain ⟨ρ, ds, hd, sr, hr, f⟩ := h
  refine ⟨ρ, ds, hd, sr, hr, FinS.bind (r := ei ds hd) sr f fun ρ0 h0 H0 src J st0 hr0 so sr0 f0 => ?_⟩
  refine ⟨fun i m σ H => ∃ ρ ds hd, Step ρ0 H0 ρ H ∧ SR S.K ρ H ds σ ∧ HR S ρ hd H ∧ FinS S W ρ H (foR src g b m i ds hd) E, ⟨M, ρ0, ds, h0, Step.refl, sr0, hr0, f0⟩, ?_⟩
  rintro i m σ H ⟨ρ, ds, hd, stp, sr, hr, f⟩
  cases m with
  | zero => exact f.elim
  | succ m =>
    unfold foR at f
    obtain ⟨k1, k2⟩ := so ρ hd H i stp hr
    split at f
    · exact f.elim
    · rename_i e
      exact .inl ⟨k1 e, f ρ _ H Step.refl hr sr⟩
    · rename_i d e
      obtain ⟨go, yl⟩ := k2 d e
      refine .inr ⟨go, fun σ' H' => ∃ ρ ds hd, Step ρ0 H0 ρ H' ∧ SR S.K ρ H' ds σ' ∧ HR S ρ hd H' ∧ FinS S W ρ H' (foR src g b m (i + 1) ds hd) E, fun σ' H' n => ⟨m, Nat.lt_succ_self _, n⟩, fun x H' y => ?_⟩
      obtain ⟨stx, hrx, vx⟩ := yl x H' y
      have srx := sr.mono stx
      refine ⟨ρ, ds, hd, d, srx, hrx, vx, FinS.bind (r := g d ds hd) srx (FinS.mono stx f) fun ρ1 h1 H1 s1 σ1 st1 hr1 sr1 _ f1 => ?_⟩
      refine ⟨ρ1, s1, h1, sr1, hr1, FinS.loop f1 fun ρ' s2 h2 σ' H'' st2 hr2 sr2 f2 => ?_⟩
      exact ⟨ρ', s2, h2, ((stp.trans stx).trans st1).trans st2, sr2, hr2, f2⟩
end

/-! ### list comprehensions -/
inductive Tg where
  | nm (i : Nat)
  | tp (is : List Nat)
def setA : List Nat → List D → Sl → Option Sl
  | [], [], s => some s
  | i :: is, x :: xs, s => setA is xs (s.set i (some x))
  | _, _, _ => none
def Tg.run (t : Tg) (d : D) (s : Sl) : Option Sl := match t with
  | .nm i => some (s.set i (some d))
  | .tp is => match d with
    | .tup xs => setA is xs s
    | _ => none
def gNs : List Nat → TGs
  | [] => gNil
  | i :: is => gCons (gName i) (gNs is)
def Tg.sem (K : PySem.W.Frag) (t : Tg) : TG := match t with
  | .nm i => gName i
  | .tp is => gTup K is.length (gNs is)
def Tg.slots : Tg → List Nat
  | .nm i => [i]
  | .tp is => is
def wipeD (s : Sl) : List Nat → Sl
  | [] => s
  | v :: vs => (wipeD s vs).set v none
theorem SR.wipe {K : PySem.W.Frag} {ρ : List Addr} {H : Hp} {ds : Sl} {σ : St} (h : SR K ρ H ds σ) : ∀ vs : List Nat, SR K ρ H (wipeD ds vs) (wipe σ vs)
  | [] => h
  | v :: vs => (h.wipe vs).unset v
theorem wipe_get {σ : St} {vs : List Nat} {j : Nat} (h : j ∈ vs) (hl : j < σ.length) : (wipe σ vs)[j]? = some none := by
  induction vs with
  | nil => cases h
  | cons v vs ih =>
    unfold L2.wipe
    by_cases e : v = j
    · subst e
      rw [List.getElem?_set_self (by rw [wipe_length]; exact hl)]
    · rw [List.getElem?_set_ne e]
      rcases List.mem_cons.mp h with h | h
      · exact absurd h.symm e
      · exact ih h
theorem wipe_eq {σ τ : St} {vs : List Nat} (hl : σ.length = τ.length) (h : ∀ j, j ∉ vs → σ[j]? = τ[j]?) : wipe σ vs = wipe τ vs := by
  apply List.ext_getElem?
  intro j
  by_cases hj : j ∈ vs
  · by_cases hb : j < σ.length
    · rw [wipe_get hj hb, wipe_get hj (by rw [← hl]; exact hb)]
    · rw [List.getElem?_eq_none (by rw [wipe_length]; omega), List.getElem?_eq_none (by rw [wipe_length]; omega)]
  · rw [wipe_out hj, wipe_out hj, h j hj]
theorem wipe_wipe (σ : St) (vs : List Nat) : wipe (wipe σ vs) vs = wipe σ vs := wipe_eq (wipe_length σ vs) fun j hj => wipe_out hj
/-- the targets' stores -/
theorem setA_ok {S : Su} {ρ : List Addr} {H : Hp} {Q : St → Hp → Prop} {vs : List Nat} {τ : St} : ∀ {is : List Nat} {xs : List D} {ws : List V} {ds s' : Sl} {σ : St}, VRs S.K ρ H xs ws → SR S.K ρ H ds σ → (∀ i ∈ is, i ∈ vs) → L2.wipe σ vs = L2.wipe τ vs → setA is xs ds = some s' →
    (∀ σ', SR S.K ρ H s' σ' → L2.wipe σ' vs = L2.wipe τ vs → Q σ' H) → gNs is ws σ H Q
  | [], [], _, ds, s', σ, .nil, sr, hm, hw, e, k => by
    cases e
    exact ⟨rfl, k σ sr hw⟩
  | [], _ :: _, _, _, _, _, .cons _ _, _, _, _, e, _ => by cases e
  | _ :: _, [], _, _, _, _, .nil, _, _, _, e, _ => by cases e
  | i :: is, x :: xs, _, ds, s', σ, .cons r1 r2, sr, hm, hw, e, k => by
    refine ⟨_, _, rfl, setA_ok r2 (sr.set i r1) (fun j hj => hm j (List.mem_cons_of_mem _ hj)) ?_ e k⟩
    rw [← hw]
    refine wipe_eq (by simp) fun j hj => ?_
    rw [List.getElem?_set_ne]
    rintro rfl
    exact hj (hm _ (List.mem_cons_self ..))
theorem tg_ok {S : Su} {ρ : List Addr} {H : Hp} {Q : St → Hp → Prop} {vs : List Nat} {t : Tg} {d : D} {v : V} {ds s' : Sl} {σ τ : St} (r : VR S.K ρ H d v) (sr : SR S.K ρ H ds σ) (hm : ∀ i ∈ t.slots, i ∈ vs) (hw : L2.wipe σ vs = L2.wipe τ vs) (e : t.run d ds = some s')
    (k : ∀ σ', SR S.K ρ H s' σ' → L2.wipe σ' vs = L2.wipe τ vs → Q σ' H) : t.sem S.K v σ H Q := by
  cases t with
  | nm i =>
    cases e
    refine k _ (sr.set i r) ?_
    rw [← hw]
    refine wipe_eq (by simp) fun j hj => ?_
    rw [List.getElem?_set_ne]
    rintro rfl
    exact hj (hm _ (List.mem_singleton.mpr rfl))
  | tp is =>
    unfold Tg.run at e
    cases r with
    | tup q1 q2 =>
      have hl : ∀ {is : List Nat} {xs : List D} {ds s' : Sl}, setA is xs ds = some s' → xs.length = is.length := by
        intro is
        induction is with
        | nil => intro xs ds s' e; cases xs with
          | nil => rfl
          | cons _ _ => cases e
        | cons i is ih => intro xs ds s' e; cases xs with
          | nil => cases e
          | cons x xs => rw [List.length_cons, List.length_cons, ih e]
      exact ⟨_, _, rfl, q1, by rw [← q2.length]; exact hl e, setA_ok q2 sr hm hw e k⟩
    | _ => cases e
def coR (src : Src) (t : Tg) (tt : Ext) (te : Ex) : Nat → Nat → List D → Sl → Hd → R (List D)
  | 0, _, _, _, _ => .no
  | f + 1, i, acc, s, h => match src.at i h with
    | none => .no
    | some none => if acc.length ≤ M then .ok acc.reverse h else .no
    | some (some d) => match t.run d s with
      | none => .no
      | some s1 => (noX (tt s1 h)).bind fun b h2 => match b with
        | true => (noX (te s1 h2)).bind fun y h3 => if acc.length < M then coR src t tt te f (i + 1) (y :: acc) s h3 else .no
        | false => coR src t tt te f (i + 1) acc s h2
def eC_ (ei : Ei) (t : Tg) (vs : List Nat) (tt : Ext) (te : Ex) : Ex := fun s h => (ei s h).bind fun src h1 => (coR src t tt te M 0 [] (wipeD s vs) h1).bind fun xs h2 => newL xs h2
def tYs : Ext := fun _ h => .ok true h
/-- no exception -/
def W0 : WX := fun _ _ _ _ => False
/-- the loop's state: the new list lies at Da, outside of what is known -/
structure CoI (S : Su) (ρ0 : List Addr) (H0 : Hp) (Da : Addr) (acc : List D) (ρ : List Addr) (h : Hd) (H : Hp) : Prop where
  st : Step ρ0 H0 ρ H
  hr : HR S ρ h H
  out : Da ∉ ρ
  at_ : ∃ vs, H Da = some (.lst vs) ∧ VRs S.K ρ H acc.reverse vs
theorem Step.out {ρ ρ' : List Addr} {H H' : Hp} {a : Addr} {o : HO} (s : Step ρ H ρ' H') (n : a ∉ ρ) (e : H a = some o) : a ∉ ρ' := by
  obtain ⟨t, rfl, h⟩ := s.pre
  intro m
  rcases List.mem_append.mp m with m | m
  · exact n m
  · rw [h a m] at e; cases e
theorem CoI.step {S : Su} {ρ0 : List Addr} {H0 : Hp} {Da : Addr} {acc : List D} {ρ ρ' : List Addr} {h h' : Hd} {H H' : Hp} (c : CoI S ρ0 H0 Da acc ρ h H) (s : Step ρ H ρ' H') (hr : HR S ρ' h' H') : CoI S ρ0 H0 Da acc ρ' h' H' := by
  obtain ⟨vs, e, r⟩ := c.at_
  exact ⟨c.st.trans s, hr, s.out c.out e, vs, s.keep _ _ e (.inl c.out), r.mono s⟩
section
variable {X : Cx} {S : Su} {W : WX} {ei : Ei} {t : Tg} {vs : List Nat} {tt : Ext} {te : Ex}
theorem dn_co (hm : ∀ i ∈ t.slots, i ∈ vs) {σ : St} {H : Hp} {Q : VK} (h : dn S W (eC_ ei t vs tt te) σ H Q) : tLc (dnI S W ei) (t.sem S.K) (dnT S W0 tt) (dn S W0 te) vs σ H Q := by
  obtain ⟨ρ, ds, hd, sr, hr, f⟩ := h
  refine ⟨ρ, ds, hd, sr, hr, Fin.bind (r := ei ds hd) f fun ρ0 h0 H0 src J st0 hr0 so f0 => fun Da hD => ?_⟩
  have sr0 := sr.mono st0
  let Fi : Nat → Nat → Hp → Prop := fun i m H => ∃ ρ h acc, CoI S ρ0 H0 Da acc ρ h H ∧ FinV S ρ0 H0 (fun c d H' => W c d σ H') ((coR src t tt te m i acc (wipeD ds vs) h).bind fun xs h2 => newL xs h2) Q
  have hw0 : ∀ {ρ H}, Step ρ0 H0 ρ H → SR S.K ρ H (wipeD ds vs) (L2.wipe σ vs) := fun s => (sr0.mono s).wipe vs
  refine ⟨Fi, ⟨M, ρ0, h0, [], ⟨Step.new hD, hr0.new hD, hr0.notin hD, [], upd_same, .nil⟩, f0⟩, ?_⟩
  rintro i m H ⟨ρ, h, acc, C, f⟩
  cases m with
  | zero => exact f.elim
  | succ m =>
    unfold coR at f
    obtain ⟨k1, k2⟩ := so ρ h H i C.st C.hr
    split at f
    · exact f.elim
    · rename_i e
      refine .inl ⟨k1 e, ?_⟩
      split at f
      · rename_i hz
        obtain ⟨ws, e2, r2⟩ := C.at_
        have f : FinV S ρ0 H0 (fun c d H' => W c d σ H') (newL acc.reverse h) Q := f
        unfold newL at f
        rw [if_pos (by rw [List.length_reverse]; exact hz)] at f
        obtain ⟨tl, e3, hfresh⟩ := C.st.pre
        have wsx : WS S.K ρ H (ρ ++ [Da]) H := ⟨fun j a q => by rw [List.getElem?_append_left (List.getElem?_eq_some_iff.mp q).1]; exact q, fun _ _ q => q, fun _ _ q => q⟩
        refine f (ρ ++ [Da]) (.ref Da) H ⟨⟨tl ++ [Da], by rw [e3, List.append_assoc], fun a ha => ?_⟩, C.st.keep, C.st.there⟩ ?_ (.obj (by rw [← C.hr.len]; simp))
        · rcases List.mem_append.mp ha with ha | ha
          · exact hfresh a ha
          · rw [List.mem_singleton.mp ha]; exact hD
        · refine ⟨by simp [C.hr.len], ?_, fun j u a e1 e2' => ?_⟩
          · rw [List.nodup_append]
            refine ⟨C.hr.nd, by simp, fun a ha b hb e => ?_⟩
            rw [List.mem_singleton.mp hb] at e
            rw [e] at ha
            exact C.out ha
          · by_cases hi : j < ρ.length
            · rw [List.getElem?_append_left hi] at e2'
              rw [List.getElem?_append_left (by rw [← C.hr.len]; exact hi)] at e1
              have q := C.hr.at_ j u a e1 e2'
              cases q with
              | lst g1 g2 => exact .lst g1 (g2.ws wsx)
              | ins g1 g2 g3 => exact .ins g1 g2 (g3.ws wsx)
              | dct g1 g2 g3 => exact .dct g1 g2 (g3.ws wsx)
            · have hi' : ρ.length ≤ j := Nat.le_of_not_lt hi
              rw [List.getElem?_append_right hi'] at e2'
              rw [List.getElem?_append_right (by rw [← C.hr.len]; exact hi')] at e1
              rw [← C.hr.len] at e1
              have z : j - ρ.length = 0 := by
                cases w : j - ρ.length with
                | zero => rfl
                | succ m => rw [w] at e2'; simp at e2'
              rw [z] at e1 e2'
              simp at e1 e2'
              subst e1 e2'
              exact .lst e2 (r2.ws wsx)
      · exact f.elim
    · rename_i d e
      obtain ⟨go, yl⟩ := k2 d e
      refine .inr ⟨go, fun H' => Fi (i + 1) m H', fun H' n => ⟨m, Nat.lt_succ_self _, n⟩, fun x H' y => ?_⟩
      obtain ⟨stx, hrx, vx⟩ := yl x H' y
      have C1 := C.step stx hrx
      split at f
      · exact f.elim
      · rename_i s1 es1
        refine tg_ok (τ := σ) vx (hw0 C1.st) hm (wipe_wipe σ vs) es1 fun σ1 sr1 hw1 => ⟨hw1, ?_⟩
        cases e1 : tt s1 h with
        | no => rw [e1] at f; exact f.elim
        | exc c fs h' => rw [e1] at f; exact f.elim
        | ok b h2 =>
          rw [e1] at f
          refine ⟨ρ, s1, h, sr1, hrx, ?_⟩
          rw [e1]
          intro ρ2 b2 H2 st2 hr2 eb
          cases eb
          have C2 := C1.step st2 hr2
          have sr2 := sr1.mono st2
          cases b with
          | false =>
            rw [if_neg (by simp)]
            exact ⟨ρ2, h2, acc, C2, f⟩
          | true =>
            rw [if_pos rfl]
            have f : FinV S ρ0 H0 (fun c d H' => W c d σ H') (((noX (te s1 h2)).bind fun y h3 => if acc.length < M then coR src t tt te m (i + 1) (y :: acc) (wipeD ds vs) h3 else .no).bind fun xs h2 => newL xs h2) Q := f
            cases e2 : te s1 h2 with
            | no => rw [e2] at f; exact f.elim
            | exc c fs h' => rw [e2] at f; exact f.elim
            | ok y h3 =>
              rw [e2] at f
              refine ⟨ρ2, s1, h2, sr2, hr2, ?_⟩
              rw [e2]
              intro ρ3 vy H3 st3 hr3 ry
              have C3 := C2.step st3 hr3
              obtain ⟨ws, g1, g2⟩ := C3.at_
              have f : FinV S ρ0 H0 (fun c d H' => W c d σ H') ((if acc.length < M then coR src t tt te m (i + 1) (y :: acc) (wipeD ds vs) h3 else .no).bind fun xs h2 => newL xs h2) Q := f
              by_cases hz : acc.length < M
              · rw [if_pos hz] at f
                refine ⟨ws, g1, by rw [← g2.length, List.length_reverse]; exact M_lt hz, ρ3, h3, y :: acc, ?_, f⟩
                have wsx : WS S.K ρ3 H3 ρ3 (upd H3 Da (.lst (ws ++ [vy]))) := WS.upd g1
                refine ⟨⟨C3.st.pre, fun a o q c => ?_, fun a o q => ?_⟩, C3.hr.out C3.out g1, C3.out, ws ++ [vy], upd_same, ?_⟩
                · rw [upd_ne]
                  · exact C3.st.keep a o q c
                  · rintro rfl
                    rw [hD] at q
                    cases q
                · obtain ⟨o', q'⟩ := C3.st.there a o q
                  refine ⟨o', ?_⟩
                  rw [upd_ne]
                  · exact q'
                  · rintro rfl
                    rw [hD] at q
                    cases q
                · rw [List.reverse_cons]
                  exact (g2.append (.cons ry .nil)).ws wsx
              · rw [if_neg hz] at f
                exact f.elim
theorem dt_yes : PTs X [] (dnT S W0 tYs) := ⟨fun pins s σ H Q I h => pts_nil.run pins s σ H Q I (by
  obtain ⟨ρ, ds, hd, sr, hr, f⟩ := h
  exact f ρ true H Step.refl hr rfl)⟩
theorem dt_one {c : Expr} {ta : Ext} (h : PT X c (dnT S W0 ta)) : PTs X [c] (dnT S W0 ta) := pts_one h
theorem de_lc {elt tg iter : Expr} {ifs : List Expr} {scope : Scope} {own : List (Str × Nat)} {pos : Pos} (hK : S.K = X.K) (hc : X.calm = true) (hN : X.N.Nodup) (hi : PI X tg iter (dnI S W ei)) (ok : BlkOk X.N X.env.scope scope own)
    (hg : ∀ (s : Shared) (H : Hp) (C : Addr) (cl : List (Str × Addr)) (fp : List Addr), PG (X.blk s H scope (compEnvC scope cl C X.env) fp) tg (t.sem X.K)) (ht : ∀ (s : Shared) (H : Hp) (C : Addr) (cl : List (Str × Addr)) (fp : List Addr), PTs (X.blk s H scope (compEnvC scope cl C X.env) fp) ifs (dnT S W0 tt))
    (he : ∀ (s : Shared) (H : Hp) (C : Addr) (cl : List (Str × Addr)) (fp : List Addr), PE (X.blk s H scope (compEnvC scope cl C X.env) fp) elt (dn S W0 te)) (hm : ∀ i ∈ t.slots, i ∈ own.map (·.2) := by decide) (hs : ∀ x, foldedSetIterable iter X.env x = pure x := by intro _; rfl) :
    PE X (.ListComp elt [⟨tg, iter, ifs, 0⟩] scope pos) (dn S W (eC_ ei t (own.map (·.2)) tt te)) := PE.mono' (pe_lc hc hN hi ok (by rw [← hK] at hg; exact hg) ht he hs) fun σ H Q h => dn_co hm h
theorem ds_setLc (i : Nat) {y : Str} {py : Pos} {elt tg iter : Expr} {ifs : List Expr} {scope : Scope} {own : List (Str × Nat)} {pos spos : Pos} (hK : S.K = X.K) (hc : X.calm = true) (hN : X.N.Nodup) (hi : PI X tg iter (dnI S W ei)) (ok : BlkOk X.N X.env.scope scope own)
    (hg : ∀ (s : Shared) (H : Hp) (C : Addr) (cl : List (Str × Addr)) (fp : List Addr), PG (X.blk s H scope (compEnvC scope cl C X.env) fp) tg (t.sem X.K)) (ht : ∀ (s : Shared) (H : Hp) (C : Addr) (cl : List (Str × Addr)) (fp : List Addr), PTs (X.blk s H scope (compEnvC scope cl C X.env) fp) ifs (dnT S W0 tt))
    (he : ∀ (s : Shared) (H : Hp) (C : Addr) (cl : List (Str × Addr)) (fp : List Addr), PE (X.blk s H scope (compEnvC scope cl C X.env) fp) elt (dn S W0 te)) (hsw : swapsWith (.ListComp elt [⟨tg, iter, ifs, 0⟩] scope pos) (some (.Name y py)) spos.line X.env = pure true) (hm : ∀ i ∈ t.slots, i ∈ own.map (·.2) := by decide)
    (hy : X.N[i]? = some y := by rfl) (hyl : X.env.scope.names.lookup y = some .local := by rfl) (hs : ∀ x, foldedSetIterable iter X.env x = pure x := by intro _; rfl) :
    PS X (.Assign [.Name y py] (.ListComp elt [⟨tg, iter, ifs, 0⟩] scope pos) spos) (dnS S W (sSet i (eC_ ei t (own.map (·.2)) tt te))) := PS.mono' (ps_setLc hc hN hy hyl hsw hi ok (by rw [← hK] at hg; exact hg) ht he hs) fun E σ H h => by
  obtain ⟨ρ, ds, hd, sr, hr, f⟩ := h
  have q : dn S W (eC_ ei t (own.map (·.2)) tt te) σ H (fun x H1 => gName i x σ H1 E.nx) := by
    refine ⟨ρ, ds, hd, sr, hr, FinS.bind (r := eC_ ei t (own.map (·.2)) tt te ds hd) sr f fun ρ1 h1 H1 y vy st1 hr1 ry sr1 f1 => ?_⟩
    exact f1 ρ1 _ H1 Step.refl hr1 (sr1.set i ry)
  exact dn_co hm q
end
end Sh

end

section
set_option Elab.async false
set_option linter.all false
set_option maxRecDepth 100000
set_option maxHeartbeats 2000000
/-! own exceptions with one field, over any chain of own classes and a builtin one (lines of a worked proof of the kit turned to this claim: a class that stores its argument) -/
namespace PySem
namespace ExD
open PySem.W PySem.Calls PyProof.Rows PySem.HandSPX
theorem refsT_cases (tl : List Value) (l : List Value) (h : refsT tl l = true) : (∃ c r, l = .ref c :: r ∧ refsT tl r = true) ∨ l = tl := by
  unfold refsT at h
  split at h
  · exact .inl ⟨_, _, rfl, h⟩
  · exact .inr (beq_iff_eq.mp h)
/-- what the builtin end of the chain must have -/
structure Tail (tl : List Value) : Prop where
  ne : tl ≠ []
  obj : tl.contains (.type "object") = true
  pass : ∀ self, refuseLoop self "__setattr__" tl = pure ()
theorem refsT_contains {tl : List Value} (ht : Tail tl) (X : String) : ∀ l : List Value, refsT tl l = true → l.contains (.type X) = tl.contains (.type X) := by
  intro l
  induction l with
  | nil =>
    intro e
    rcases refsT_cases tl [] e with ⟨c, r', q, h⟩ | q
    · cases q
    · exact absurd q.symm ht.ne
  | cons a r ih =>
    intro e
    rcases refsT_cases tl (a :: r) e with ⟨c, r', q, h⟩ | q
    · obtain ⟨rfl, rfl⟩ := List.cons.inj q
      rw [List.contains_cons, ih h]; rfl
    · rw [q]
theorem refsT_pass {tl : List Value} (ht : Tail tl) (self : Value) : ∀ l : List Value, refsT tl l = true → refuseLoop self "__setattr__" l = pure () := by
  intro l
  induction l with
  | nil =>
    intro e
    rcases refsT_cases tl [] e with ⟨c, r', q, h⟩ | q
    · cases q
    · exact absurd q.symm ht.ne
  | cons a r ih =>
    intro e
    rcases refsT_cases tl (a :: r) e with ⟨c, r', q, h⟩ | q
    · obtain ⟨rfl, rfl⟩ := List.cons.inj q
      rw [refuseLoop_ref]; exact ih h
    · rw [q]; exact ht.pass self
theorem refsT_ne {tl l : List Value} (ht : Tail tl) (e : refsT tl l = true) : l.isEmpty = false := by
  cases l with
  | nil =>
    rcases refsT_cases tl [] e with ⟨c, r', q, h⟩ | q
    · cases q
    · exact absurd q.symm ht.ne
  | cons _ _ => rfl
theorem tailVE : Tail [.type "ValueError", .type "Exception", .type "BaseException", .type "object"] := ⟨by simp, by decide +kernel, fun self => F.store_ValueError.passes self⟩
theorem tailEX : Tail [.type "Exception", .type "BaseException", .type "object"] := ⟨by simp, by decide +kernel, fun self => F.store_Exception.passes self⟩
section
variable {prog : Program} {w : World} {A : Around} {R : Result → Shared → Prop} {hp : Heap} {g : Array GenState} {d : Drawn} {t : Nat} {os : OsState}
theorem exc_osaT {K : W.Frag} {name : Str} {tk : Tok} {v : Value} {x C : Addr} {fv : Array Value} {cd : ClassData} {tl : List Value} (ht : Tail tl)
    (X : K.In hp) (hx : hp.get? x = some { cls := .ref C, data := .fields fv }) (hcd : W.clsIn K C = some cd) (hm : refsT tl cd.mro = true) (hh : cd.hasDict = true) (ha : W.findIn K (.ref C) name = some none)
    (hq : ∀ h' tk' dx, (∀ b o, b ≠ x → hp.get? b = some o → h'.get? b = some o) → hp.objs.size ≤ dx → dx ≠ x → h'.get? x = some { cls := .ref C, dict := some dx, data := .fields fv } →
      h'.Ns1 dx (fun y => if y = name then some v else none) → R (.ok (.ret .none)) ⟨h', g, d, tk', os⟩) :
    codeAny (model prog w) A (.call (.builtin "object.__setattr__") ⟨[.ref x, .str name tk, v], []⟩) R ⟨hp, g, d, t, os⟩ := by
  have I : W.InstAt hp x { cls := .ref C, data := .fields fv } C none := ⟨hx, rfl, rfl, trivial⟩
  have SF := F.store_object
  have ne := refsT_ne ht hm
  have hob : cd.mro.contains (.type "object") = true := (refsT_contains ht "object" _ hm).trans ht.obj
  have hxs : x ≠ hp.objs.size := Nat.ne_of_lt (Heap.lt_size hx)
  have sub : W.Looks (model prog w) hp (isInstance (.ref x) (.type "object")) true := I.type.andThen (W.looks_mroIn X (by unfold W.mroIn; rw [hcd, Option.bind_some, if_neg (by rw [ne]; decide), hob]))
  refine codeAny_call_builtin SF.slot.plain SF.entry (@W.check_slot (model prog w) _ _ ⟨hp, g, d, t, os⟩ "object.__setattr__" "object" "__setattr__" (.ref x) [.str name tk, v] [] _ SF.kind SF.split sub (SF.args (.ref x) (.str name tk) v) ?_)
  have hmr : W.Looks (model prog w) hp (mroOf (.ref C)) cd.mro := (W.looks_clsIn X hcd).andThen .now
  have L3 : W.Looks (model prog w) hp (Builtin.ObjectAttr.storeTaker? none) none := .now
  have hcls : W.Looks (model prog w) hp (classData C) cd := W.looks_clsIn X hcd
  rw [W.osa_eq, refuse_eq]
  refine wpAny_bind (wpAny_bind (I.type.at (wpAny_bind (hmr.at ?_))))
  rw [refsT_pass ht _ _ hm]
  refine wpAny_pure (wpAny_bind (I.type.at (wpAny_bind ((W.looks_findIn X ha).at (wpAny_bind (L3.at ?_))))))
  show wpAny _ _ (Builtin.ObjectAttr.storeInOwnDict (.ref x) (.ref C) (.str name tk) name v false) _ _ _
  obtain ⟨nm, bs, mro, ns, qn, hd, sn, sb, ab, col, del⟩ := cd
  dsimp only at hh
  subst hh
  unfold Builtin.ObjectAttr.storeInOwnDict Builtin.ObjectAttr.ownDictForStores
  repeat (first | with_reducible refine store_in_new ?_ ?_ | with_reducible refine wpAny_loadPart_at hx ?_ | with_reducible refine hcls.at ?_ | wp_step)
  · exact ⟨_, #[], _, (Heap.get?_update_ne _ _ _ _ hxs.symm).trans (Heap.get?_push_at rfl rfl), rfl, fun e he => absurd he (by simp), fun _ => rfl⟩
  · intro h' tk' hn' hs
    have hx₁ : (hp.push { cls := .type "dict", data := .dict #[] }).get? x = some { cls := .ref C, data := .fields fv } := Heap.get?_push_of_some _ hx
    refine hq h' tk' hp.objs.size (fun b o hb ho => ?_) (Nat.le_refl _) hxs.symm ?_ hn'
    · exact (hs.2 b (Nat.ne_of_lt (Heap.lt_size ho))).trans ((Heap.get?_update_ne _ _ _ _ hb).trans (Heap.get?_push_of_some _ ho))
    · exact (hs.2 x hxs).trans (Heap.get?_update_self _ hx₁ rfl)
end
/-! ### the text of __init__ -/
def iA (fl : Str) (p1 p2 : Pos) : Arguments := { posonlyargs := [], args := [{ arg := "self", annotation := none, pos := p1 }, { arg := fl, annotation := none, pos := p2 }], vararg := none, kwonlyargs := [], kw_defaults := [], kwarg := none, defaults := [] }
def iB (fl : Str) (q1 q2 q3 q4 : Pos) : List Stmt := [.Assign [.Attribute (.Name "self" q1) fl q2] (.Name fl q3) q4]
def iS (fl : Str) : Scope := { kind := .function, names := [(PySem.Str.ofString "self", .local), (fl, .local)], isGenerator := false, isCoroutine := false, more := [] }
/-- what the written part says of the class, at C, and of its __init__, at fI; the field is called index -/
structure ExT (K : Frag) (mg : Str → Option Value) (x iq : Str) (tl : List Value) (newId : String) (C fI : Addr) : Prop where
  gC : mg x = some (.ref C)
  cls : ∃ nm q N bs bm sn sub ab col dd k0 k1 k2 k3 k5, K.lookup C = some (excClassObj nm q C N bs bm true sn sub ab col dd k0 k1 k2 k3 k5 newId) ∧ refsT tl bm = true
  sa : findIn K (.ref C) "__setattr__" = some (some (.builtin "object.__setattr__"))
  ga : findIn K (.ref C) "__getattribute__" = some (some (.builtin "BaseException.__getattribute__"))
  gg : findIn K (.ref C) "__getattr__" = some none
  noN : findIn K (.ref C) "index" = some none
  iC : findIn K (.ref C) "__init__" = some (some (.ref fI))
  tC : typeIn K (.ref fI) = some (.type "function")
  kC : keepIn K (.ref C) = true
  exC : subIn K (.ref C) (.type "BaseException") = some true
  tyC : typeIn K (.ref C) = some (.type "type")
  hdC : hasDictIn K C = true
  te : exmOne K (.ref C) (.ref C) = some true
  fn : ∃ (oc : Value) (od : Option Addr) (kV doc pm : Value) (an : Option Addr) (cdv ct : Value) (osl : Array (Option Value)) (p1 p2 q1 q2 q3 q4 : Pos),
    K.lookup fI = some ⟨oc, od, .func (fnOf "__init__" iq (iA "index" p1 p2) (iB "index" q1 q2 q3 q4) (iS "index") .none kV doc pm an cdv ct), osl⟩ ∧ codeIn K cdv iq = true
theorem one_size (v : Value) : [v].length ≤ sizeLine := by
  rw [sizeLine_eq]
  exact (by decide : 1 ≤ 16777216)
theorem ldC {M : Model} {s : Shared} {name : Str} {scope : Scope} {L a : Addr} {cd : Value} {m : Str → Option Value} {x : Str} {pos : Pos} {v : Value} {Q : Value → Shared → Prop} {A : Around} {E : Value → Shared → Prop} (hn : s.heap.Ns L m) (hv : m x = some v) (h : Q v s)
    (hk : scope.kind = .function := by rfl) (hl : (envOfC name scope L a cd).kindOf x = some .local := by rfl) (hd : (x == ("__debug__" : Str)) = false := by decide) :
    wpAny M A (eval (.Name x pos) (envOfC name scope L a cd)) Q E s := wpAny_Name (wpAny_loadName_local hk hl hn hv h) hd
structure InitEnd (h h' : Heap) (x C dx t1 : Addr) (v : Value) : Prop where
  keep : ∀ b o, b ≠ x → h.get? b = some o → h'.get? b = some o
  obj : h'.get? x = some { cls := .ref C, dict := some dx, data := .fields #[.ref t1, .none, .none, .none, .bool false, .none] }
  dbig : h.objs.size ≤ dx
  dne : dx ≠ x
  ns : h'.Ns1 dx (fun y => if y = "index" then some v else none)
structure OwnMade (h h' : Heap) (e C d : Addr) (v : Value) : Prop where
  keep : ∀ b o, h.get? b = some o → h'.get? b = some o
  new : h.objs.size ≤ e
  obj : ∃ oe vs, h'.get? e = some oe ∧ oe.cls = .ref C ∧ oe.dict = some d ∧ oe.data = .fields vs ∧ vs[1]? = some .none
  dbig : h.objs.size ≤ d
  dne : d ≠ e
  ns : h'.Ns1 d (fun y => if y = "index" then some v else none)
section
variable {prog : Program} {w : World} {A : Around} {E : Value → Shared → Prop} {R : Result → Shared → Prop} {s : Shared} {K : Frag} {mg : Str → Option Value} {C fI : Addr} {cx iq : Str} {tl : List Value} {newId : String}
theorem ex_init (ht : Tail tl) (T : ExT K mg cx iq tl newId C fI) {x t0 : Addr} {v : Value} (X : K.In s.heap) (hlim : s.heap.NoLimit) (hx : s.heap.get? x = some (excO C t0)) (hnx : K.lookup x = none) (hroom : A.depth < recursionLimit)
    (hq : ∀ h' tk dx, InitEnd s.heap h' x C dx t0 v → R (.ok (.ret .none)) { s with heap := h', toks := tk }) :
    codeAny (model prog w) A (.call (.ref fI) ⟨[.ref x, v], []⟩) R s := by
  obtain ⟨oc, od, kV, doc, pm, an, cdv, ct, osl, p1, p2, q1, q2, q3, q4, ho, hcd⟩ := T.fn
  obtain ⟨nm, q, N, bs, bm, sn, sub, ab, col, dd, k0, k1, k2, k3, k5, hC, hbm⟩ := T.cls
  have hcl : clsIn K C = some { name := nm, bases := bs, mro := .ref C :: bm, ns := N, qualname := q, hasDict := true, slotNames := sn, subclasses := sub, abstract := ab, collection := col, hasDel := false } := by unfold clsIn; rw [hC] <;> rfl
  refine Att.call_fn (binds := [("self", .ref x), ("index", v)]) X hlim ho hcd hroom (BindsTo.of_eq (by first | rfl | with_unfolding_all rfl)) (by first | rfl | decide | with_unfolding_all rfl) (fun s₁ IC => ?_) rfl rfl rfl
  obtain ⟨h₁, tk₁, rfl⟩ := IC.toInCall.same
  have k : ∀ b o, s.heap.get? b = some o → h₁.get? b = some o := IC.toInCall.keep
  have hn := IC.toInCall.ns
  have hxL : s.heap.objs.size ≠ x := Nat.ne_of_gt (Heap.lt_size hx)
  have X₁ : K.In h₁ := X.keeps k
  have hx₁ := k _ _ hx
  show wpAny _ _ (execs _ _) _ _ _
  refine wpAny_execs_cons (plainObj_wpAny_Assign_Attribute ?_)
  refine ldC (v := v) hn (by first | rfl | with_unfolding_all rfl | kernel_rfl) (ldC (v := .ref x) hn (by first | rfl | with_unfolding_all rfl | kernel_rfl) ?_)
  refine set_plain X₁ (ox := excO C t0) (od := none) ⟨hx₁, rfl, rfl, trivial⟩ T.sa ?_
  refine exc_osaT ht X₁ hx₁ hcl (show refsT tl (.ref C :: bm) = true from hbm) rfl T.noN (fun h₃ tk₃ dx k₃ dn dne hx₃ hn₃ => ?_)
  show wpAny _ _ (execs _ _) _ _ _
  have z : s.heap.objs.size < h₁.objs.size := hn.lt
  exact wpAny_execs_nil (hq h₃ tk₃ dx ⟨fun b o hb e => k₃ b o hb (k b o e), hx₃, Nat.le_of_lt (Nat.lt_of_lt_of_le z dn), dne, hn₃⟩)
theorem ex_made {B initId : String} (ht : Tail tl) (FB : ExcBaseFacts B newId initId tl) (T : ExT K mg cx iq tl newId C fI) {v : Value} (X : K.In s.heap) (hlim : s.heap.NoLimit) (hroom : A.depth + 1 < recursionLimit)
    (hq : ∀ h' tk e d, OwnMade s.heap h' e C d v → R (.ok (.ret (.ref e))) { s with heap := h', toks := tk }) :
    codeAny (model prog w) A (.call (.ref C) ⟨[v], []⟩) R s := by
  obtain ⟨nm, q, N, bs, bm, sn, sub, ab, col, dd, k0, k1, k2, k3, k5, hC, hbm⟩ := T.cls
  obtain ⟨hp, g, dr, tk, os⟩ := s
  have k : ∀ b o, hp.get? b = some o → ((hp.push (kdv_tup [v])).push (excO C hp.objs.size)).get? b = some o := fun b o e => Heap.get?_push_of_some _ (Heap.get?_push_of_some _ e)
  have hget : ((hp.push (kdv_tup [v])).push (excO C hp.objs.size)).get? (hp.objs.size + 1) = some (excO C hp.objs.size) := by heap_get
  have hnx : K.lookup (hp.objs.size + 1) = none := by
    cases e : K.lookup (hp.objs.size + 1) with
    | none => rfl
    | some o =>
      have z : hp.get? (hp.objs.size + 1) = some o := X _ _ e
      exact absurd (Nat.lt_of_succ_lt (Heap.lt_size z)) (Nat.lt_irrefl _)
  refine call_own FB (fun X => refsT_contains ht X bm hbm) (X _ _ hC) (looks_findIn X T.iC) (fun self => bind_fn X self T.tC) (one_size v) ?_
  refine ex_init (s := ⟨(hp.push (kdv_tup [v])).push (excO C hp.objs.size), g, dr, tk, os⟩) ht T (X.keeps k) (hlim.keeps k) hget hnx ?_ fun h' tk' dx ⟨k', hx, dn, dne, hns⟩ => ?_
  · show A.depth + 1 < recursionLimit
    exact hroom
  · have old : ∀ b o, hp.get? b = some o → h'.get? b = some o := fun b o e => k' b o (Nat.ne_of_lt (Nat.lt_succ_of_lt (Heap.lt_size e))) (k b o e)
    have z : hp.objs.size + 1 + 1 ≤ dx := by
      first
        | (simpa only [Heap.size_push] using dn)
        | exact dn
        | (have q := dn; rw [Heap.size_push, Heap.size_push] at q; exact q)
    exact ⟨rfl, hq h' tk' (hp.objs.size + 1) dx ⟨old, Nat.le_succ _, ⟨_, _, hx, rfl, rfl, rfl, rfl⟩, Nat.le_trans (Nat.le_trans (Nat.le_succ _) (Nat.le_succ _)) z, dne, hns⟩⟩
end
end ExD
end PySem
namespace Sh
open PySem PySem.Spec PyProof.Rows L2 PySem.ExD
theorem relO_ix {v : V} {v' : Value} (r : RelV v v') (f : Str) : RelO (List.lookup f [(("index" : Str), v)]) (if f = "index" then some v' else none) := by
  by_cases hw : f = "index"
  · subst hw
    rw [if_pos rfl]
    have q : List.lookup ("index" : Str) [(("index" : Str), v)] = some v := by simp [List.lookup]
    rw [q]
    exact r
  · rw [if_neg hw]
    have qw : (f == ("index" : Str)) = false := by simpa using hw
    have q2 : List.lookup f [(("index" : Str), v)] = none := by simp [List.lookup, qw]
    rw [q2]
    trivial
section
variable {X : Cx} {C fI : Addr} {cx iq : Str} {tl : List Value} {newId : String}
def tMkX (C : Addr) (ta : TA) : L2.St → Hp → XK → Prop := fun σ H Q => ta σ H fun vs H1 => ∃ v, vs = [v] ∧ ∀ d, H1 d = none → Q (.ref C) (some d) (upd H1 d (.xd [(("index" : Str), v)]))
theorem pmk_x {B initId : String} {a : Expr} {ta : TA} {p pos : Pos} {k : Nat} (ht : Tail tl) (FB : ExcBaseFacts B newId initId tl) (T : ExT X.K X.mg cx iq tl newId C fI) (hr : Room k X.A) (ha : PA X [a] ta) (hg : Gl X cx) (hdb : (cx == ("__debug__" : Str)) = false)
    (he : starEach (a :: []) X.env = (false, eval a X.env) :: starEach [] X.env := by rfl) (hpl : (backTo pos (starEach [] X.env)).any (·.1) = false := by rfl) :
    PMk X (.Call (.Name cx p) [a] [] pos) (tMkX C ta) := by
  intro pins s σ H Q I h
  refine wpAny_Call_Name_kw (ld_glob I hg T.gC ?_ hdb)
  refine PySem.W.callWith_K (h₀ := X.base) I.ok.mod.kin T.kC (thn (ha.run pos pins s σ H _ I h) fun us s1 hh => ?_) he hpl
  obtain ⟨vs, H1, I1, r1, v, ev, q1⟩ := hh
  subst ev
  refine ⟨I1.kIn, ?_⟩
  cases r1 with
  | cons rv rn =>
    rename_i v' us'
    cases rn
    show wpAny _ _ (call (.ref C) [v']) _ _ _
    have hlim := I1.nolimit
    obtain ⟨hp, g, dr, tk, os⟩ := s1
    refine wpAny_call (ex_made ht FB T I1.kIn hlim (by have := hr.dp; omega) fun h' tk' e d M => ?_)
    show MkP X pins σ Q (.ref e) ⟨h', g, dr, tk', os⟩
    obtain ⟨oe, fv, hoe, hc, hd, hdat, h1⟩ := M.obj
    have hns := M.ns
    obtain ⟨G', g1, g2⟩ := restrict h' fun b => decide (b ≠ e)
    have gk : ∀ b, b ≠ e → G'.get? b = h'.get? b := fun b hb => g1 b (decide_eq_true hb)
    have ge : G'.get? e = none := g2 e (by simp)
    have old : ∀ b o, hp.get? b = some o → G'.get? b = some o := fun b o q => (gk b (Nat.ne_of_lt (Nat.lt_of_lt_of_le (Heap.lt_size q) M.new))).trans (M.keep b o q)
    have ob : ObjOk X.prog X.w (upd H1 d (.xd [(("index" : Str), v)])) G' d (.xd [(("index" : Str), v)]) :=
      ⟨_, hns.at (fun o q => (gk d M.dne).trans q), fun f => relO_ix rv f⟩
    have J : Inv X pins σ (upd H1 d (.xd [(("index" : Str), v)])) ⟨G', g, dr, tk', os⟩ := I1.laid (t' := tk') old M.dbig ob
    refine ⟨e, oe, fv, ⟨G', g, dr, tk', os⟩, _, .ref C, some d, rfl, J, fun b o q => ?_, ge, hoe, ⟨hc, hd⟩, hdat, h1, ?_, rfl, I1.bare, raises_own T.exC T.tyC, q1 d (I1.hok.fresh M.dbig)⟩
    · by_cases hb : b = e
      · have q' : G'.get? b = some o := q
        rw [hb, ge] at q'; cases q'
      · exact (gk b hb).symm.trans q
    · rw [upd_ne (Ne.symm M.dne)]
      exact I1.hok.fresh M.new
/-- x.index, x the exception that the suite holds -/
def tByX (C : Addr) (a : Addr) (cls : Value) (d : Option Addr) (te : TE) : TE := fun σ H Q => te σ H fun x H1 => x = .ref a ∧ cls = .ref C ∧ ∃ (dd : Addr) (v : V), d = some dd ∧ H1 dd = some (.xd [(("index" : Str), v)]) ∧ Q v H1
theorem pe_byX {a : Addr} {oe : Obj} {cls : Value} {d : Option Addr} {pn : List (Addr × Obj)} {e : Expr} {te : TE} {pos : Pos} (T : ExT X.K X.mg cx iq tl newId C fI) (hz : Zc cls d oe) (hf : ∃ vs, oe.data = .fields vs) (he : PE (X.suite a ((a, oe) :: pn)) e te)
    (hb : attributeBase e "index" X.env (eval e X.env) = eval e X.env := by rfl) :
    PE (X.suite a ((a, oe) :: pn)) (.Attribute e "index" pos) (tByX C a cls d te) := by
  refine ⟨fun pins s σ H Q I h => ?_⟩
  refine attr_of hb (thn (he.run pins s σ H _ I h) fun u s1 hh => ?_)
  obtain ⟨x, H1, I1, rx, ex, ec, dd, v, ed, ea, q⟩ := hh
  subst ex
  obtain rfl : u = Value.ref a := rx
  subst ec
  subst ed
  obtain ⟨ha, _⟩ := I1.pin (a, oe) (List.mem_append_left _ List.mem_cons_self)
  obtain ⟨vs, hd⟩ := hf
  have hx : ObjOk X.prog X.w H1 s1.heap dd (.xd [(("index" : Str), v)]) := I1.hok dd _ ea
  obtain ⟨mA, hns, hr⟩ := hx
  obtain ⟨od, ho, hl⟩ := lookIn_ns hns
  have l : List.lookup ("index" : Str) [(("index" : Str), v)] = some v := by simp [List.lookup]
  obtain ⟨u, hu, ru⟩ := RelO.some_of (v := v) (o := mA "index") (by rw [← l]; exact hr "index")
  have J : PySem.W.InstAt s1.heap a oe C (some od) := ⟨ha, hz.1, by unfold PySem.W.notCls; rw [hd] <;> rfl, by rw [hz.2]; exact ho⟩
  exact HandSPX.exc_get I1.kIn J T.ga T.gg T.exC (PySem.W.findObj_own T.hdC T.noN rfl (by rw [hl, hu])) (handed_of ru) ⟨v, H1, I1.tok _, ru, q⟩
end

/-! ### raise, try -/
def sRz (c : Nat) (a : Exs) : Sm := fun s h => rS (a s h) s fun xs h1 => match xs with
  | [d] => .exc c [d] s h1
  | _ => .no
/-- try: .. except C as x: return (None, x.index) -/
def exRt (fs : List D) (h : Hd) : RS := match fs with
  | [d] => .rt (.tup [.non, d]) h
  | _ => .no
def sTr (c i : Nat) (b : Sm) : Sm := fun s h => match b s h with
  | .exc c' fs s1 h1 => if c' = c ∧ i < s1.length then exRt fs h1 else .no
  | .nx s1 h1 => .nx s1 h1
  | .rt d h1 => .rt d h1
  | .ct s1 h1 => .ct s1 h1
  | .bk s1 h1 => .bk s1 h1
  | .no => .no
theorem SR.hide {K : PySem.W.Frag} {ρ : List Addr} {H : Hp} {ds : Sl} {σ : L2.St} (i : Nat) (v : Option V) (h : SR K ρ H ds σ) : SR K ρ H (ds.set i none) (σ.set i v) := by
  refine ⟨by simp [h.len], fun j e q => ?_⟩
  by_cases hj : i = j
  · subst hj
    by_cases hl : i < ds.length
    · rw [List.getElem?_set_self hl] at q
      cases q
    · rw [List.getElem?_eq_none (by simpa using hl)] at q; cases q
  · rw [List.getElem?_set_ne hj] at q
    obtain ⟨w, a, b⟩ := h.at_ j e q
    exact ⟨w, by rw [List.getElem?_set_ne hj]; exact a, b⟩
/-- the suite's reading -/
def tSu (i : Nat) (C : Addr) : Addr → Value → Option Addr → TS := fun a cls d => tRet (tTup (tCons (tC .non) (tCons (tByX C a cls d (tVar i)) tNil)))
section
variable {X : Cx} {S : Su} {W : WX} {C fI : Addr} {cx iq : Str} {tl : List Value} {newId : String}
theorem ds_raise {B initId : String} {a : Expr} {es : Exs} {p pos pos2 : Pos} {k c : Nat} (hC : S.ca c = C) (hcf : S.cf c = [("index" : Str)]) (hc : X.calm = true) (ht : Tail tl) (FB : ExcBaseFacts B newId initId tl) (T : ExT X.K X.mg cx iq tl newId C fI) (hr : Room k X.A) (tk : Takes X W) (ha : PA X [a] (dnA S W es)) (hg : Gl X cx := by rfl) (hdb : (cx == ("__debug__" : Str)) = false := by decide)
    (he : starEach (a :: []) X.env = (false, eval a X.env) :: starEach [] X.env := by rfl) (hpl : (backTo pos (starEach [] X.env)).any (·.1) = false := by rfl) :
    PS X (.Raise (some (.Call (.Name cx p) [a] [] pos)) none pos2) (dnS S W (sRz c es)) := PS.mono' (ps_raise hc tk (pmk_x ht FB T hr ha hg hdb he hpl)) fun E σ H h => by
  obtain ⟨ρ, ds, hd, sr, hr, f⟩ := h
  refine ⟨ρ, ds, hd, sr, hr, FinS.bind (r := es ds hd) sr f fun ρ1 h1 H1 xs vs st1 hr1 rs sr1 f1 => ?_⟩
  split at f1
  · obtain ⟨v, rfl, r⟩ := rs.one
    refine ⟨v, rfl, fun d hd => ?_⟩
    have st : Step ρ1 H1 ρ1 (upd H1 d (.xd [(("index" : Str), v)])) := Step.new hd
    rw [← hC]
    exact f1 ρ1 σ d _ st (hr1.new hd) (sr1.mono st) ⟨[v], by rw [hcf]; exact upd_same, .cons (r.mono st) .nil⟩
  · exact f1.elim
theorem ds_try {n : Str} {c i : Nat} {body : List Stmt} {b : Sm} {np p1 p2 p3 p4 p5 pos pos' : Pos} {j k2} (hK : S.K = X.K) (hC : S.ca c = C) (hcf : S.cf c = [("index" : Str)]) (hs : X.stack = X.env :: X.outer) (hf : X.env.frame = some X.env.locals) (hN : X.N.Nodup) (hi : X.N[i]? = some n) (hln : X.env.kindOf n = some .local) (T : ExT X.K X.mg cx iq tl newId C fI) (tk : Takes X W)
    (hb : ∀ (W : WX) (pn : List (Addr × Obj)) (xe : Value → Shared → Prop), Takes (X.tr pn xe) W → PassesOwn (model X.prog X.w) X.A X.env xe → PSs (X.tr pn xe) body (dnS S W b))
    (hv : Vis X.env.scope n) (hg : Gl X cx := by rfl) (hdb : (cx == ("__debug__" : Str)) = false := by decide) (hdn : (n == ("__debug__" : Str)) = false := by decide) (hcn : (n == ("__classdict__" : Str)) = false := by decide)
    (h1 : ∀ (a : Addr) (pn : List (Addr × Obj)), starEach [.Constant .none j p1, .Attribute (.Name n p2) "index" p3] (X.suite a pn).env = (false, eval (.Constant .none j p1) (X.suite a pn).env) :: starEach [.Attribute (.Name n p2) "index" p3] (X.suite a pn).env := by intro _ _; rfl)
    (h2 : ∀ (a : Addr) (pn : List (Addr × Obj)), starEach [.Attribute (.Name n p2) "index" p3] (X.suite a pn).env = (false, eval (.Attribute (.Name n p2) "index" p3) (X.suite a pn).env) :: starEach [] (X.suite a pn).env := by intro _ _; rfl)
    (h3 : attributeBase (.Name n p2) "index" X.env (eval (.Name n p2) X.env) = eval (.Name n p2) X.env := by rfl) :
    PS X (.Try body [.ExceptHandler (some (.Name cx np)) (some n) [.Return (some (.Tuple [.Constant .none j p1, .Attribute (.Name n p2) "index" p3] k2 p4)) p5] pos'] [] [] pos) (dnS S W (sTr c i b)) := by
  have key := ps_try_as (X := X) (x := cx) (n := n) (c := .ref C) (i := i) (body := body) (pos := pos) (pos' := pos') (np := np) (tb := fun W => dnS S W b) (ts := tSu i C) (Wout := W) (suite := []) (b₀ := .Return (some (.Tuple [.Constant .none j p1, .Attribute (.Name n p2) "index" p3] k2 p4)) p5)
    hs hf hN hi hln ⟨hg, hdb, .inl T.gC⟩ tk hb (fun a oe cls d pn hz hfl => by
      have hvar : PE (X.suite a ((a, oe) :: pn)) (.Name n p2) (tVar i) := pe_var (X := X.suite a ((a, oe) :: pn)) hi hv hdn hcn
      exact pss_one (ps_ret (pe_tup (pa_cons pe_non (pa_cons (pe_byX T hz hfl hvar h3) pa_nil (h2 _ _)) (h1 _ _)))))
  refine PS.mono' key fun E σ H h => ?_
  obtain ⟨ρ, ds, hd, sr, hr, f⟩ := h
  refine ⟨ρ, ds, hd, sr, hr, ?_⟩
  unfold sTr at f
  cases e : b ds hd with
  | nx a h' => rw [e] at f; exact f
  | rt a h' => rw [e] at f; exact f
  | ct a h' => rw [e] at f; exact f
  | bk a h' => rw [e] at f; exact f
  | no => rw [e] at f; exact f
  | exc c' fs s1 h' =>
    rw [e] at f
    intro ρ' σ' dd H' st hr' sr' ex
    obtain ⟨vs, hx, rx⟩ := ex
    have g : FinS S W ρ H (if c' = c ∧ i < s1.length then exRt fs h' else .no) E := f
    clear f e
    by_cases hcc : c' = c ∧ i < s1.length
    · rw [if_pos hcc] at g
      obtain ⟨rfl, hlt⟩ := hcc
      cases fs with
      | nil => exact g.elim
      | cons d fr =>
        cases fr with
        | cons d2 fr => exact g.elim
        | nil =>
          obtain ⟨v, rfl, rv⟩ := rx.one
          rw [hcf] at hx
          have hx : H' dd = some (.xd [(("index" : Str), v)]) := hx
          refine ⟨true, by rw [hC]; exact T.te, fun _ a na => ?_, fun q => Bool.noConfusion q⟩
          have hil' : i < σ'.length := by
            rw [← sr'.len]
            exact hlt
          refine ⟨V.ref a, by rw [List.getElem?_set_self hil'], rfl, by rw [hC], dd, v, rfl, hx, ?_⟩
          refine ⟨by rw [sizeLine_eq]; show 2 ≤ 16777216; omega, fun p hp => ?_⟩
          have stp : Step ρ' H' ρ' (upd H' p (.tup [.non, v])) := Step.new hp
          exact g ρ' (.ref p) _ (st.trans stp) (hr'.new hp) (.tup (SqT.of upd_same) (.cons .non (.cons (rv.mono stp) .nil)))
    · rw [if_neg hcc] at g
      exact g.elim
end
end Sh

end

section
set_option Elab.async false
set_option linter.all false
set_option maxRecDepth 100000
set_option maxHeartbeats 2000000
namespace Sh
open PySem PySem.Spec PyProof.Rows L2

/-! ### what a def promises -/
abbrev Fn := List D → Hd → R D
def SpD (S : Su) (f : Fn) : Sp := fun vs H Q E => ∃ ρ ds hd, VRs S.K ρ H ds vs ∧ HR S ρ hd H ∧ FinV S ρ H E (f ds hd) Q
def toR : RS → R D
  | .nx _ h => .ok .non h
  | .rt d h => .ok d h
  | .exc c fs _ h => .exc c fs h
  | _ => .no
/-- a def of np parameters and n names -/
def fnR (np n : Nat) (b : Sm) : Fn := fun xs h => if xs.length = np then toR (b (xs.map some ++ List.replicate (n - np) none) h) else .no
theorem SR.start {K : PySem.W.Frag} {ρ : List Addr} {H : Hp} {ds : List D} {vs : List V} {N : List Str} (r : VRs K ρ H ds vs) : SR K ρ H (ds.map some ++ List.replicate (N.length - ds.length) none) (start N vs) := by
  have hl := r.length
  refine ⟨by unfold L2.start; simp [hl], fun i d e => ?_⟩
  have hi : i < ds.length := by
    apply Classical.byContradiction
    intro h
    have h' : ds.length ≤ i := Nat.le_of_not_lt h
    rw [List.getElem?_append_right (by simpa using h'), List.getElem?_replicate] at e
    split at e <;> cases e
  rw [List.getElem?_append_left (by simpa using hi), List.getElem?_map] at e
  cases e2 : ds[i]? with
  | none => rw [e2] at e; cases e
  | some d' =>
    rw [e2] at e
    cases e
    obtain ⟨v, h1, h2⟩ := r.get e2
    refine ⟨v, ?_, h2⟩
    unfold L2.start
    rw [List.getElem?_append_left (by simpa [← hl] using hi), List.getElem?_map, h1]
    rfl
theorem FinS.fn {S : Su} {ρ : List Addr} {H : Hp} {E : XK} {Q : VK} {r : RS} (f : FinV S ρ H E (toR r) Q) : FinS S (fun c d _ H' => E c d H') ρ H r { nx := fun _ H' => Q .non H', rt := Q } := by
  cases r with
  | nx s h => exact fun ρ' σ' H' st hr _ => f ρ' _ H' st hr .non
  | rt d h => exact fun ρ' v H' st hr rv => f ρ' v H' st hr rv
  | exc c fs s h => exact fun ρ' σ' dd H' st hr _ ex => f ρ' dd H' st hr ex
  | ct s h => exact f.elim
  | bk s h => exact f.elim
  | no => exact f.elim
section
variable {P : Program} {w : World} {mg : Str → Option Value} {base : Heap} {S : Su} {x qual : Str} {params : Arguments} {body : List Stmt} {scope : Scope} {f : Addr} {fd : FuncData}
theorem fn_D {N ps : List Str} {k : Nat} {b : Sm} (F : FunD S.K x qual params body scope [] [] f fd) (S0 : FnScope N ps scope)
    (hb : ∀ (cdv : Value) (A : Around) (outer : List Env) (s : Shared) (H : Hp) (E : XK), Room k (A.deeper (envOfC qual scope s.heap.objs.size f cdv)) →
      PSs (cxOf (L2.CX P w) P w S.K mg base N qual scope f cdv A outer s H E) body (dnS S (fun c d _ H' => E c d H') b)) : FnOk P w S.K mg base (L2.CX P w) (k + 1) f fd ps (SpD S (fnR ps.length N.length b)) := by
  refine F.ok S0 (fun vs H Q E h => ?_) fun cdv A outer s H vs Q E hr h => ⟨_, hb cdv A outer s H E hr, ?_⟩
  · obtain ⟨ρ, ds, hd, rs, hr, f⟩ := h
    unfold fnR at f
    split at f
    · rename_i hl
      rw [← rs.length]
      exact hl
    · exact f.elim
  · obtain ⟨ρ, ds, hd, rs, hr, f⟩ := h
    unfold fnR at f
    split at f
    · rename_i hl
      refine ⟨ρ, _, hd, SR.start (N := N) rs, hr, ?_⟩
      rw [hl]
      exact FinS.fn f
    · exact f.elim
theorem fn_no {k : Nat} {ps : List Str} : FnOk P w S.K mg base (L2.CX P w) k f fd ps (SpD S fun _ _ => .no) :=
  ⟨fun vs H Q E h => by obtain ⟨_, _, _, _, _, z⟩ := h; exact z.elim, fun _ _ _ _ _ _ _ _ _ _ _ _ _ h => by obtain ⟨_, _, _, _, _, z⟩ := h; exact z.elim⟩
end

/-! ### calls -/
section
variable {X : Cx} {S : Su} {W : WX} {k : Nat} {f C : Addr} {fd : FuncData} {ps : List Str} {g : Fn} {x m : Str} {p pos apos : Pos} {e o : Expr} {es : List Expr} {ea : Exs} {eo : Ex}
theorem de_call (F : FnOk X.prog X.w X.K X.mg X.base (L2.CX X.prog X.w) k f fd ps (SpD S g)) (hr : Room k X.A) (hm : X.mg x = some (.ref f)) (hk : PySem.W.keepIn X.K (.ref f) = true) (hb : Binds X.K fd ps []) (tk : Takes X W) (ha : PA X (e :: es) (dnA S W ea)) (hg : Gl X x := by rfl)
    (hdb : (x == ("__debug__" : Str)) = false := by decide) (he : starEach (e :: es) X.env = (false, eval e X.env) :: starEach es X.env := by rfl) (hpl : (backTo pos (starEach es X.env)).any (·.1) = false := by rfl) :
    PE X (.Call (.Name x p) (e :: es) [] pos) (dn S W (eB g ea)) := PE.mono' (pe_callSD (E := WE W) F hr hg hm hk hb .nil (fun σ => passAt tk σ) ha hdb he hpl) fun σ H Q h => by
  obtain ⟨ρ, ds, hd, sr, hr, f⟩ := h
  refine ⟨ρ, ds, hd, sr, hr, Fin.bind (r := ea ds hd) f fun ρ1 h1 H1 xs vs st hr1 vr f1 => ?_⟩
  rw [List.append_nil]
  exact ⟨ρ1, xs, h1, vr, hr1, f1⟩
theorem de_call0 (F : FnOk X.prog X.w X.K X.mg X.base (L2.CX X.prog X.w) k f fd ps (SpD S g)) (hr : Room k X.A) (hm : X.mg x = some (.ref f)) (hk : PySem.W.keepIn X.K (.ref f) = true) (hb : Binds X.K fd ps []) (tk : Takes X W) (hg : Gl X x := by rfl)
    (hdb : (x == ("__debug__" : Str)) = false := by decide) : PE X (.Call (.Name x p) [] [] pos) (dn S W (eB g as0)) := ⟨fun pins s σ H Q I h => by
  obtain ⟨ρ, ds, hd, sr, hr', fi⟩ := h
  refine wpAny_Call_Name_kw (ld_glob I hg hm ?_ hdb)
  exact PySem.W.callWith_K0 I.kIn hk (run_fnSD (E := WE W) (us := []) (vs := []) (dvs := []) F hr hb .nil (passAt tk σ) I .nil ⟨ρ, [], hd, .nil, hr', fi⟩)⟩
/-- the object is of class c -/
def eMt (c : Nat) (g : Fn) (o : Ex) (a : Exs) : Ex := fun s h => (o s h).bind fun x h1 => match x with
  | .obj j => match h1[j]? with
    | some (.ins c' _) => if c' = c then (a s h1).bind fun xs h2 => g (.obj j :: xs) h2 else .no
    | _ => .no
  | _ => .no
theorem lookup_zip_none {f : Str} : ∀ {ks : List Str} {vs : List V}, f ∉ ks → (ks.zip vs).lookup f = none
  | [], _, _ => by simp [List.lookup]
  | _ :: _, [], _ => by simp [List.lookup]
  | k :: ks, v :: vs, h => by
    have h1 : f ≠ k := fun e => h (by rw [e]; exact List.mem_cons_self ..)
    have h2 : f ∉ ks := fun e => h (List.mem_cons_of_mem _ e)
    have hb : (f == k) = false := by simpa using h1
    show List.lookup f ((k, v) :: ks.zip vs) = none
    rw [List.lookup_cons, hb]
    exact lookup_zip_none h2
theorem de_meth {c : Nat} {pl : Sem Bool} (hK : S.K = X.K) (hC : S.ca c = C) (hcf : m ∉ S.cf c) (ho : PE X o (dn S W eo)) (cl : Cls X.K C) (hm : Meth X.K C m f) (F : FnOk X.prog X.w X.K X.mg X.base (L2.CX X.prog X.w) k f fd ps (SpD S g)) (hr : Room k X.A) (hb : Binds X.K fd ps []) (tk : Takes X W) (ha : PA X (e :: es) (dnA S W ea))
    (hst : starEach (e :: es) X.env = (false, eval e X.env) :: starEach es X.env := by rfl) (hpl : (backTo pos (starEach es X.env)).any (·.1) = false := by rfl)
    (ht : eval (.Call (.Attribute o m apos) (e :: es) [] pos) X.env = (do
      let ov ← eval o X.env
      standAt apos.atName
      let (f, first) ← holding [ov] (getMethod ov m pl)
      callWith pos f first (backTo pos (starEach (e :: es) X.env)) (backToKw pos (keywordEach [] X.env))) := by rfl) :
    PE X (.Call (.Attribute o m apos) (e :: es) [] pos) (dn S W (eMt c g eo ea)) := ⟨fun pins s σ H Q I h => by
  obtain ⟨ρ, ds, hd, sr, hr', fi⟩ := h
  refine PySem.W.methodCall_KW (pl := pl) (thn (ho.run pins s σ H (fun x H1 => ∃ a dx fs, x = V.ref a ∧ H1 a = some (.ins C dx fs) ∧ fs.lookup m = none ∧ dnA S W ea σ H1 fun vs H2 => SpD S g (x :: vs) H2 Q (WE W σ)) I ⟨ρ, ds, hd, sr, hr', Fin.bind (r := eo ds hd) fi fun ρ1 h1 H1 x vx st hr1 vr f1 => ?_⟩) fun u s1 ⟨x, H1, I1, rx, a, dx, fs, ex, ea', l, q⟩ => ?_) ht
  · split at f1
    · rename_i j
      split at f1
      · rename_i c' fs e
        split at f1
        · rename_i hcc
          subst hcc
          have vr' := vr
          obtain ⟨a, rfl, g', ob⟩ := hr1.obj e vr
          cases ob with
          | ins q1 q2 q3 =>
            rw [hC] at q1
            refine ⟨a, _, _, rfl, q1, lookup_zip_none hcf, ρ1, ds, h1, sr.mono st, hr1, Fin.bind (r := ea ds h1) f1 fun ρ2 h2 H2 xs vs st2 hr2 rs f2 => ?_⟩
            exact ⟨ρ2, _, h2, .cons (vr'.mono st2) rs, hr2, f2⟩
        · exact f1.elim
      · exact f1.elim
    · exact f1.elim
  · subst ex
    obtain rfl : u = Value.ref a := rx
    refine getmeth_ok I1 ea' cl hm l ?_
    refine PySem.W.callWith_K (first := [.ref a]) (h₀ := X.base) I.ok.mod.kin hm.kp (thn (ha.run pos pins s1 σ H1 _ I1 q) fun us s2 ⟨vs, H2, I2, r, q2⟩ => ⟨I2.kIn, ?_⟩) hst hpl
    exact run_fnSD (E := WE W) (us := .ref a :: us) (vs := .ref a :: vs) (dvs := []) F hr hb .nil (passAt tk σ) I2 (.cons rfl r) (by rw [List.append_nil]; exact q2)⟩
theorem de_meth0 {c : Nat} {pl : Sem Bool} (hK : S.K = X.K) (hC : S.ca c = C) (hcf : m ∉ S.cf c) (ho : PE X o (dn S W eo)) (cl : Cls X.K C) (hm : Meth X.K C m f) (F : FnOk X.prog X.w X.K X.mg X.base (L2.CX X.prog X.w) k f fd ps (SpD S g)) (hr : Room k X.A) (hb : Binds X.K fd ps []) (tk : Takes X W)
    (ht : eval (.Call (.Attribute o m apos) [] [] pos) X.env = (do
      let ov ← eval o X.env
      standAt apos.atName
      let (f, first) ← holding [ov] (getMethod ov m pl)
      callWith pos f first (backTo pos (starEach [] X.env)) (backToKw pos (keywordEach [] X.env))) := by rfl) :
    PE X (.Call (.Attribute o m apos) [] [] pos) (dn S W (eMt c g eo as0)) := ⟨fun pins s σ H Q I h => by
  obtain ⟨ρ, ds, hd, sr, hr', fi⟩ := h
  refine PySem.W.methodCall_KW (pl := pl) (thn (ho.run pins s σ H (fun x H1 => ∃ a dx fs, x = V.ref a ∧ H1 a = some (.ins C dx fs) ∧ fs.lookup m = none ∧ SpD S g [x] H1 Q (WE W σ)) I ⟨ρ, ds, hd, sr, hr', Fin.bind (r := eo ds hd) fi fun ρ1 h1 H1 x vx st hr1 vr f1 => ?_⟩) fun u s1 ⟨x, H1, I1, rx, a, dx, fs, ex, ea', l, q⟩ => ?_) ht
  · split at f1
    · rename_i j
      split at f1
      · rename_i c' fs e
        split at f1
        · rename_i hcc
          subst hcc
          have vr' := vr
          obtain ⟨a, rfl, g', ob⟩ := hr1.obj e vr
          cases ob with
          | ins q1 q2 q3 =>
            rw [hC] at q1
            exact ⟨a, _, _, rfl, q1, lookup_zip_none hcf, ρ1, [.obj j], h1, .cons vr' .nil, hr1, f1⟩
        · exact f1.elim
      · exact f1.elim
    · exact f1.elim
  · subst ex
    obtain rfl : u = Value.ref a := rx
    refine getmeth_ok I1 ea' cl hm l ?_
    exact PySem.W.callWith_K0 (first := [.ref a]) I1.kIn hm.kp (run_fnSD (E := WE W) (us := [.ref a]) (vs := [.ref a]) (dvs := []) F hr hb .nil (passAt tk σ) I1 (.cons rfl .nil) q)⟩
/-- C(..) -/
def eMk (c : Nat) (g : Fn) (a : Exs) : Ex := fun s h => (a s h).bind fun xs h1 => (g (.obj h1.length :: xs) (h1 ++ [.ins c []])).bind fun r h2 => match r with
  | .non => .ok (.obj h1.length) h2
  | _ => .no
theorem run_makeS {E : L2.St → XK} {pins : List (Addr × Obj)} {σ : L2.St} {H : Hp} {s : Shared} {Q : VK} {us : List Value} {vs : List V} {sp : Sp} (M : Mk X.K C f) (F : FnOk X.prog X.w X.K X.mg X.base (L2.CX X.prog X.w) k f fd ps sp) (hr : Room (k + 1) X.A) (hb : Binds X.K fd ps [])
    (hx : PassesAt (L2.CX X.prog X.w) X σ (E σ)) (I : Inv X pins σ H s) (r : Vals vs us)
    (h : ∀ x dx, H x = none → H dx = none → dx ≠ x → sp (.ref x :: vs) (upd (upd H dx (.own x)) x (.ins C dx [])) (fun v H2 => v = .non ∧ Q (.ref x) H2) (E σ)) :
    wpAny (model X.prog X.w) X.A (call (.ref C) us) (EP X pins σ Q) X.xe s := by
  have hq := h (s.heap.objs.size + 1) s.heap.objs.size (I.hok.fresh (Nat.le_succ _)) (I.hok.fresh (Nat.le_refl _)) (Nat.ne_of_lt (Nat.lt_succ_self _))
  have I2 := Inv.made (C := C) I
  have r2 : Vals (V.ref (s.heap.objs.size + 1) :: vs) (Value.ref (s.heap.objs.size + 1) :: us) := .cons rfl r
  have hl : (Value.ref (s.heap.objs.size + 1) :: us ++ []).length = ps.length := by
    have e := r2.length
    rw [F.len _ _ _ _ hq] at e
    rw [List.append_nil]
    exact e.symm
  have hb' := hb _ (Value.ref (s.heap.objs.size + 1) :: us) I2.kIn hl
  rw [List.append_nil] at hb'
  refine wpAny_call (make_map (f := f) I.kIn M.makes M.init (beq_iff_eq.mp M.fn) (codeAny_mono (F.run _ X.stack _ _ ⟨Value.ref (s.heap.objs.size + 1) :: us, []⟩ (Value.ref (s.heap.objs.size + 1) :: us) _ _ (E σ) (hr.make C us [])
    (I2.env0.make C us []) hb' r2 hq) fun r s' hq' => ?_))
  cases r with
  | error e => exact hx pins _ _ e s' I2 hq'
  | ok fl =>
    cases fl with
    | ret u =>
      obtain ⟨v, H', I3, rv, ev, q3⟩ := I2.after hq'
      subst ev
      exact ⟨rv, ⟨V.ref (s.heap.objs.size + 1), H', I3, rfl, q3⟩⟩
    | next => exact False.elim hq'
    | brk => exact False.elim hq'
    | cont => exact False.elim hq'
theorem de_make {c : Nat} (hC : S.ca c = C) (M : Mk X.K C f) (F : FnOk X.prog X.w X.K X.mg X.base (L2.CX X.prog X.w) k f fd ps (SpD S g)) (hr : Room (k + 1) X.A) (hm : X.mg x = some (.ref C)) (hb : Binds X.K fd ps []) (tk : Takes X W) (ha : PA X (e :: es) (dnA S W ea)) (hg : Gl X x := by rfl)
    (hdb : (x == ("__debug__" : Str)) = false := by decide) (he : starEach (e :: es) X.env = (false, eval e X.env) :: starEach es X.env := by rfl) (hpl : (backTo pos (starEach es X.env)).any (·.1) = false := by rfl) :
    PE X (.Call (.Name x p) (e :: es) [] pos) (dn S W (eMk c g ea)) := ⟨fun pins s σ H Q I h => by
  obtain ⟨ρ, ds, hd, sr, hr', fi⟩ := h
  refine wpAny_Call_Name_kw (ld_glob I hg hm ?_ hdb)
  refine PySem.W.callWith_K (h₀ := X.base) I.ok.mod.kin M.kp (thn (ha.run pos pins s σ H (fun vs H1 => ∀ x dx, H1 x = none → H1 dx = none → dx ≠ x → SpD S g (.ref x :: vs) (upd (upd H1 dx (.own x)) x (.ins C dx [])) (fun v H2 => v = .non ∧ Q (.ref x) H2) (WE W σ)) I ⟨ρ, ds, hd, sr, hr', Fin.bind (r := ea ds hd) fi fun ρ1 h1 H1 xs vs st hr1 vr f1 => ?_⟩)
    fun us s1 ⟨vs, H1, I1, r, q⟩ => ⟨I1.kIn, run_makeS (E := WE W) M F hr hb (passAt tk σ) I1 r q⟩) he hpl
  intro x dx hx hdx hne
  have s1 : Step ρ1 H1 ρ1 (upd H1 dx (.own x)) := Step.new hdx
  have hx2 : (upd H1 dx (.own x)) x = none := by rw [upd_ne (Ne.symm hne)]; exact hx
  have s2 : Step ρ1 (upd H1 dx (.own x)) (ρ1 ++ [x]) (upd (upd H1 dx (.own x)) x (.ins C dx [])) := Step.new1 hx2
  have hr2 : HR S (ρ1 ++ [x]) (h1 ++ [.ins c []]) (upd (upd H1 dx (.own x)) x (.ins C dx [])) := (hr1.new hdx).push hx2 (by
    have z : OR S (ρ1 ++ [x]) (upd (upd H1 dx (.own x)) x (.ins C dx [])) (.ins c []) x := .ins (vs := []) (dx := dx) (by rw [hC, List.zip_nil_right]; exact upd_same) (Nat.zero_le _) .nil
    exact z)
  have st12 := s1.trans s2
  have hget : (ρ1 ++ [x])[h1.length]? = some x := by rw [← hr1.len]; simp
  refine ⟨ρ1 ++ [x], _, _, .cons (.obj hget) (vr.mono st12), hr2, ?_⟩
  refine Fin.bind (Fin.mono st12 f1) fun ρ3 h3 H3 r v3 st3 hr3 rr f3 => ?_
  split at f3
  · cases rr
    exact ⟨rfl, FinV.ok0 f3 hr3 (.obj (st3.get hget))⟩
  · exact f3.elim⟩
end
end Sh

end

section
set_option Elab.async false
set_option linter.all false
set_option maxRecDepth 100000
set_option maxHeartbeats 2000000
namespace RevL
open PySem PySem.Spec PyProof.Rows PySem.W RT
section
variable {prog : Program} {w : World} {A : Around} {E : Value → Shared → Prop} {s : Shared}
/-- list.extend of a reversed list, into an empty list at S -/
theorem rev_extend {R : Result → Shared → Prop} {it l S : Addr} {items : Array Value} {res : Value} {c₀ : Nat} (hh : A.handled = none) (hit : s.heap.IsRevIter it l ((items.size : Int) - 1)) (hl : s.heap.IsList l items) (hne : l ≠ it) (hn : items.size ≤ sizeLine)
    (hSi : S ≠ it) (hSl : S ≠ l) (hS : s.heap.get? S = some { cls := .type "list", data := .seq #[] c₀ })
    (hR : ∀ h' tk acc' c', (∀ b o, b ≠ S → b ≠ it → s.heap.get? b = some o → h'.get? b = some o) → h'.get? S = some { cls := .type "list", dict := none, data := .seq acc' c', slots := #[] } → ItemsOf (fun i v => items[items.size - 1 - i]? = some v) acc' items.size → R (.ok (.ret res)) { s with heap := h', toks := tk }) :
    wpAny (model prog w) A.in1 (Builtin.List.listExtendWith (.ref S) (.ref it) res)
      (fun fin s' => match fin with | .done f => R (.ok f) s' | .again c' => c'.quiet = true ∧ codeAny (model prog w) A c' R s') (fun e s' => R (.error e) s') s := by
  have W := (Walks.listRev (prog := prog) (w := w) (A := A.in1) hh it l hne items).toS
  have hSf : S ∉ [it, l] := by simp only [List.mem_cons, List.not_mem_nil, or_false, not_or]; exact ⟨hSi, hSl⟩
  have hT : s.TypeIs (.ref it) "list_reverseiterator" := Heap.IsRevIter.typeIs hit
  have h1 : Builtin.List.listSameRef (.ref S) (.ref it) = false := by simp [Builtin.List.listSameRef, hSi]
  unfold Builtin.List.listExtendWith
  refine wpAny_bind (wpAny_typeOf hT ?_)
  rw [if_neg (by rw [h1]; decide)]
  refine wpAny_bind (wpAny_pyIter_revIter hit ?_)
  refine wpAny_bind (wpAny_holding ?_)
  unfold Builtin.List.listLengthHint
  refine wpAny_bind (wpAny_specialOf hT nolen_lri ?_)
  show wpAny _ A.in1 (specialOf (Value.ref it) (Str.ofString "__length_hint__") >>= _) _ _ _
  refine wpAny_bind (wpAny_specialOf hT hint_lri ?_)
  generalize hid : ("list_reverseiterator.__length_hint__" : String) = id0
  wp_delta
  rw [show splitId id0 = some ("list_reverseiterator", "__length_hint__") from by subst hid; decide +kernel]
  subst hid
  refine wpAny_bind (wpAny_isInstance (b := true) hT (by rw [isSubtype_type]; kernel_rfl) ?_)
  refine wpAny_pure ?_
  rw [if_neg (by decide)]
  have e0 : ((items.size : Nat) : Int) - 1 - ((0 : Nat) : Int) = (items.size : Int) - 1 := by omega
  refine wpAny_pure ⟨plainId_quiet F.plain_extend_loop _, codeAny_extend_loopS W hn _ hSf _ items.size 0 _ #[] c₀ rfl (Nat.zero_le _) ⟨Nat.zero_le _, by rw [e0]; exact hit, hl⟩ hS (ItemsOf.nil _) fun s' acc' c' hm hS' hacc => ?_⟩
  rw [Moved.eq_with hm]
  refine hR s'.heap s'.toks acc' c' (fun b o hb hbi e => hm.heap b o (fun hmem => ?_) e) hS' hacc
  rcases List.mem_cons.mp hmem with e' | hmem
  · exact hb e'
  · exact hbi (List.mem_singleton.mp hmem)
theorem rev_init {R : Result → Shared → Prop} {it l S : Addr} {items : Array Value} (hh : A.handled = none) (hit : s.heap.IsRevIter it l ((items.size : Int) - 1)) (hl : s.heap.IsList l items) (hne : l ≠ it) (hn : items.size ≤ sizeLine)
    (hSi : S ≠ it) (hSl : S ≠ l) (hS : s.heap.get? S = some { cls := .type "list", data := .seq #[] })
    (hR : ∀ h' tk acc' c', (∀ b o, b ≠ S → b ≠ it → s.heap.get? b = some o → h'.get? b = some o) → h'.get? S = some { cls := .type "list", dict := none, data := .seq acc' c', slots := #[] } → ItemsOf (fun i v => items[items.size - 1 - i]? = some v) acc' items.size → R (.ok (.ret .none)) { s with heap := h', toks := tk }) :
    wpAny (model prog w) A.in1 (Builtin.«list.__init__» ⟨[.ref S, .ref it], []⟩)
      (fun fin s' => match fin with | .done f => R (.ok f) s' | .again c' => c'.quiet = true ∧ codeAny (model prog w) A c' R s') (fun e s' => R (.error e) s') s := by
  show wpAny _ _ (do let old ← Builtin.List.listItems (.ref S); Builtin.List.listUpdate (.ref S) (fun _ => #[]); letGo old.toList.reverse; Builtin.List.listExtendWith (.ref S) (.ref it) .none) _ _ s
  refine wpAny_bind ?_
  unfold Builtin.List.listItems
  refine wpAny_bind (wpAny_seqItems hS rfl (wpAny_pure ?_))
  show wpAny _ _ (updateSeq S (fun _ => #[]) >>= fun _ => letGo (#[] : Array Value).toList.reverse >>= fun _ => Builtin.List.listExtendWith (.ref S) (.ref it) .none) _ _ s
  refine wpAny_bind (wpAny_updateSeq hS rfl ?_)
  have hS₂ := Heap.get?_update_self (Obj.mapSeq (fun _ => (#[] : Array Value))) hS rfl
  have oth : ∀ b o, b ≠ S → s.heap.get? b = some o → (s.heap.update S (Obj.mapSeq (fun _ => (#[] : Array Value)))).get? b = some o :=
    fun b o hb e => (Heap.get?_update_other _ _ (Ne.symm hb)).trans e
  refine wpAny_bind (wpAny_letGo ?_)
  refine rev_extend hh (hit.at fun o e => oth _ _ (Ne.symm hSi) e) (let ⟨o, ho, x⟩ := hl; ⟨o, oth _ _ (Ne.symm hSl) ho, x⟩) hne hn hSi hSl hS₂ fun h' tk acc' c' hk hS' hacc => ?_
  exact hR h' tk acc' c' (fun b o hb hbi e => hk b o hb hbi (oth b o hb e)) hS' hacc
theorem rev_call {Q : Value → Shared → Prop} {it l : Addr} {items : Array Value} (hh : A.handled = none) (hit : s.heap.IsRevIter it l ((items.size : Int) - 1)) (hl : s.heap.IsList l items) (hne : l ≠ it) (hn : items.size ≤ sizeLine)
    (hQ : ∀ h' tk acc' c', (∀ b o, b ≠ it → s.heap.get? b = some o → h'.get? b = some o) → h'.get? s.heap.objs.size = some { cls := .type "list", dict := none, data := .seq acc' c', slots := #[] } → ItemsOf (fun i v => items[items.size - 1 - i]? = some v) acc' items.size → Q (.ref s.heap.objs.size) { s with heap := h', toks := tk }) :
    wpAny (model prog w) A (call (.type "list") [.ref it]) Q E s := by
  refine callType_codes (Q₁ := fun obj s₁ => obj = .ref s.heap.objs.size ∧ s₁ = { s with heap := s.heap.push { cls := .type "list", data := .seq #[] } }) PySem.F.called_list (PySem.F.typeCall_list_1 _) PySem.F.entry_list_init
    (code_list_new _ ⟨rfl, rfl⟩) fun obj s₁ h₁ => ?_
  obtain ⟨rfl, rfl⟩ := h₁
  have hS : (s.heap.push { cls := .type "list", data := .seq #[] }).get? s.heap.objs.size = some { cls := .type "list", data := .seq #[] } := Heap.get?_push_size _ rfl
  obtain ⟨oi, hoi, _⟩ := id hit
  obtain ⟨ol, hol, _⟩ := id hl
  refine ⟨⟨_, hS, rfl⟩, PySem.F.args_list_init_2 _ _, rev_init (A := A.in1) hh (hit.at fun o e => Heap.get?_push_of_some _ e) (hl.push _) hne hn (Nat.ne_of_gt (Heap.lt_size hoi)) (Nat.ne_of_gt (Heap.lt_size hol)) hS fun h' tk acc' c' hk hS' hacc => ?_⟩
  exact ⟨rfl, hQ h' tk acc' c' (fun b o hb e => hk b o (Nat.ne_of_lt (Heap.lt_size e)) hb (Heap.get?_push_of_some _ e)) hS' hacc⟩
end
end RevL
namespace Sh
open PySem PySem.Spec PyProof.Rows L2 RT
def tLstRev (K : PySem.W.Frag) (te : TE) : TE := fun σ H Q => te σ H fun v H1 => ∃ (a : Addr) (xs : List V), v = .ref a ∧ SqL K H1 a xs ∧ ∀ q, H1 q = none → Q (.ref q) (upd H1 q (.lst xs.reverse))
section
variable {X : Cx} {S : Su} {W : WX}
theorem pe_lstRev {e : Expr} {te : TE} {p p2 pos pos2 : Pos} (hc : X.calm = true) (hg : Gl X "list") (hm : X.mg "list" = none) (hg2 : Gl X "reversed") (hm2 : X.mg "reversed" = none) (he : PE X e te)
    (hs : starEach [e] X.env = (false, eval e X.env) :: starEach [] X.env)
    (hs2 : starEach [.Call (.Name "reversed" p2) [e] [] pos2] X.env = (false, eval (.Call (.Name "reversed" p2) [e] [] pos2) X.env) :: starEach [] X.env) :
    PE X (.Call (.Name "list" p) [.Call (.Name "reversed" p2) [e] [] pos2] [] pos) (tLstRev X.K te) := by
  refine ⟨fun pins s σ H Q I h => ?_⟩
  refine Call_ (ld_blt I hg hm boot_list (PyProof.Rows.callWith_type1 (args_cons (Call_ (ld_blt I hg2 hm2 PyProof.Rows.boot_reversed (PyProof.Rows.callWith_type1 (args_cons (thn (he.run pins s σ H _ I h) fun u s1 ⟨v, H1, I1, r1, q1⟩ => args_nil ?_) hs) hs rfl))) hs2) hs2 rfl))
  obtain ⟨a, xs, ev, hq, q⟩ := q1
  subst ev
  obtain rfl : u = Value.ref a := r1
  obtain ⟨its, rv, p', hz⟩ := I1.list hq
  refine call_reversed_list p'.isList (args_nil ?_)
  have k0 : ∀ b o, s1.heap.get? b = some o → (s1.heap.push (revObj a ((its.toArray.size : Int) - 1))).get? b = some o := fun b o e => Heap.get?_push_of_some _ e
  have I2 : L2.Inv X pins σ H1 { s1 with heap := s1.heap.push (revObj a ((its.toArray.size : Int) - 1)) } := I1.kept (t' := s1.toks) k0
  obtain ⟨f0, f1, f2, f3, f4, f5⟩ := I1.fpOk (H' := H1) (b := s1.heap.objs.size) (Nat.le_refl _) (I1.hok.fresh (Nat.le_refl _))
  have hl := p'.isList
  obtain ⟨ol, hol, _⟩ := id hl
  have hne : a ≠ s1.heap.objs.size := Nat.ne_of_lt (Heap.lt_size hol)
  have hn : its.toArray.size ≤ sizeLine := by rw [List.size_toArray, ← rv.length]; exact hz
  have hz1 : (s1.heap.push (revObj a ((its.toArray.size : Int) - 1))).objs.size = s1.heap.objs.size + 1 := Heap.size_push _ _
  refine RevL.rev_call (s := { s1 with heap := s1.heap.push (revObj a ((its.toArray.size : Int) - 1)) }) (it := s1.heap.objs.size) (l := a) (I1.ok.hd hc) ⟨_, Heap.get?_push_size _ rfl, rfl, rfl⟩ (hl.push _) hne hn fun h' tk acc c' hk hS hi => ?_
  have hfr : H1 (s1.heap.push (revObj a ((its.toArray.size : Int) - 1))).objs.size = none := I1.hok.fresh (by rw [hz1]; exact Nat.le_succ _)
  refine ⟨.ref (s1.heap.push (revObj a ((its.toArray.size : Int) - 1))).objs.size, upd H1 (s1.heap.push (revObj a ((its.toArray.size : Int) - 1))).objs.size (.lst xs.reverse), ?_, rfl, q _ hfr⟩
  refine I2.turnedNew (t' := tk) (ch := [s1.heap.objs.size]) (T := (s1.heap.push (revObj a ((its.toArray.size : Int) - 1))).objs.size) (fun b o hb e => hk b o (fun z => hb (by simp [z])) e) (fun b hb => ?_) (Nat.le_refl _) ?_
  · rw [List.mem_singleton.mp hb]
    exact ⟨f0, f1, f2, f3, f4, f5⟩
  · show ObjOk X.prog X.w _ _ _ (.lst xs.reverse)
    exact ⟨by rw [List.length_reverse]; exact hz, acc.toList, c', vals_rev rv hi, by rw [Array.toArray_toList]; exact hS⟩
def oRev (x : D) (h : Hd) : R D := match lsts x h with
  | some xs => newL xs.reverse h
  | none => .no
theorem de_lstRev {e : Expr} {ee : Ex} {p p2 pos pos2 : Pos} (hK : S.K = X.K) (hc : X.calm = true) (hm : X.mg "list" = none) (hm2 : X.mg "reversed" = none) (he : PE X e (dn S W ee)) (hg : Gl X "list" := by rfl) (hg2 : Gl X "reversed" := by rfl)
    (hs : starEach [e] X.env = (false, eval e X.env) :: starEach [] X.env := by rfl)
    (hs2 : starEach [.Call (.Name "reversed" p2) [e] [] pos2] X.env = (false, eval (.Call (.Name "reversed" p2) [e] [] pos2) X.env) :: starEach [] X.env := by rfl) :
    PE X (.Call (.Name "list" p) [.Call (.Name "reversed" p2) [e] [] pos2] [] pos) (dn S W (e1 oRev ee)) := PE.mono' (pe_lstRev hc hg hm hg2 hm2 he hs hs2) fun σ H Q h => by
  obtain ⟨ρ, ds, hd, sr, hr, f⟩ := h
  refine ⟨ρ, ds, hd, sr, hr, Fin.bind (r := ee ds hd) f fun ρ1 h1 H1 x vx st hr1 vr f1 => ?_⟩
  unfold oRev at f1
  split at f1
  · rename_i xs e
    obtain ⟨i, a, vs, rfl, rfl, _, g, rs, _⟩ := lsts_of hr1 vr e
    rw [← hK]
    exact ⟨a, vs, rfl, SqL.of g, (FinV.newL f1 hr1 rs.reverse).2⟩
  · exact f1.elim
/-- split of two texts of the program -/
theorem de_splitC {x y : Str} {j j2} {p p2 : Pos} {apos pos : Pos} (ls : List (List Nat)) (hl : Txt.split x y = ls.map fun l => (⟨l.toArray⟩ : Str)) (hz : (y.length == 0) = false ∧ x.length + 2 ≤ sizeLine)
    (hs : starEach [.Constant (.str y) j2 p2] X.env = [(false, eval (.Constant (.str y) j2 p2) X.env)] := by rfl) (hbase : attributeBase (.Constant (.str x) j p) "split" X.env (eval (.Constant (.str x) j p) X.env) = eval (.Constant (.str x) j p) X.env := by rfl) (hline : (apos.endLine == pos.line) = true := by rfl) :
    PE X (.Call (.Attribute (.Constant (.str x) j p) "split" apos) [.Constant (.str y) j2 p2] [] pos) (dn S W (fun _ h => newL (ls.map D.str) h)) := PE.mono' (pe_split pe_str pe_str hs hbase hline) fun σ H Q h => by
  obtain ⟨ρ, ds, hd, sr, hr, f⟩ := h
  refine ⟨⟨_, rfl⟩, x, y, rfl, rfl, hz.1, hz.2, ?_⟩
  unfold rNewStrs
  rw [hl]
  refine (FinV.newL f hr ?_).2
  clear hl f
  induction ls with
  | nil => exact .nil
  | cons l ls ih => exact .cons (.str l) ih
/-- divmod -/
theorem cs_dm {S : Su} : CalS S (fun xs H Q => ∃ i j, xs = [.int i, .int j] ∧ CDiv i j ∧ ∀ p, H p = none → Q (.ref p) (upd H p (.tup [.int (i / j), .int (i % j)]))) oDm := by
  intro ρ hd H W xs vs Q hr rs f
  unfold oDm at f
  split at f
  · obtain ⟨v, w, rfl, r, q⟩ := rs.two
    cases r; cases q
    split at f
    · rename_i hz
      exact ⟨_, _, rfl, hz, FinV.tup f hr (.cons (.int _) (.cons (.int _) .nil))⟩
    · exact f.elim
  · exact f.elim
end
end Sh

end

section
set_option Elab.async false
set_option linter.all false
set_option maxRecDepth 100000
set_option maxHeartbeats 2000000
/-! enumerate over a tuple (after the kit's enumerate over a list) -/
namespace PySem
open AutoSeq1 (wpAny_loadPart')
theorem meets_enumerate_newT (l : Addr) (items : Array Value) (n : Nat) (dct : Option Addr) (sl : Array (Option Value)) :
    Meets (Builtin.«enumerate.__new__» ⟨[.type "enumerate", .ref l], []⟩) (fun _ R s => s.heap.get? l = some { cls := .type "tuple", dict := dct, data := .seq items n, slots := sl } ∧
      R (.ok (.ret (.ref (s.heap.push { cls := .type "tuple_iterator", data := .fields #[.ref l, .int 0 0] }).objs.size)))
        { s with heap := (s.heap.push { cls := .type "tuple_iterator", data := .fields #[.ref l, .int 0 0] }).push { cls := .type "enumerate", data := .fields #[.none, .bool false, .ref s.heap.objs.size, rawInt 0, .none, .none] } }) :=
  .of_wp fun prog w A R s h => by
    obtain ⟨hp, g, d, tk, os⟩ := s; obtain ⟨hl, h⟩ := h
    have hsub := sub_enumerate
    have hL : Heap.IsTuple (Shared.heap ⟨hp, g, d, tk, os⟩) l items := ⟨_, hl, rfl, n, rfl⟩
    wp_walk using wpAny_loadPart' hl
    refine wpAny_stack_any fun st => wpAny_pure ?_
    split
    · rename_i c _ _ _ _ _
      cases (c == Value.type "enumerate")
      · wp_walk using wpAny_loadPart' hl, wpAny_pyIter_tuple hL
        exact ⟨_, rfl, h⟩
      · wp_walk using wpAny_loadPart' hl, wpAny_pyIter_tuple hL
        exact ⟨_, rfl, h⟩
    · wp_walk using wpAny_loadPart' hl, wpAny_pyIter_tuple hL
      exact ⟨_, rfl, h⟩
section
variable {prog : Program} {w : World} {A : Around} {E : Value → Shared → Prop} {s : Shared}
theorem call_enumerate_tuple {l : Addr} {items : Array Value} {Q : Value → Shared → Prop} (hL : s.heap.IsTuple l items)
    (h : ∀ h', IsEnum h' (s.heap.objs.size + 1) s.heap.objs.size 0 .none → h'.IsTupleIter s.heap.objs.size l 0 → h'.objs.size = s.heap.objs.size + 2 →
      (∀ b o, s.heap.get? b = some o → h'.get? b = some o) → Q (.ref (s.heap.objs.size + 1)) { s with heap := h' }) :
    wpAny (model prog w) A (call (.type "enumerate") [.ref l]) Q E s := by
  obtain ⟨⟨c, dct, dt, sl⟩, hl, hc, n, hd⟩ := hL
  replace hc : c = .type "tuple" := hc
  replace hd : dt = .seq items n := hd
  subst hc hd
  refine callType_new F.called_enumerate (by decide) (F.typeCall_enumerate_1 _) (F.newCall_enumerate_1 _) (fun obj => F.args_object_init_2 obj _) F.entry_enumerate_new
    (meets_enumerate_newT l items n dct sl) ⟨hl, ?_⟩
  have hz : (s.heap.push { cls := .type "tuple_iterator", data := .fields #[.ref l, .int 0 0] }).objs.size = s.heap.objs.size + 1 := Heap.size_push ..
  show _ ∧ _
  rw [hz]
  have he : IsEnum ((s.heap.push { cls := .type "tuple_iterator", data := .fields #[.ref l, .int 0 0] }).push
      { cls := .type "enumerate", data := .fields #[.none, .bool false, .ref s.heap.objs.size, rawInt 0, .none, .none] }) (s.heap.objs.size + 1) s.heap.objs.size 0 .none := by
    have := Heap.get?_push_size (s.heap.push { cls := .type "tuple_iterator", data := .fields #[.ref l, .int 0 0] })
      (o := { cls := .type "enumerate", data := .fields #[.none, .bool false, .ref s.heap.objs.size, rawInt 0, .none, .none] }) rfl
    rw [hz] at this; exact this
  refine ⟨⟨_, he, rfl⟩, h _ he ⟨_, Heap.get?_push_of_some _ (Heap.get?_push_size _ rfl), rfl, rfl⟩ (by rw [Heap.size_push, hz]) fun b o x => Heap.get?_push_of_some _ (Heap.get?_push_of_some _ x)⟩
end
end PySem
namespace Sh
open PySem PySem.Spec PyProof.Rows L2
def IteT (K : PySem.W.Frag) (a : Addr) : It :=
  ⟨fun i H => ∃ (xs : List V) (x : V), SqT K H a xs ∧ xs[i]? = some x, fun i H v H' => ∃ T x, v = .ref T ∧ H T = none ∧ H' = upd H T (.tup [.int (i : Nat), x]) ∧ ∀ xs, SqT K H a xs → xs[i]? = some x, fun i H => ∃ xs : List V, SqT K H a xs ∧ xs.length ≤ i⟩
theorem turn_enumT {P : Program} {w : World} {K : PySem.W.Frag} {elts : List Expr} {kk : Nat} {tpos : Pos} (a e it : Addr) :
    Turn P w K (.Tuple elts kk tpos) (IteT K a) [e, it] e (fun i h => (∃ old, IsEnum h e it ((i : Nat) : Int) old) ∧ h.IsTupleIter it a i ∧ e ≠ it ∧ a ≠ it ∧ e ≠ a) where
  mem := by simp
  obj := fun i h st b hb => by
    obtain ⟨⟨old, he⟩, ⟨o, ho, hc, hd⟩, _⟩ := st
    have e' : b = e ∨ b = it := by simpa using hb
    rcases e' with z | z
    · rw [z]; exact ⟨_, he, fun v q => nomatch q⟩
    · rw [z]; exact ⟨o, ho, fun v q => by rw [hd] at q; cases q⟩
  keep := fun i h h' st k => let ⟨⟨old, he⟩, hi, hne⟩ := st; ⟨⟨old, k e (by simp) _ he⟩, hi.at fun o q => k it (by simp) o q, hne⟩
  item := by
    intro X hP hw hK hc i pins s σ H E I hf st hg
    subst hP hw hK
    obtain ⟨⟨old, he⟩, hit, hne, hai, hea⟩ := st
    obtain ⟨xs, x, hq, hx⟩ := hg
    obtain ⟨its, rv, p, hz⟩ := I.tuple hq
    obtain ⟨u, hu, ru⟩ := rv.get hx
    have hel : e < s.heap.objs.size := Heap.lt_size he
    have hil : it < s.heap.objs.size := by obtain ⟨_, q, _⟩ := hit; exact Heap.lt_size q
    have hlt : i < its.toArray.size := by rw [List.size_toArray]; exact (List.getElem?_eq_some_iff.mp hu).1
    refine wpAny_pyNext_enum_itemD (Draws.tuple (A := X.A.in1) (I.ok.hd hc) it a hai its.toArray) he ⟨hit, show s.heap.IsTuple a its.toArray from p⟩ hlt hne (by simp [hne, hea]) fun u' h' tk hPx ho hit' hT hsz hk => ?_
    have hPx : its.toArray[i]? = some u' := hPx
    have hu' : its.toArray[i]? = some u := by simpa using hu
    rw [hu'] at hPx
    cases hPx
    refine ⟨_, rfl, wpAny_letOwnedTupleGo_enum (s := { s with heap := h', toks := tk + 1 }) ho fun h'' he' sb => ?_⟩
    have hT2 : h''.get? s.heap.objs.size = some { cls := .type "tuple", data := .seq #[.int i tk, u] } := (sb.2 _ (Nat.ne_of_gt hel)).trans hT
    have new : ObjOk X.prog X.w (upd H s.heap.objs.size (.tup [.int (i : Nat), x])) h'' s.heap.objs.size (.tup [.int (i : Nat), x]) :=
      ⟨by show 2 ≤ sizeLine; decide, [.int i tk, u], .cons ⟨_, rfl⟩ (.cons ru .nil), ⟨_, hT2, rfl, _, rfl⟩⟩
    have I1 : L2.Inv X pins σ (upd H s.heap.objs.size (.tup [.int (i : Nat), x])) { s with heap := h'', toks := tk + 1 } :=
      I.turnedNew (ch := [e, it]) (fun b ob hb q => (sb.2 b (fun z => hb (by simp [z]))).trans (hk b ob (fun z => hb (by simp [z])) (fun z => hb (by simp [z])) q)) hf (Nat.le_refl _) new
    refine ⟨.ref s.heap.objs.size, _, I1, rfl, ⟨_, x, rfl, I.hok.fresh (Nat.le_refl _), rfl, fun ys hy => by rw [I.tuple_inj hy hq]; exact hx⟩, ⟨⟨u, ?_⟩, hit'.1.at fun o q => (sb.2 it (Ne.symm hne)).trans q, hne, hai, hea⟩, fun b hb => ?_⟩
    · have e1 : ((i + 1 : Nat) : Int) = (i : Int) + 1 := by omega
      rw [e1]; exact he'
    · have hb' : b < s.heap.objs.size := by
        have e' : b = e ∨ b = it := by simpa using hb
        rcases e' with z | z
        · rw [z]; exact hel
        · rw [z]; exact hil
      rw [upd_ne (Nat.ne_of_lt hb')]
      exact (hf b hb).1
  done := by
    intro X hP hw hK hc i pins s σ H E I hf st hg
    subst hP hw hK
    obtain ⟨⟨old, he⟩, hit, hne, hai, hea⟩ := st
    obtain ⟨xs, hq, hx⟩ := hg
    obtain ⟨its, rv, p, hz⟩ := I.tuple hq
    obtain ⟨f0, f1, f2, f3, f4, f5⟩ := hf it (by simp)
    have hl := rv.length
    have hT : s.TypeIs (.ref e) "enumerate" := ⟨_, he, rfl⟩
    unfold pyNext
    refine wpAny_bind (wpAny_attempt (wpAny_callSpecial?_slot (name := Str.ofString "__next__") hT F.slot_enumerate_next
      (wpAny_call_entry F.slot_enumerate_next hT F.entry_enumerate_next ?_ (F.args_enumerate_next_1 _))))
    show wpAny _ _ (field (.ref e) 2 >>= _) _ _ _
    refine wpAny_bind (wpAny_field he rfl (x := .ref it) rfl ?_)
    refine wpAny_bind (wpAny_nextOf_tuple_end (show X.A.in1.handled = none from I.ok.hd hc) hit (show s.heap.IsTuple a its.toArray from p) (by simp; omega) fun h' x he' hx' => ?_)
    obtain ⟨o, ho, hc'⟩ := hx'
    refine wpAny_bind (wpAny_isInstance (T := "StopIteration") (b := true) ⟨o, ho, hc'⟩ isSubtype_stop ?_)
    exact wpAny_pure ⟨rfl, I.turned (t' := s.toks) (fun b o hb q => he' b o hb q) f0 f1 f3 f4 f5⟩
  self := fun A i s Q E st h => let ⟨⟨_, he⟩, _⟩ := st; wpAny_pyIter_enum he h
def iEnumA (K : PySem.W.Frag) (ta : TA) : TI := fun σ H R => ta σ H fun vs H1 => ∃ a xs, vs = [.ref a] ∧ ((SqL K H1 a xs ∧ R (Ite K a) H1) ∨ (SqT K H1 a xs ∧ R (IteT K a) H1))
theorem pi_enumA {X : Cx} {e : Expr} {ta : TA} {p pos tpos : Pos} {elts : List Expr} {kk : Nat} (hg : Gl X "enumerate") (hm : X.mg "enumerate" = none) (ha : PA X [e] ta) (hs : starEach [e] X.env = [(false, eval e X.env)]) :
    PI X (.Tuple elts kk tpos) (.Call (.Name "enumerate" p) [e] [] pos) (iEnumA X.K ta) := by
  refine ⟨fun pins s σ H R I h => ?_⟩
  refine Call_ (ld_blt I hg hm boot_enumerate (PyProof.Rows.callWith_type1 (thn (ha.run pos pins s σ H _ I h) fun us s1 ⟨vs, H1, I1, r1, q1⟩ => ?_) hs rfl))
  obtain ⟨a, xs, ex, q1⟩ := q1
  subst ex
  cases r1 with
  | cons r rr =>
    cases rr
    cases r
    have fresh2 : ∀ b ∈ [s1.heap.objs.size + 1, s1.heap.objs.size], FpOk X pins H1 b := fun b hb => by
      have e' : b = s1.heap.objs.size + 1 ∨ b = s1.heap.objs.size := by simpa using hb
      have hle : s1.heap.objs.size ≤ b := by
        rcases e' with z | z
        · rw [z]; exact Nat.le_add_right _ _
        · rw [z]; exact Nat.le_refl _
      exact I1.fpOk hle (I1.hok.fresh hle)
    rcases q1 with ⟨hq, q⟩ | ⟨hq, q⟩
    · obtain ⟨its, rv, p', hz⟩ := I1.list hq
      refine call_enumerate_list p'.isList fun h' he hit hsz hk => wpAny_pyIter_enum he ?_
      have I2 : L2.Inv X pins σ H1 { s1 with heap := h' } := I1.kept (t' := s1.toks) hk
      exact ⟨s1.heap.objs.size + 1, [s1.heap.objs.size + 1, s1.heap.objs.size], _, _, H1, rfl, I2, turn_enum a (s1.heap.objs.size + 1) s1.heap.objs.size, ⟨⟨.none, he⟩, hit, Nat.succ_ne_self _⟩, fresh2, q⟩
    · obtain ⟨its, rv, p', hz⟩ := I1.tuple hq
      obtain ⟨o1, ho1, _⟩ := id p'
      have hal := Heap.lt_size ho1
      refine call_enumerate_tuple (show s1.heap.IsTuple a its.toArray from p') fun h' he hit hsz hk => wpAny_pyIter_enum he ?_
      have I2 : L2.Inv X pins σ H1 { s1 with heap := h' } := I1.kept (t' := s1.toks) hk
      exact ⟨s1.heap.objs.size + 1, [s1.heap.objs.size + 1, s1.heap.objs.size], _, _, H1, rfl, I2, turn_enumT a (s1.heap.objs.size + 1) s1.heap.objs.size, ⟨⟨.none, he⟩, hit, Nat.succ_ne_self _, Nat.ne_of_lt hal, Nat.ne_of_gt (Nat.lt_succ_of_lt hal)⟩, fresh2, q⟩
section
variable {S : Su} {ρ : List Addr} {H : Hp}
theorem so_enmT {ds : List D} {a : Addr} {vs : List V} (q1 : SqT S.K H a vs) (q2 : VRs S.K ρ H ds vs) : SrcOk S ρ H (.enm (.tup ds)) (IteT S.K a) := fun ρ' h' H' i st hr => by
  have q := so_tup q1 q2 ρ' h' H' i st hr
  refine ⟨fun e => ?_, fun d e => ?_⟩
  · have e : (match some ds[i]? with
      | some (some d) => some (some (D.tup [.int i, d]))
      | some none => some none
      | none => none) = some none := e
    split at e
    · cases e
    · rename_i e2
      exact q.1 e2
    · cases e
  · have e : (match some ds[i]? with
      | some (some d) => some (some (D.tup [.int i, d]))
      | some none => some none
      | none => none) = some (some d) := e
    split at e
    · rename_i d' e2
      cases e
      obtain ⟨z1, z2⟩ := q.2 d' e2
      obtain ⟨ws, v, k1, k2⟩ := z1
      refine ⟨⟨ws, v, k1, k2⟩, fun u H2 y => ?_⟩
      obtain ⟨T, w, rfl, hT, rfl, hy⟩ := y
      have z3 := (z2 w H' ⟨rfl, hy⟩).2.2
      exact pair_ok hr hT (.int _) z3
    · cases e
    · cases e
end
def iEnA (a : Exs) : Ei := fun s h => (a s h).bind fun xs h1 => match xs with
  | [.tup xs] => .ok (.enm (.tup xs)) h1
  | [x] => match lsts x h1 with
    | some _ => .ok (.enm x) h1
    | none => .no
  | _ => .no
theorem di_enmA {X : Cx} {S : Su} {W : WX} {e : Expr} {es : Exs} {p pos tpos : Pos} {elts : List Expr} {kk : Nat} (hK : S.K = X.K) (ha : PA X [e] (dnA S W es)) (hm : X.mg "enumerate" = none) (hg : Gl X "enumerate" := by rfl) (hs : starEach [e] X.env = [(false, eval e X.env)] := by rfl) : PI X (.Tuple elts kk tpos) (.Call (.Name "enumerate" p) [e] [] pos) (dnI S W (iEnA es)) := PI.mono' (pi_enumA hg hm ha hs) fun σ H R h => by
  obtain ⟨ρ, ds, hd, sr, hr, f⟩ := h
  refine ⟨ρ, ds, hd, sr, hr, Fin.bind (r := es ds hd) f fun ρ1 h1 H1 xs vs st hr1 vr f1 => ?_⟩
  rw [← hK]
  split at f1
  · obtain ⟨v, rfl, r⟩ := vr.one
    cases r with
    | tup q1 q2 => exact ⟨_, _, rfl, .inr ⟨q1, FinI.ok0 f1 hr1 (so_enmT q1 q2)⟩⟩
  · obtain ⟨v, rfl, r⟩ := vr.one
    split at f1
    · rename_i ys e
      have r2 := r
      obtain ⟨i, a, vs, rfl, rfl, _, g, rs, _⟩ := lsts_of hr1 r e
      exact ⟨a, vs, rfl, .inl ⟨SqL.of g, FinI.ok0 f1 hr1 (so_enm r2 e)⟩⟩
    · exact f1.elim
  · exact f1.elim
end Sh

end

section
set_option Elab.async false
set_option linter.all false
set_option maxRecDepth 100000
set_option maxHeartbeats 2000000
namespace Sh
open PySem PySem.Spec PyProof.Rows L2 PySem.ExD He

/-! ### constants of the top -/
mutual
theorem dvB_ok {K : PySem.W.Frag} : ∀ (d : D) (u : Value), dvB K d u = true → ∃ v, RelV v u ∧ ∀ ρ H, VR K ρ H d v
  | .non, u, h => by
    cases u with
    | none => exact ⟨.non, rfl, fun _ _ => .non⟩
    | _ => simp [dvB] at h
  | .bl b, u, h => by
    cases u with
    | bool c =>
      have e : b = c := by simpa [dvB] using h
      subst e
      exact ⟨.bl b, rfl, fun _ _ => .bl b⟩
    | _ => simp [dvB] at h
  | .int i, u, h => by
    cases u with
    | int j t =>
      have e : i = j := by simpa [dvB] using h
      subst e
      exact ⟨.int i, ⟨t, rfl⟩, fun _ _ => .int i⟩
    | _ => simp [dvB] at h
  | .str l, u, h => by
    cases u with
    | str y t =>
      have e : y.cps.toList = l := by simpa [dvB] using h
      exact ⟨.str y, ⟨t, rfl⟩, fun _ _ => vr_str e⟩
    | _ => simp [dvB] at h
  | .tup ds, u, h => by
    cases u with
    | ref a =>
      unfold dvB at h
      split at h
      · rename_i c od its n sl e
        simp only [Bool.and_eq_true, decide_eq_true_eq] at h
        obtain ⟨h1, h2, h3⟩ := h
        subst h1
        obtain ⟨vs, r, k⟩ := dvsB_ok ds its.toList h3
        exact ⟨.ref a, rfl, fun ρ H => .tup (.inr ⟨_, its, n, e, rfl, rfl, h2, r⟩) (k ρ H)⟩
      · cases h
    | _ => simp [dvB] at h
  | .obj i, u, h => by cases u <;> simp [dvB] at h
  | .fl ds, u, h => by cases u <;> simp [dvB] at h
theorem dvsB_ok {K : PySem.W.Frag} : ∀ (ds : List D) (us : List Value), dvsB K ds us = true → ∃ vs, Vals vs us ∧ ∀ ρ H, VRs K ρ H ds vs
  | [], [], _ => ⟨[], .nil, fun _ _ => .nil⟩
  | [], _ :: _, h => by simp [dvsB] at h
  | _ :: _, [], h => by simp [dvsB] at h
  | d :: ds, u :: us, h => by
    unfold dvsB at h
    obtain ⟨h1, h2⟩ := Bool.and_eq_true_iff.mp h
    obtain ⟨v, r, k⟩ := dvB_ok d u h1
    obtain ⟨vs, rs, ks⟩ := dvsB_ok ds us h2
    exact ⟨v :: vs, .cons r rs, fun ρ H => .cons (k ρ H) (ks ρ H)⟩
end
/-- a constant of the module -/
structure CstC (K : PySem.W.Frag) (mg : Str → Option Value) (x : Str) (d : D) : Prop where
  at_ : ∃ u v, mg x = some u ∧ RelV v u ∧ ∀ ρ H, VR K ρ H d v
theorem cst_ok {K : PySem.W.Frag} {h : Heap} {mg : Str → Option Value} (X : K.In h) (G : h.Ns mainGlobals mg) {x : Str} {d : D} (c : cstB K x d = true) : CstC K mg x d := by
  unfold cstB at c
  split at c
  · rename_i u e
    obtain ⟨v, r, k⟩ := dvB_ok _ _ c
    exact ⟨u, v, PySem.W.mg_of X G e, r, k⟩
  · cases c
theorem de_cst {X : Cx} {S : Su} {W : WX} {x : Str} {d : D} {pos : Pos} (c : CstC S.K X.mg x d) (hg : Gl X x := by rfl) (hd : (x == ("__debug__" : Str)) = false := by decide) : PE X (.Name x pos) (dn S W (eC d)) := by
  obtain ⟨u, v, h1, h2, h3⟩ := c.at_
  exact de_glob h3 h1 h2 hg hd

/-! ### tables of the top -/
theorem ent_find {K : PySem.W.Frag} (z : List Nat) : ∀ (es : List DictEntry) (kvs : List (List Nat × D)), entB K es kvs = true →
    es.any (·.refKey) = false ∧ match kvs.lookup z with
      | none => es.find? (·.key.isStr ⟨z.toArray⟩) = none
      | some d => ∃ e, es.find? (·.key.isStr ⟨z.toArray⟩) = some e ∧ dvB K d e.val = true
  | [], [], _ => ⟨rfl, rfl⟩
  | [], _ :: _, h => by simp [entB] at h
  | _ :: _, [], h => by simp [entB] at h
  | e :: es, (k, d) :: r, h => by
    unfold entB at h
    obtain ⟨h1, h2⟩ := Bool.and_eq_true_iff.mp h
    obtain ⟨h3, h4⟩ := Bool.and_eq_true_iff.mp h2
    obtain ⟨i1, i2⟩ := ent_find z es r h4
    cases q : e.key with
    | str x t =>
      rw [q] at h1
      have hx : x.cps.toList = k := by simpa using h1
      have hr : e.refKey = false := by unfold DictEntry.refKey; rw [q]
      have hs : e.key.isStr ⟨z.toArray⟩ = (z == k) := by
        rw [q]
        show (x == (⟨z.toArray⟩ : Str)) = (z == k)
        rw [Bool.eq_iff_iff, beq_iff_eq, beq_iff_eq, ← hx]
        constructor
        · intro e2; rw [e2]
        · intro e2
          obtain ⟨c⟩ := x
          simp only at e2 ⊢
          rw [e2]
      refine ⟨by rw [List.any_cons, hr, i1]; rfl, ?_⟩
      rw [List.lookup_cons]
      cases b : (z == k) with
      | true =>
        refine ⟨e, ?_, h3⟩
        rw [List.find?_cons, hs, b]
      | false =>
        rw [List.find?_cons, hs, b]
        exact i2
    | _ => rw [q] at h1; simp at h1
theorem dct_ok {S : Su} {w : World} {x : Str} {kvs : List (List Nat × D)} (KD : ∃ es n, KDict S.K w (ga S.K x) es n) (c : dctB S.K x kvs = true) : DictC S w (ga S.K x) kvs := by
  refine ⟨KD, fun z => ?_⟩
  obtain ⟨es, n, kd⟩ := KD
  unfold dctB at c
  rw [kd.at_] at c
  have c : entB S.K es.toList kvs = true := c
  obtain ⟨i1, i2⟩ := ent_find z _ _ c
  have e0 : PySem.W.nsIn S.K (ga S.K x) ⟨z.toArray⟩ = match es.toList.find? (·.key.isStr ⟨z.toArray⟩) with
      | some e => some (some e.val)
      | none => if es.toList.any (·.refKey) then none else some none := by
    unfold PySem.W.nsIn
    rw [kd.at_]
    rfl
  split
  · rename_i e
    rw [e] at i2
    rw [e0, i2]
    simp only [i1]
    rfl
  · rename_i d e
    rw [e] at i2
    obtain ⟨en, h1, h2⟩ := i2
    obtain ⟨v, r, k⟩ := dvB_ok _ _ h2
    exact ⟨en.val, v, by rw [e0, h1], r, k⟩

/-! ### own exceptions -/
theorem exT_of {K : PySem.W.Frag} {mg : Str → Option Value} {x iq : Str} {tl : List Value} {newId : String} {fd : FuncData} {p1 p2 q1 q2 q3 q4 : Pos} (g : mg x = some (.ref (ga K x))) (h : exTB K x tl newId = true)
    (F : FunD K "__init__" iq (iA "index" p1 p2) (iB "index" q1 q2 q3 q4) (iS "index") [] [] (ma K (ga K x) "__init__") fd) : ExT K mg x iq tl newId (ga K x) (ma K (ga K x) "__init__") := by
  unfold exTB at h
  obtain ⟨a1, h⟩ := Bool.and_eq_true_iff.mp h
  obtain ⟨a2, h⟩ := Bool.and_eq_true_iff.mp h
  obtain ⟨a3, h⟩ := Bool.and_eq_true_iff.mp h
  obtain ⟨a4, h⟩ := Bool.and_eq_true_iff.mp h
  obtain ⟨a5, h⟩ := Bool.and_eq_true_iff.mp h
  obtain ⟨a6, h⟩ := Bool.and_eq_true_iff.mp h
  obtain ⟨a7, h⟩ := Bool.and_eq_true_iff.mp h
  obtain ⟨a8, h⟩ := Bool.and_eq_true_iff.mp h
  obtain ⟨a9, h⟩ := Bool.and_eq_true_iff.mp h
  obtain ⟨a10, h⟩ := Bool.and_eq_true_iff.mp h
  obtain ⟨a11, a12⟩ := Bool.and_eq_true_iff.mp h
  refine ⟨g, ?_, eqO_ok a2, eqO_ok a3, eqO_ok a4, eqO_ok a5, eqO_ok a6, of_decide_eq_true a7, a8, of_decide_eq_true a9, of_decide_eq_true a10, a11, of_decide_eq_true a12, ?_⟩
  · split at a1
    · rename_i t od cd sl e
      obtain ⟨b1, b⟩ := Bool.and_eq_true_iff.mp a1
      obtain ⟨b2, b⟩ := Bool.and_eq_true_iff.mp b
      obtain ⟨b3, b⟩ := Bool.and_eq_true_iff.mp b
      obtain ⟨b4, b5⟩ := Bool.and_eq_true_iff.mp b
      have b1 := of_decide_eq_true b1
      subst b1
      obtain ⟨nm, bs, mro, ns, qn, hd, sn, sub, ab, col, del⟩ := cd
      dsimp only at b2 b3 b4
      subst b3
      have b4 : del = false := by simpa using b4
      subst b4
      split at b2
      · rename_i C' bm
        obtain ⟨b6, b7⟩ := Bool.and_eq_true_iff.mp b2
        have b6 := of_decide_eq_true b6
        subst b6
        split at b5
        · rename_i k0 k1 k2 k3 n k5 es
          have b5 := of_decide_eq_true b5
          subst b5
          have hsl : sl = #[k0, k1, k2, k3, some (.builtin n), k5] := by
            obtain ⟨l⟩ := sl
            simp only at es
            rw [es]
          subst hsl
          exact ⟨nm, qn, ns, bs, _, sn, sub, ab, col, od, k0, k1, k2, k3, k5, e, b7⟩
        · cases b5
      · cases b2
    · cases a1
  · obtain ⟨oc, od, dV, kV, doc, pm, an, cdv, ct, osl, rfl, lk, hcd, hD, _⟩ := F.ex
    rcases hD with ⟨_, rfl⟩ | ⟨e, _⟩
    · exact ⟨oc, od, kV, doc, pm, an, cdv, ct, osl, p1, p2, q1, q2, q3, q4, lk, hcd⟩
    · exact absurd rfl e

/-! ### the law's end -/
theorem sqF_of {K : PySem.W.Frag} {H : Hp} {a : Addr} {xs : List V} (hO : Only H) (h : SqL K H a xs) : SqF K H a xs := by
  rcases h with (h | h) | h
  · rcases hO a with e | ⟨o, ys, e⟩
    · rw [e] at h; cases h
    · rw [e] at h; cases h
  · exact .inl h
  · exact .inr h
theorem vrs_ints {K : PySem.W.Frag} {ρ : List Addr} {H : Hp} : ∀ ns : List Int, VRs K ρ H (ns.map D.int) (ns.map V.int)
  | [] => .nil
  | n :: ns => .cons (.int n) (vrs_ints ns)
theorem sp_law {S : Su} {g : Fn} {H : Hp} {a : Addr} {ns : List Int} (hO : Only H) (hS : SqL S.K H a (ns.map V.int)) (e : ∃ h, g [.fl (ns.map D.int)] [] = .ok (.bl true) h) : SpD S g [.ref a] H (fun v _ => v = .bl true) fun _ _ _ => False := by
  obtain ⟨h, e⟩ := e
  refine ⟨[], [.fl (ns.map D.int)], [], .cons (.fl (sqF_of hO hS) (vrs_ints ns)) .nil, ⟨rfl, List.nodup_nil, fun i o a e => by simp at e⟩, ?_⟩
  rw [e]
  intro ρ' v H' _ _ r
  cases r
  rfl
theorem cx_end {P : Program} {w : World} (H : Hp) (s : Shared) (e : Value) (s' : Shared) (h : L2.CX P w [] H s (fun _ _ _ => False) e s') : False := by
  obtain ⟨_, _, _, _, _, _, _, _, _, _, _, _, z⟩ := h
  exact z
end Sh

end

section
set_option Elab.async false
set_option linter.all false
set_option maxRecDepth 100000
set_option maxHeartbeats 2000000
namespace Sh
open PySem PySem.Spec PyProof.Rows L2 PySem.ExD He

section
variable {X : Cx} {S : Su} {W : WX} {a : Expr} {ea : Ex} {pos p2 : Pos}
theorem dt_isN {j} (ha : PE X a (dn S W ea)) : PT X (.Compare a [.Is] [.Constant .none j p2] pos) (dnT S W (tB1 (e1 oIsN ea))) := by
  refine PT.mono' (pt_cmpR op_isN ha pe_non (nomark _)) fun σ H Q h => dn_tB1 (fun Q' h => ?_) h
  obtain ⟨ρ, ds, hd, sr, hr, f⟩ := h
  refine ⟨ρ, ds, hd, sr, hr, Fin.bind (r := ea ds hd) f fun ρ1 h1 H1 x vx st hr1 vr f1 => ⟨rfl, ?_⟩⟩
  rw [isNon_eq vr]
  exact FinV.ok0 f1 hr1 (.bl _)
theorem dt_notN {j} (ha : PE X a (dn S W ea)) : PT X (.Compare a [.IsNot] [.Constant .none j p2] pos) (dnT S W (tB1 (e1 oNotN ea))) := by
  refine PT.mono' (pt_cmpR op_notN ha pe_non (nomark _)) fun σ H Q h => dn_tB1 (fun Q' h => ?_) h
  obtain ⟨ρ, ds, hd, sr, hr, f⟩ := h
  refine ⟨ρ, ds, hd, sr, hr, Fin.bind (r := ea ds hd) f fun ρ1 h1 H1 x vx st hr1 vr f1 => ⟨rfl, ?_⟩⟩
  rw [isNon_eq vr]
  exact FinV.ok0 f1 hr1 (.bl _)
theorem dt_inD {x : Str} {d : Addr} {kvs : List (List Nat × D)} (hK : S.K = X.K) (D : DictC S X.w d kvs) (hm : X.mg x = some (.ref d)) (ha : PE X a (dn S W ea)) (hg : Gl X x := by rfl) (hd : (x == ("__debug__" : Str)) = false := by decide)
    (hmk : behindInMarks .In (.Name x p2) = false := by rfl) : PT X (.Compare a [.In] [.Name x p2] pos) (dnT S W (tB1 (e1 (oInD false kvs) ea))) := by
  obtain ⟨es, n, KD⟩ := D.dict
  rw [hK] at KD
  refine PT.mono' (pt_cmpR (op_in_kd KD) ha (pe_glob (v := .ref d) hg hm rfl hd) hmk) fun σ H Q h => dn_tB1 (fun Q' h => ?_) h
  obtain ⟨ρ, ds, hd, sr, hr, f⟩ := h
  refine ⟨ρ, ds, hd, sr, hr, Fin.bind (r := ea ds hd) f fun ρ1 h1 H1 x vx st hr1 vr f1 => ?_⟩
  unfold oInD at f1
  split at f1
  · rename_i z
    cases vr
    obtain ⟨r, e1, e2⟩ := D.isSome z
    rw [hK] at e1
    refine ⟨_, r, rfl, rfl, e1, ?_⟩
    rw [e2]
    exact FinV.ok0 f1 hr1 (.bl _)
  · exact f1.elim
theorem dt_ninD {x : Str} {d : Addr} {kvs : List (List Nat × D)} (hK : S.K = X.K) (D : DictC S X.w d kvs) (hm : X.mg x = some (.ref d)) (ha : PE X a (dn S W ea)) (hg : Gl X x := by rfl) (hd : (x == ("__debug__" : Str)) = false := by decide)
    (hmk : behindInMarks .NotIn (.Name x p2) = false := by rfl) : PT X (.Compare a [.NotIn] [.Name x p2] pos) (dnT S W (tB1 (e1 (oInD true kvs) ea))) := by
  obtain ⟨es, n, KD⟩ := D.dict
  rw [hK] at KD
  refine PT.mono' (pt_cmpR (op_notIn_kd KD) ha (pe_glob (v := .ref d) hg hm rfl hd) hmk) fun σ H Q h => dn_tB1 (fun Q' h => ?_) h
  obtain ⟨ρ, ds, hd, sr, hr, f⟩ := h
  refine ⟨ρ, ds, hd, sr, hr, Fin.bind (r := ea ds hd) f fun ρ1 h1 H1 x vx st hr1 vr f1 => ?_⟩
  unfold oInD at f1
  split at f1
  · rename_i z
    cases vr
    obtain ⟨r, e1, e2⟩ := D.isSome z
    rw [hK] at e1
    refine ⟨_, r, rfl, rfl, e1, ?_⟩
    rw [e2]
    exact FinV.ok0 f1 hr1 (.bl _)
  · exact f1.elim
end
/-- the function at such a place -/
def fdAt (K : PySem.W.Frag) (p : Str × Option Str) : FuncData := match K.lookup (fAd K p) with
  | some ⟨_, _, .func fd, _⟩ => fd
  | _ => default
theorem fun_at {K : PySem.W.Frag} {p : Str × Option Str} {x qual : Str} {params : Arguments} {body : List Stmt} {scope : Scope} {dvs : List V} {kws : List (Str × V)} (h : ∃ fd, FunD K x qual params body scope dvs kws (fAd K p) fd) : FunD K x qual params body scope dvs kws (fAd K p) (fdAt K p) := by
  obtain ⟨fd, F⟩ := h
  have F' := F
  obtain ⟨oc, od, dV, kV, doc, pm, an, cdv, ct, osl, e, lk, _⟩ := F.ex
  have : fdAt K p = fd := by
    unfold fdAt
    rw [lk]
  rw [this]
  exact F'
/-- attributes by classes -/
theorem fldC_nil {S : Su} {f : Str} : FldC S f [] := ⟨fun c i h => by cases h⟩
theorem fldC_cons {S : Su} {f : Str} {c i : Nat} {t : List (Nat × Nat)} (h1 : (S.cf c)[i]? = some f) (h2 : Cls S.K (S.ca c)) (h3 : NoAttr S.K (S.ca c) f) (h4 : (S.cf c).Nodup) (h5 : (S.cf c).length < 900) (r : FldC S f t) : FldC S f ((c, i) :: t) := ⟨fun c' i' h => by
  rw [List.lookup_cons] at h
  cases b : (c' == c) with
  | true =>
    rw [b] at h
    have e : i = i' := Option.some.inj h
    have e2 : c' = c := beq_iff_eq.mp b
    subst e e2
    exact ⟨h1, h2, h3, h4, h5⟩
  | false =>
    rw [b] at h
    exact r.at_ c' i' h⟩
end Sh

end

section
set_option Elab.async false
set_option linter.all false
set_option maxRecDepth 100000
set_option maxHeartbeats 2000000
/-! calls with values alone: the callee starts from an empty heap, and what it has made is forgotten -/
namespace Sh
open PySem PySem.Spec PyProof.Rows L2 PySem.ExD He
mutual
theorem VR.any {K : PySem.W.Frag} {ρ ρ' : List Addr} {H : Hp} : ∀ {d : D} {v : V}, VR K ρ H d v → d.pure = true → VR K ρ' H d v
  | _, _, .non, _ => .non
  | _, _, .bl b, _ => .bl b
  | _, _, .int i, _ => .int i
  | _, _, .str l, _ => .str l
  | _, _, .tup h1 h2, p => .tup h1 (VRs.any h2 p)
  | _, _, .obj h, p => nomatch p
  | _, _, .fl _ _, p => nomatch p
theorem VRs.any {K : PySem.W.Frag} {ρ ρ' : List Addr} {H : Hp} : ∀ {ds : List D} {vs : List V}, VRs K ρ H ds vs → D.pures ds = true → VRs K ρ' H ds vs
  | _, _, .nil, _ => .nil
  | _, _, .cons h1 h2, p => .cons (VR.any h1 (Bool.and_eq_true_iff.mp p).1) (VRs.any h2 (Bool.and_eq_true_iff.mp p).2)
end
theorem Step.whole {ρ ρ' : List Addr} {H H' : Hp} (s : Step [] H ρ' H') : Step ρ H ρ H' :=
  ⟨⟨[], by simp, by simp⟩, fun a o e _ => s.keep a o e (.inl (by simp)), s.there⟩
theorem HR.whole {S : Su} {ρ ρ' : List Addr} {hd : Hd} {H H' : Hp} (h : HR S ρ hd H) (s : Step [] H ρ' H') : HR S ρ hd H' :=
  ⟨h.len, h.nd, fun i o a e1 e2 => (h.at_ i o a e1 e2).mono s.whole fun u q => s.keep a u q (.inl (by simp))⟩
def qR (r : R D) (h : Hd) : R D := match r with
  | .ok d _ => if d.pure = true then .ok d h else .no
  | .exc c fs _ => if D.pures fs = true then .exc c fs h else .no
  | .no => .no
def eQ (f : Fn) (a : Exs) : Ex := fun s h => (a s h).bind fun xs h1 => if D.pures xs = true then qR (f xs []) h1 else .no
theorem HR.none {S : Su} {H : Hp} : HR S [] [] H := ⟨rfl, List.nodup_nil, fun i o a e => by simp at e⟩
theorem qR_ok {S : Su} {ρ : List Addr} {hd : Hd} {H : Hp} {W : XK} {r : R D} {Q : VK} (hr : HR S ρ hd H) (f : FinV S ρ H W (qR r hd) Q) : FinV S [] H W r Q := by
  cases r with
  | ok d h =>
    unfold qR at f
    dsimp only at f
    split at f
    · rename_i p
      exact fun ρ' v H' st hr' rv => f ρ v H' st.whole (hr.whole st) (rv.any p)
    · exact f.elim
  | exc c fs h =>
    unfold qR at f
    dsimp only at f
    split at f
    · rename_i p
      intro ρ' dd H' st hr' ex
      obtain ⟨vs, e1, e2⟩ := ex
      exact f ρ dd H' st.whole (hr.whole st) ⟨vs, e1, e2.any p⟩
    · exact f.elim
  | no => exact f
section
variable {X : Cx} {S : Su} {W : WX} {k : Nat} {f : Addr} {fd : FuncData} {ps : List Str} {g : Fn} {x : Str} {p pos : Pos} {e : Expr} {es : List Expr} {ea : Exs}
theorem de_callQ (F : FnOk X.prog X.w X.K X.mg X.base (L2.CX X.prog X.w) k f fd ps (SpD S g)) (hr : Room k X.A) (hm : X.mg x = some (.ref f)) (hk : PySem.W.keepIn X.K (.ref f) = true) (hb : Binds X.K fd ps []) (tk : Takes X W) (ha : PA X (e :: es) (dnA S W ea)) (hg : Gl X x := by rfl)
    (hdb : (x == ("__debug__" : Str)) = false := by decide) (he : starEach (e :: es) X.env = (false, eval e X.env) :: starEach es X.env := by rfl) (hpl : (backTo pos (starEach es X.env)).any (·.1) = false := by rfl) :
    PE X (.Call (.Name x p) (e :: es) [] pos) (dn S W (eQ g ea)) := PE.mono' (pe_callSD (E := WE W) F hr hg hm hk hb .nil (fun σ => passAt tk σ) ha hdb he hpl) fun σ H Q h => by
  obtain ⟨ρ, ds, hd, sr, hr, f⟩ := h
  refine ⟨ρ, ds, hd, sr, hr, Fin.bind (r := ea ds hd) f fun ρ1 h1 H1 xs vs st hr1 vr f1 => ?_⟩
  rw [List.append_nil]
  split at f1
  · rename_i p
    exact ⟨[], xs, [], vr.any p, HR.none, qR_ok hr1 f1⟩
  · exact f1.elim
theorem de_callQ0 (F : FnOk X.prog X.w X.K X.mg X.base (L2.CX X.prog X.w) k f fd ps (SpD S g)) (hr : Room k X.A) (hm : X.mg x = some (.ref f)) (hk : PySem.W.keepIn X.K (.ref f) = true) (hb : Binds X.K fd ps []) (tk : Takes X W) (hg : Gl X x := by rfl)
    (hdb : (x == ("__debug__" : Str)) = false := by decide) : PE X (.Call (.Name x p) [] [] pos) (dn S W (eQ g as0)) := ⟨fun pins s σ H Q I h => by
  obtain ⟨ρ, ds, hd, sr, hr', fi⟩ := h
  refine wpAny_Call_Name_kw (ld_glob I hg hm ?_ hdb)
  have fi : FinV S ρ H (fun c d H' => W c d σ H') (qR (g [] []) hd) Q := fi
  exact PySem.W.callWith_K0 I.kIn hk (run_fnSD (E := WE W) (us := []) (vs := []) (dvs := []) F hr hb .nil (passAt tk σ) I .nil ⟨[], [], [], .nil, HR.none, qR_ok hr' fi⟩)⟩
end
end Sh

end

section
set_option Elab.async false
set_option linter.all false
set_option maxRecDepth 100000
set_option maxHeartbeats 2000000
/-! calls with one list (of values) besides values; calls that give a new list -/
namespace Sh
open PySem PySem.Spec PyProof.Rows L2 PySem.ExD He
mutual
def D.flt : D → Bool
  | .obj _ => false
  | .fl xs => D.flts xs
  | .tup xs => D.flts xs
  | _ => true
def D.flts : List D → Bool
  | [] => true
  | x :: xs => x.flt && D.flts xs
end
mutual
theorem VR.anyF {K : PySem.W.Frag} {ρ ρ' : List Addr} {H : Hp} : ∀ {d : D} {v : V}, VR K ρ H d v → d.flt = true → VR K ρ' H d v
  | _, _, .non, _ => .non
  | _, _, .bl b, _ => .bl b
  | _, _, .int i, _ => .int i
  | _, _, .str l, _ => .str l
  | _, _, .tup h1 h2, p => .tup h1 (VRs.anyF h2 p)
  | _, _, .obj h, p => nomatch p
  | _, _, .fl h1 h2, p => .fl h1 (VRs.anyF h2 p)
theorem VRs.anyF {K : PySem.W.Frag} {ρ ρ' : List Addr} {H : Hp} : ∀ {ds : List D} {vs : List V}, VRs K ρ H ds vs → D.flts ds = true → VRs K ρ' H ds vs
  | _, _, .nil, _ => .nil
  | _, _, .cons h1 h2, p => .cons (VR.anyF h1 (Bool.and_eq_true_iff.mp p).1) (VRs.anyF h2 (Bool.and_eq_true_iff.mp p).2)
end
def lR (i : Nat) (h1 : Hd) (d : D) (h2 : Hd) : R D := match h2 with
  | .lst ys :: _ => if d.pure = true ∧ D.pures ys = true then .ok d (h1.set i (.lst ys)) else .no
  | _ => .no
/-- the first argument is a list of values; the callee sees nothing else; what it gives is a value -/
def eL (f : Fn) (a : Exs) : Ex := fun s h => (a s h).bind fun xs h1 => match xs with
  | .obj i :: r => match h1[i]? with
    | some (.lst zs) => if D.pures zs = true ∧ D.pures r = true then (match f (.obj 0 :: r) [.lst zs] with
      | .ok d h2 => lR i h1 d h2
      | _ => .no) else .no
    | _ => .no
  | _ => .no
/-- values in, a new list of values out -/
def eP (f : Fn) (a : Exs) : Ex := fun s h => (a s h).bind fun xs h1 => if D.flts xs = true then (match f xs [] with
  | .ok (.obj j) h2 => match h2[j]? with
    | some (.lst ys) => if D.pures ys = true then .ok (.obj h1.length) (h1 ++ [.lst ys]) else .no
    | _ => .no
  | _ => .no) else .no
section
variable {X : Cx} {S : Su} {W : WX} {k : Nat} {f : Addr} {fd : FuncData} {ps : List Str} {g : Fn} {x : Str} {p pos : Pos} {e : Expr} {es : List Expr} {ea : Exs}
theorem de_callL (F : FnOk X.prog X.w X.K X.mg X.base (L2.CX X.prog X.w) k f fd ps (SpD S g)) (hr : Room k X.A) (hm : X.mg x = some (.ref f)) (hk : PySem.W.keepIn X.K (.ref f) = true) (hb : Binds X.K fd ps []) (tk : Takes X W) (ha : PA X (e :: es) (dnA S W ea)) (hg : Gl X x := by rfl)
    (hdb : (x == ("__debug__" : Str)) = false := by decide) (he : starEach (e :: es) X.env = (false, eval e X.env) :: starEach es X.env := by rfl) (hpl : (backTo pos (starEach es X.env)).any (·.1) = false := by rfl) :
    PE X (.Call (.Name x p) (e :: es) [] pos) (dn S W (eL g ea)) := PE.mono' (pe_callSD (E := WE W) F hr hg hm hk hb .nil (fun σ => passAt tk σ) ha hdb he hpl) fun σ H Q h => by
  obtain ⟨ρ, ds, hd, sr, hr, f⟩ := h
  refine ⟨ρ, ds, hd, sr, hr, Fin.bind (r := ea ds hd) f fun ρ1 h1 H1 xs vs st hr1 vr f1 => ?_⟩
  rw [List.append_nil]
  split at f1
  · rename_i i r
    cases vr with
    | cons rx rr =>
      split at f1
      · rename_i zs ez
        split at f1
        · rename_i pz
          obtain ⟨p1, p2⟩ := pz
          obtain ⟨a, ws, rfl, ga, q, rz⟩ := hr1.lsto rx ez
          refine ⟨[a], .obj 0 :: r, [.lst zs], .cons (.obj rfl) (rr.any p2), ⟨rfl, by simp, fun j o b e1 e2 => ?_⟩, ?_⟩
          · cases j with
            | zero =>
              simp at e1 e2
              subst e1 e2
              exact .lst q (rz.any p1)
            | succ j => simp at e1
          · cases e : g (.obj 0 :: r) [.lst zs] with
            | no => rw [e] at f1; exact f1.elim
            | exc c fs h => rw [e] at f1; exact f1.elim
            | ok d h2 =>
              rw [e] at f1
              have f2 : FinV S ρ1 H1 (fun c d H' => W c d σ H') (lR i h1 d h2) Q := f1
              clear f1 e
              unfold lR at f2
              split at f2
              · rename_i ys tl
                split at f2
                · rename_i pp
                  intro ρ' v H' st' hr' rv
                  obtain ⟨t, e3, hf⟩ := st'.pre
                  have e0 : ρ'[0]? = some a := by rw [e3]; rfl
                  have ob := hr'.at_ 0 (.lst ys) a rfl e0
                  cases ob with
                  | @lst _ _ us u1 u2 =>
                    -- for the caller only the list at a is another
                    have stc : Step ρ1 H1 ρ1 H' := by
                      refine ⟨⟨[], by simp, by simp⟩, fun b o q' c => ?_, st'.there⟩
                      refine st'.keep b o q' ?_
                      rcases c with c | c
                      · left
                        intro hm
                        rw [List.mem_singleton.mp hm] at c
                        exact c (List.mem_of_getElem? ga)
                      · exact .inr c
                    refine f2 ρ1 v H' stc ⟨by simp [hr1.len], hr1.nd, fun j w b e1 e2 => ?_⟩ (rv.any pp.1)
                    by_cases hj : j = i
                    · subst hj
                      rw [ga] at e2
                      cases e2
                      have hl : j < h1.length := by
                        rw [← hr1.len]
                        exact (List.getElem?_eq_some_iff.mp ga).1
                      rw [List.getElem?_set_self hl] at e1
                      cases e1
                      exact .lst u1 (u2.any pp.2)
                    · rw [List.getElem?_set_ne (Ne.symm hj)] at e1
                      have hb' : b ≠ a := by
                        rintro rfl
                        obtain ⟨l1, x1⟩ := List.getElem?_eq_some_iff.mp ga
                        obtain ⟨l2, x2⟩ := List.getElem?_eq_some_iff.mp e2
                        exact hj ((List.getElem_inj hr1.nd).mp (x2.trans x1.symm))
                      exact (hr1.at_ j w b e1 e2).mono stc fun u z => st'.keep b u z (.inl (by simpa using hb'))
                · exact f2.elim
              · exact f2.elim
        · exact f1.elim
      · exact f1.elim
  · exact f1.elim
theorem de_callP (F : FnOk X.prog X.w X.K X.mg X.base (L2.CX X.prog X.w) k f fd ps (SpD S g)) (hr : Room k X.A) (hm : X.mg x = some (.ref f)) (hk : PySem.W.keepIn X.K (.ref f) = true) (hb : Binds X.K fd ps []) (tk : Takes X W) (ha : PA X (e :: es) (dnA S W ea)) (hg : Gl X x := by rfl)
    (hdb : (x == ("__debug__" : Str)) = false := by decide) (he : starEach (e :: es) X.env = (false, eval e X.env) :: starEach es X.env := by rfl) (hpl : (backTo pos (starEach es X.env)).any (·.1) = false := by rfl) :
    PE X (.Call (.Name x p) (e :: es) [] pos) (dn S W (eP g ea)) := PE.mono' (pe_callSD (E := WE W) F hr hg hm hk hb .nil (fun σ => passAt tk σ) ha hdb he hpl) fun σ H Q h => by
  obtain ⟨ρ, ds, hd, sr, hr, f⟩ := h
  refine ⟨ρ, ds, hd, sr, hr, Fin.bind (r := ea ds hd) f fun ρ1 h1 H1 xs vs st hr1 vr f1 => ?_⟩
  rw [List.append_nil]
  split at f1
  · rename_i pp
    refine ⟨[], xs, [], vr.anyF pp, HR.none, ?_⟩
    split at f1
    · rename_i j h2 e
      rw [e]
      split at f1
      · rename_i ys ez
        split at f1
        · rename_i py
          intro ρ' v H' st' hr' rv
          obtain ⟨a, us, rfl, ga, q, rz⟩ := hr'.lsto rv ez
          obtain ⟨t, e3, hf⟩ := st'.pre
          have ha1 : H1 a = none := hf a (by
            have := List.mem_of_getElem? ga
            rw [e3] at this
            simpa using this)
          have wh : Step ρ1 H1 ρ1 H' := st'.whole
          have na : a ∉ ρ1 := hr1.notin ha1
          have stc : Step ρ1 H1 (ρ1 ++ [a]) H' := ⟨⟨[a], rfl, fun b hb => by rw [List.mem_singleton.mp hb]; exact ha1⟩, wh.keep, wh.there⟩
          have hrw := hr1.whole (ρ' := ρ') st'
          refine f1 (ρ1 ++ [a]) (.ref a) H' stc ⟨by simp [hr1.len], ?_, fun i u b e1 e2 => ?_⟩ (.obj (by rw [← hr1.len]; simp))
          · rw [List.nodup_append]
            refine ⟨hr1.nd, by simp, fun c hc b hb e => ?_⟩
            rw [List.mem_singleton.mp hb] at e
            rw [e] at hc
            exact na hc
          · have wsx : WS S.K ρ1 H' (ρ1 ++ [a]) H' := ⟨fun i b q => by rw [List.getElem?_append_left (List.getElem?_eq_some_iff.mp q).1]; exact q, fun _ _ q => q, fun _ _ q => q⟩
            by_cases hi : i < ρ1.length
            · rw [List.getElem?_append_left hi] at e2
              rw [List.getElem?_append_left (by rw [← hr1.len]; exact hi)] at e1
              have q := hrw.at_ i u b e1 e2
              cases q with
              | lst g1 g2 => exact .lst g1 (g2.ws wsx)
              | ins g1 g2 g3 => exact .ins g1 g2 (g3.ws wsx)
              | dct g1 g2 g3 => exact .dct g1 g2 (g3.ws wsx)
            · have hi' : ρ1.length ≤ i := Nat.le_of_not_lt hi
              rw [List.getElem?_append_right hi'] at e2
              rw [List.getElem?_append_right (by rw [← hr1.len]; exact hi')] at e1
              rw [← hr1.len] at e1
              have z : i - ρ1.length = 0 := by
                cases w : i - ρ1.length with
                | zero => rfl
                | succ m => rw [w] at e2; simp at e2
              rw [z] at e1 e2
              simp at e1 e2
              subst e1 e2
              exact .lst q (rz.any py)
        · exact f1.elim
      · exact f1.elim
    · exact f1.elim
  · exact f1.elim
end
end Sh

end

section
set_option Elab.async false
set_option linter.all false
set_option maxRecDepth 100000
set_option maxHeartbeats 2000000
/-! dicts with texts as keys; methods of texts; calls by keywords -/
namespace Sh
open PySem PySem.Spec PyProof.Rows L2 PySem.ExD He

/-! ### dicts -/
def getL : List (List Nat) → List D → List Nat → Option D
  | k :: ks, d :: ds, z => if k = z then some d else getL ks ds z
  | _, _, _ => none
def putL : List (List Nat) → List D → List Nat → D → List D
  | k :: ks, d :: ds, z, v => (if k = z then v else d) :: putL ks ds z v
  | _, ds, _, _ => ds
theorem inr_ne {a b : List Nat} (h : ¬ a = b) : ¬ (Sum.inr ⟨a.toArray⟩ : Key) = .inr ⟨b.toArray⟩ := fun e => by
  injection e with e
  injection e with e
  exact h (by simpa using congrArg Array.toList e)
theorem dkz_cons (k : List Nat) (ks : List (List Nat)) (v : V) (vs : List V) : dkz (k :: ks) (v :: vs) = ((.inr ⟨k.toArray⟩ : Key), v) :: dkz ks vs := rfl
theorem getL_ok {K : PySem.W.Frag} {ρ : List Addr} {H : Hp} : ∀ {ks : List (List Nat)} {ds : List D} {vs : List V} {z : List Nat} {d : D}, VRs K ρ H ds vs → getL ks ds z = some d → ∃ v, valV (dkz ks vs) (.inr ⟨z.toArray⟩) = some v ∧ VR K ρ H d v
  | [], _, _, _, _, _, e => by simp [getL] at e
  | _ :: _, _, _, _, _, .nil, e => by simp [getL] at e
  | k :: ks, _, _, z, d, .cons (vs := vs) (v := v) r t, e => by
    rw [dkz_cons]
    by_cases h : k = z
    · subst h
      simp only [getL, if_true] at e
      cases e
      exact ⟨_, valV_pos rfl, r⟩
    · simp only [getL, if_neg h] at e
      obtain ⟨w, a, b⟩ := getL_ok t e
      exact ⟨w, by rw [valV_neg (inr_ne h)]; exact a, b⟩
theorem putL_len : ∀ (ks : List (List Nat)) (ds : List D) (z : List Nat) (d : D), (putL ks ds z d).length = ds.length
  | [], _, _, _ => rfl
  | _ :: _, [], _, _ => rfl
  | _ :: ks, _ :: ds, z, d => congrArg Nat.succ (putL_len ks ds z d)
theorem putL_map {K : PySem.W.Frag} {ρ : List Addr} {H : Hp} {z : List Nat} {d : D} {v : V} (rv : VR K ρ H d v) : ∀ {ks : List (List Nat)} {ds : List D} {vs : List V}, ks.length = ds.length → VRs K ρ H ds vs →
    ∃ us, (dkz ks vs).map (fun kv => if kv.1 = (.inr ⟨z.toArray⟩ : Key) then (kv.1, v) else kv) = dkz ks us ∧ VRs K ρ H (putL ks ds z d) us
  | [], _, _, h, .nil => ⟨[], rfl, .nil⟩
  | k :: ks, _, _, h, .cons (vs := vs) (v := w) r t => by
    obtain ⟨us, e, q⟩ := putL_map (z := z) (d := d) rv (Nat.succ.inj h) t
    by_cases hk : k = z
    · subst hk
      refine ⟨v :: us, ?_, ?_⟩
      · rw [dkz_cons, List.map_cons, e, if_pos rfl]
        rfl
      · show VRs K ρ H ((if k = k then d else _) :: _) _
        rw [if_pos rfl]
        exact .cons rv q
    · refine ⟨w :: us, ?_, ?_⟩
      · rw [dkz_cons, List.map_cons, e, if_neg (inr_ne hk)]
        rfl
      · show VRs K ρ H ((if k = z then d else _) :: _) _
        rw [if_neg hk]
        exact .cons r q
def oDGt (x y : D) (h : Hd) : R D := match x, y with
  | .obj i, .str z => match h[i]? with
    | some (.dct ks ds) => match getL ks ds z with
      | some d => .ok d h
      | none => .no
    | _ => .no
  | _, _ => .no
def oDPt (x y d : D) (h : Hd) : R Unit := match x, y with
  | .obj i, .str z => match h[i]? with
    | some (.dct ks ds) => match getL ks ds z with
      | some _ => if ks.length ≤ 15 then .ok () (h.set i (.dct ks (putL ks ds z d))) else .no
      | none => .no
    | _ => .no
  | _, _ => .no
def sDPt (o i e : Ex) : Sm := fun s h => rS (e s h) s fun d h1 => rS (o s h1) s fun x h2 => rS (i s h2) s fun y h3 => rS (oDPt x y d h3) s fun _ h4 => .nx s h4
def eDct (ks : List (List Nat)) (vs : Exs) : Ex := fun s h => (vs s (h ++ [.dct [] []])).bind fun xs h1 => match h1[h.length]? with
  | some (.dct [] []) => if xs.length = ks.length then .ok (.obj h.length) (h1.set h.length (.dct ks xs)) else .no
  | _ => .no
section
variable {X : Cx} {S : Su} {W : WX} {o i e : Expr} {eo ei ee : Ex} {pos pos' : Pos}
theorem de_dget (hK : S.K = X.K) (hu : X.A.units + 64 < cLine) (ho : PE X o (dn S W eo)) (hi : PE X i (dn S W ei)) (hs : NoSl i := by exact fun _ _ => rfl) : PE X (.Subscript o i pos) (dn S W (e2 oDGt eo ei)) := PE.mono' (pe_dget (by omega) ho hi hs) fun σ H Q h => by
  obtain ⟨ρ, ds, hd, sr, hr, f⟩ := h
  refine ⟨ρ, ds, hd, sr, hr, Fin.bind (r := eo ds hd) f fun ρ1 h1 H1 x vx st hr1 vr f1 => ⟨ρ1, ds, h1, sr.mono st, hr1, Fin.bind (r := ei ds h1) f1 fun ρ2 h2 H2 y vy st2 hr2 vr2 f2 => ?_⟩⟩
  unfold oDGt at f2
  split at f2
  · rename_i j z
    cases vr2
    split at f2
    · rename_i ks dd e
      obtain ⟨a, rfl, g, oo⟩ := hr2.obj e (vr.mono st2)
      cases oo with
      | @dct _ _ _ vs q1 q2 q3 =>
        split at f2
        · rename_i d e3
          obtain ⟨v, w1, w2⟩ := getL_ok q3 e3
          refine ⟨a, v, rfl, ?_, FinV.ok0 f2 hr2 w2⟩
          have := DGet.k (k := .inr ⟨z.toArray⟩) q1
          rw [w1] at this
          exact this
        · exact f2.elim
    · exact f2.elim
  · exact f2.elim
theorem ds_dput (hK : S.K = X.K) (hu : X.A.units + 64 < cLine) (ho : PE X o (dn S W eo)) (hi : PE X i (dn S W ei)) (he : PE X e (dn S W ee)) (hs : swapsWith e (some (.Subscript o i pos')) pos.line X.env = pure false := by rfl) :
    PS X (.Assign [.Subscript o i pos'] e pos) (dnS S W (sDPt eo ei ee)) := PS.mono' (ps_dput (by omega) ho hi he hs) fun E σ H h => by
  obtain ⟨ρ, ds, hd, sr, hr, f⟩ := h
  refine ⟨ρ, ds, hd, sr, hr, FinS.bind (r := ee ds hd) sr f fun ρ1 h1 H1 d vd st1 hr1 rd sr1 f1 => ?_⟩
  refine ⟨ρ1, ds, h1, sr1, hr1, FinS.bind (r := eo ds h1) sr1 f1 fun ρ2 h2 H2 x vx st2 hr2 rx sr2 f2 => ?_⟩
  refine ⟨ρ2, ds, h2, sr2, hr2, FinS.bind (r := ei ds h2) sr2 f2 fun ρ3 h3 H3 y vy st3 hr3 ry sr3 f3 => ?_⟩
  have rd3 := (rd.mono st2).mono st3
  unfold oDPt at f3
  split at f3
  · rename_i j z
    cases ry
    split at f3
    · rename_i ks dd e
      obtain ⟨a, rfl, g, oo⟩ := hr3.obj e (rx.mono st3)
      cases oo with
      | @dct _ _ _ vs q1 q2 q3 =>
        split at f3
        · rename_i d0 e3
          split at f3
          · rename_i hl
            obtain ⟨v0, w1, w2⟩ := getL_ok q3 e3
            have st4 : ∀ us, Step ρ3 H3 ρ3 (upd H3 a (.dK (dkz ks us))) := fun us => Step.set g q1 rfl
            obtain ⟨us, e5, q5⟩ := putL_map (z := z) rd3 q2 q3
            have hp : putK (dkz ks vs) (.inr ⟨z.toArray⟩) vd = dkz ks us := by
              unfold putK
              rw [if_pos (by rw [valV_any, w1]; rfl)]
              exact e5
            have hle : (dkz ks vs).length < sizeLine := by
              unfold dkz
              rw [List.length_zip, List.length_map]
              have : (15 : Nat) < sizeLine := by decide
              omega
            have dp := DPut.k (k := .inr ⟨z.toArray⟩) (v := vd) q1 hle
            rw [hp] at dp
            refine ⟨a, _, rfl, dp, ?_⟩
            have f4 : FinS S W ρ3 H3 (.nx ds (h3.set j (.dct ks (putL ks dd z d)))) E := f3
            exact f4 ρ3 σ _ (st4 us) (hr3.set g (.dct upd_same (by rw [putL_len]; exact q2) (q5.mono (st4 us)))) (sr3.mono (st4 us))
          · exact f3.elim
        · exact f3.elim
    · exact f3.elim
  · exact f3.elim
/-- pairs of a display: keys are texts -/
def trsK (W : WX) (S : Su) : List (List Nat) → List Ex → List (TE × TE)
  | k :: ks, v :: vs => (tC (.str ⟨k.toArray⟩), dn S W v) :: trsK W S ks vs
  | _, _ => []
def asL : List Ex → Exs
  | [] => as0
  | e :: es => as1 e (asL es)
theorem trsK_ok : ∀ (ks : List (List Nat)) (vs : List Ex) (ρ : List Addr) (ds : Sl) (hd : Hd) (σ : L2.St) (H : Hp) (Q : List (V × V) → Hp → Prop), SR S.K ρ H ds σ → HR S ρ hd H → ks.length = vs.length →
    FinVs S ρ H (fun c d H' => W c d σ H') (asL vs ds hd) (fun ws H' => Q ((ks.map fun k => V.str ⟨k.toArray⟩).zip ws) H') → tPairs (trsK W S ks vs) σ H Q
  | [], [], ρ, ds, hd, σ, H, Q, sr, hr, hl, f => f ρ [] H Step.refl hr .nil
  | k :: ks, v :: vs, ρ, ds, hd, σ, H, Q, sr, hr, hl, f => by
    show dn S W v σ H _
    refine ⟨ρ, ds, hd, sr, hr, Fin.bind (r := v ds hd) f fun ρ1 h1 H1 x vx st hr1 vr f1 => ?_⟩
    refine trsK_ok ks vs ρ1 ds h1 σ H1 _ (sr.mono st) hr1 (Nat.succ.inj hl) ?_
    refine Fin.bind (r := asL vs ds h1) f1 fun ρ2 h2 H2 xs vxs st2 hr2 vr2 f2 => ?_
    exact f2 ρ2 (vx :: vxs) H2 Step.refl hr2 (.cons (vr.mono st2) vr2)
  | [], _ :: _, _, _, _, _, _, _, _, _, hl, _ => by cases hl
  | _ :: _, [], _, _, _, _, _, _, _, _, hl, _ => by cases hl
theorem merge_dkz (ks : List (List Nat)) (vs : List V) (hk : ks.Nodup) : mergeK [] (dkz ks vs) = dkz ks vs := by
  have gen : ∀ (ks : List (List Nat)) (vs : List V) (acc : List (Key × V)), ks.Nodup → (∀ k ∈ ks, valV acc (.inr ⟨k.toArray⟩) = none) → mergeK acc (dkz ks vs) = acc ++ dkz ks vs := by
    intro ks
    induction ks with
    | nil => intro vs acc _ _; simp [dkz, mergeK]
    | cons k ks ih =>
      intro vs acc hn ha
      cases vs with
      | nil => simp [dkz, mergeK]
      | cons v vs =>
        rw [dkz_cons]
        show mergeK (putK acc (.inr ⟨k.toArray⟩) v) (dkz ks vs) = _
        rw [putK_new v (ha k (List.mem_cons_self ..)), ih vs _ (List.nodup_cons.mp hn).2, List.append_assoc]
        · rfl
        · intro k' hk'
          rw [valV_snoc _ _ _ _ (ha k (List.mem_cons_self ..)), if_neg]
          · exact ha k' (List.mem_cons_of_mem _ hk')
          · refine inr_ne fun e => ?_
            subst e
            exact (List.nodup_cons.mp hn).1 hk'
  have := gen ks vs [] hk (fun k _ => rfl)
  rw [this]
  rfl
theorem de_dct {keys : List (Option Expr)} {values : List Expr} (ks : List (List Nat)) (vs : List Ex) (h : PPs X pos keys values (trsK W S ks vs)) (hk : ks.Nodup := by decide) (hl : ks.length = vs.length := by rfl) (h15 : ks.length ≤ 15 := by decide) (hall : keys.all (·.isSome) = true := by rfl) (hkv : keys.length = values.length := by rfl) (h0 : keys ≠ [] := by simp)
    (hk15 : keys.length ≤ 15 := by decide) : PE X (.Dict keys values pos) (dn S W (eDct ks (asL vs))) := PE.mono' (pe_disp h hall hkv h0 hk15) fun σ H Q h => by
  obtain ⟨ρ, ds, hd, sr, hr, f⟩ := h
  intro p hp
  have st0 : Step ρ H (ρ ++ [p]) (upd H p (.dK [])) := Step.new1 hp
  have hr0 : HR S (ρ ++ [p]) (hd ++ [.dct [] []]) (upd H p (.dK [])) := hr.push hp (.dct (ks := []) (ds := []) (vs := []) upd_same rfl .nil)
  refine trsK_ok ks vs (ρ ++ [p]) ds (hd ++ [.dct [] []]) σ _ _ (sr.mono st0) hr0 hl ?_
  have f' : FinV S (ρ ++ [p]) (upd H p (.dK [])) (fun c d H' => W c d σ H') (eDct ks (asL vs) ds hd) Q := Fin.mono st0 f
  refine Fin.bind (r := asL vs ds (hd ++ [.dct [] []])) f' fun ρ1 h1 H1 xs vxs st hr1 vr f1 => ?_
  have gp : (ρ ++ [p])[hd.length]? = some p := by rw [← hr.len]; simp
  have gp1 := st.get gp
  split at f1
  · rename_i eg
    split at f1
    · rename_i hxl
      have oo := hr1.at_ _ _ _ eg gp1
      cases oo with
      | @dct _ _ _ us q1 q2 q3 =>
        cases q3
        have q1' : H1 p = some (.dK []) := q1
        have st4 : Step ρ1 H1 ρ1 (upd H1 p (.dK (dkz ks vxs))) := Step.set gp1 q1 rfl
        refine ⟨q1', dkz ks vxs, ?_, ?_, ?_⟩
        · unfold dkz
          clear f1 hl h15 hk h f f' hall hkv hk15 h0
          have : ∀ (ks : List (List Nat)) (vs : List V), (ks.map fun k => V.str ⟨k.toArray⟩).zip vs = ((ks.map fun k => (.inr ⟨k.toArray⟩ : Key)).zip vs).map fun kv => (kV kv.1, kv.2) := by
            intro ks
            induction ks with
            | nil => intro vs; rfl
            | cons k ks ih =>
              intro vs
              cases vs with
              | nil => rfl
              | cons v vs =>
                rw [List.map_cons, List.map_cons, List.zip_cons_cons, List.zip_cons_cons, List.map_cons, ih]
                rfl
          exact this _ _
        · unfold dkz
          rw [List.length_zip, List.length_map]
          omega
        · rw [merge_dkz _ _ hk]
          refine f1 ρ1 (.ref p) _ st4 (hr1.set gp1 (.dct upd_same hxl.symm (vr.mono st4))) (.obj gp1)
    · exact f1.elim
  · exact f1.elim
end
end Sh
namespace Sh
open PySem PySem.Spec PyProof.Rows L2 PySem.ExD He
/-! ### methods of texts without arguments -/
def oAln (x : D) (h : Hd) : R D := match x with
  | .str l => .ok (.bl (Txt.isalnum ⟨l.toArray⟩)) h
  | _ => .no
theorem de_isalnum {X : Cx} {S : Su} {W : WX} {o : Expr} {eo : Ex} {apos cpos : Pos} (ho : PE X o (dn S W eo)) (hbase : attributeBase o "isalnum" X.env (eval o X.env) = eval o X.env := by rfl) (hline : (apos.endLine == cpos.line) = true := by rfl) :
    PE X (.Call (.Attribute o "isalnum" apos) [] [] cpos) (dn S W (e1 oAln eo)) := PE.mono' (pe_bm0 PySem.F.plainAttrs_str PySem.F.slot_str_isalnum PySem.F.type_str_isalnum mt_isalnum ho hbase hline) fun σ H Q h => by
  obtain ⟨ρ, ds, hd, sr, hr, f⟩ := h
  refine ⟨ρ, ds, hd, sr, hr, Fin.bind (r := eo ds hd) f fun ρ1 h1 H1 x vx st hr1 vr f1 => ?_⟩
  unfold oAln at f1
  split at f1
  · cases vr
    exact ⟨rfl, _, rfl, rfl, trivial, FinV.ok0 f1 hr1 (.bl _)⟩
  · exact f1.elim
/-! ### a call by one keyword, values alone -/
theorem de_callKQ {X : Cx} {S : Su} {W : WX} {k : Nat} {f : Addr} {fd : FuncData} {nm : Str} {g : Fn} {x : Str} {p pos kpos : Pos} {e : Expr} {ee : Ex} (F : FnOk X.prog X.w X.K X.mg X.base (L2.CX X.prog X.w) k f fd [nm] (SpD S g)) (hr : Room k X.A) (hm : X.mg x = some (.ref f)) (hk : PySem.W.keepIn X.K (.ref f) = true)
    (hb : ∀ (s : Shared) (u : Value), X.K.In s.heap → BindsTo s fd ⟨[], [(nm, u)]⟩ [(nm, u)]) (tk : Takes X W) (he : PE X e (dn S W ee)) (hg : Gl X x := by rfl)
    (hdb : (x == ("__debug__" : Str)) = false := by decide) (hall : (backToKw pos (keywordEach [⟨some nm, e, kpos⟩] X.env)).all (·.1.isSome) = true := by rfl) (hks : (backToKw pos (keywordEach [⟨some nm, e, kpos⟩] X.env)).filterMap (·.1) = [nm] := by rfl)
    (hpl : ((backTo pos (starEach [] X.env)).any (·.1) || (backToKw pos (keywordEach [⟨some nm, e, kpos⟩] X.env)).any (·.1.isNone)) = false := by rfl) :
    PE X (.Call (.Name x p) [] [⟨some nm, e, kpos⟩] pos) (dn S W (eQ g (as1 ee as0))) := ⟨fun pins s σ H Q I h => by
  obtain ⟨ρ, ds, hd, sr, hr', fi⟩ := h
  refine wpAny_Call_Name_kw (ld_glob I hg hm ?_ hdb)
  have hkw : PK X [⟨some nm, e, kpos⟩] (tCons (dn S W ee) tNil) := pk_cons he pk_nil
  have fi' : FinV S ρ H (fun c d H' => W c d σ H') ((ee ds hd).bind fun x h1 => if D.pures [x] = true then qR (g [x] []) h1 else .no) Q := by
    have e0 : eQ g (as1 ee as0) ds hd = (ee ds hd).bind fun x h1 => if D.pures [x] = true then qR (g [x] []) h1 else .no := by
      unfold eQ as1
      cases ee ds hd <;> rfl
    rw [← e0]
    exact fi
  refine PySem.W.callWith_KW0 (h₀ := X.base) I.ok.mod.kin hk hall (thn (hkw.run pos pins s σ H (fun zs H2 => ∃ z, zs = [z] ∧ SpD S g zs H2 Q ((WE W) σ)) I ?_) fun ws s2 ⟨zs, H2, I2, rz, q2⟩ => ⟨I2.kIn, ?_⟩) hpl
  · refine ⟨ρ, ds, hd, sr, hr', Fin.bind (r := ee ds hd) fi' fun ρ1 h1 H1 y vy st hr1 vr f1 => ?_⟩
    split at f1
    · rename_i py
      exact ⟨vy, rfl, [], [y], [], VRs.any (.cons vr .nil) py, HR.none, qR_ok hr1 f1⟩
    · exact f1.elim
  · rw [hks]
    obtain ⟨z, rfl, q3⟩ := q2
    cases rz with
    | @cons _ u _ _ r1 r2 =>
      cases r2
      refine wpAny_call (codeAny_mono (F.run X.A X.stack s2 H2 ⟨[], [(nm, u)]⟩ [u] [z] Q _ hr I2.env0 (hb s2 u I2.kIn) (.cons r1 .nil) q3) fun r s' hq => ?_)
      cases r with
      | error e => exact passAt tk σ pins H2 s2 e s' I2 hq
      | ok fl =>
        cases fl with
        | ret u => exact I2.after hq
        | next => exact False.elim hq
        | brk => exact False.elim hq
        | cont => exact False.elim hq⟩
/-! ### try: .. except C as x: return (a text, x.index) -/
def exRtC (z : List Nat) (fs : List D) (h : Hd) : RS := match fs with
  | [d] => .rt (.tup [.str z, d]) h
  | _ => .no
def sTrC (c i : Nat) (z : List Nat) (b : Sm) : Sm := fun s h => match b s h with
  | .exc c' fs s1 h1 => if c' = c ∧ i < s1.length then exRtC z fs h1 else .no
  | .nx s1 h1 => .nx s1 h1
  | .rt d h1 => .rt d h1
  | .ct s1 h1 => .ct s1 h1
  | .bk s1 h1 => .bk s1 h1
  | .no => .no
def tSuC (i : Nat) (z : List Nat) (C : Addr) : Addr → Value → Option Addr → TS := fun a cls d => tRet (tTup (tCons (tC (.str ⟨z.toArray⟩)) (tCons (tByX C a cls d (tVar i)) tNil)))
section
variable {X : Cx} {S : Su} {W : WX} {C fI : Addr} {cx iq : Str} {tl : List Value} {newId : String}
theorem ds_tryC {n : Str} {c i : Nat} (z : List Nat) {body : List Stmt} {b : Sm} {np p1 p2 p3 p4 p5 pos pos' : Pos} {j k2} (hK : S.K = X.K) (hC : S.ca c = C) (hcf : S.cf c = [("index" : Str)]) (hs : X.stack = X.env :: X.outer) (hf : X.env.frame = some X.env.locals) (hN : X.N.Nodup) (hi : X.N[i]? = some n) (hln : X.env.kindOf n = some .local) (T : ExT X.K X.mg cx iq tl newId C fI) (tk : Takes X W)
    (hb : ∀ (W : WX) (pn : List (Addr × Obj)) (xe : Value → Shared → Prop), Takes (X.tr pn xe) W → PassesOwn (model X.prog X.w) X.A X.env xe → PSs (X.tr pn xe) body (dnS S W b))
    (hv : Vis X.env.scope n) (hg : Gl X cx := by rfl) (hdb : (cx == ("__debug__" : Str)) = false := by decide) (hdn : (n == ("__debug__" : Str)) = false := by decide) (hcn : (n == ("__classdict__" : Str)) = false := by decide)
    (h1 : ∀ (a : Addr) (pn : List (Addr × Obj)), starEach [.Constant (.str ⟨z.toArray⟩) j p1, .Attribute (.Name n p2) "index" p3] (X.suite a pn).env = (false, eval (.Constant (.str ⟨z.toArray⟩) j p1) (X.suite a pn).env) :: starEach [.Attribute (.Name n p2) "index" p3] (X.suite a pn).env := by intro _ _; rfl)
    (h2 : ∀ (a : Addr) (pn : List (Addr × Obj)), starEach [.Attribute (.Name n p2) "index" p3] (X.suite a pn).env = (false, eval (.Attribute (.Name n p2) "index" p3) (X.suite a pn).env) :: starEach [] (X.suite a pn).env := by intro _ _; rfl)
    (h3 : attributeBase (.Name n p2) "index" X.env (eval (.Name n p2) X.env) = eval (.Name n p2) X.env := by rfl) :
    PS X (.Try body [.ExceptHandler (some (.Name cx np)) (some n) [.Return (some (.Tuple [.Constant (.str ⟨z.toArray⟩) j p1, .Attribute (.Name n p2) "index" p3] k2 p4)) p5] pos'] [] [] pos) (dnS S W (sTrC c i z b)) := by
  have key := ps_try_as (X := X) (x := cx) (n := n) (c := .ref C) (i := i) (body := body) (pos := pos) (pos' := pos') (np := np) (tb := fun W => dnS S W b) (ts := tSuC i z C) (Wout := W) (suite := []) (b₀ := .Return (some (.Tuple [.Constant (.str ⟨z.toArray⟩) j p1, .Attribute (.Name n p2) "index" p3] k2 p4)) p5)
    hs hf hN hi hln ⟨hg, hdb, .inl T.gC⟩ tk hb (fun a oe cls d pn hz hfl => by
      have hvar : PE (X.suite a ((a, oe) :: pn)) (.Name n p2) (tVar i) := pe_var (X := X.suite a ((a, oe) :: pn)) hi hv hdn hcn
      exact pss_one (ps_ret (pe_tup (pa_cons pe_str (pa_cons (pe_byX T hz hfl hvar h3) pa_nil (h2 _ _)) (h1 _ _)))))
  refine PS.mono' key fun E σ H h => ?_
  obtain ⟨ρ, ds, hd, sr, hr, f⟩ := h
  refine ⟨ρ, ds, hd, sr, hr, ?_⟩
  unfold sTrC at f
  cases e : b ds hd with
  | nx a h' => rw [e] at f; exact f
  | rt a h' => rw [e] at f; exact f
  | ct a h' => rw [e] at f; exact f
  | bk a h' => rw [e] at f; exact f
  | no => rw [e] at f; exact f
  | exc c' fs s1 h' =>
    rw [e] at f
    intro ρ' σ' dd H' st hr' sr' ex
    obtain ⟨vs, hx, rx⟩ := ex
    have g : FinS S W ρ H (if c' = c ∧ i < s1.length then exRtC z fs h' else .no) E := f
    clear f e
    by_cases hcc : c' = c ∧ i < s1.length
    · rw [if_pos hcc] at g
      obtain ⟨rfl, hlt⟩ := hcc
      cases fs with
      | nil => exact g.elim
      | cons d fr =>
        cases fr with
        | cons d2 fr => exact g.elim
        | nil =>
          obtain ⟨v, rfl, rv⟩ := rx.one
          rw [hcf] at hx
          have hx : H' dd = some (.xd [(("index" : Str), v)]) := hx
          refine ⟨true, by rw [hC]; exact T.te, fun _ a na => ?_, fun q => Bool.noConfusion q⟩
          have hil' : i < σ'.length := by
            rw [← sr'.len]
            exact hlt
          refine ⟨V.ref a, by rw [List.getElem?_set_self hil'], rfl, by rw [hC], dd, v, rfl, hx, ?_⟩
          refine ⟨by rw [sizeLine_eq]; show 2 ≤ 16777216; omega, fun p hp => ?_⟩
          have stp : Step ρ' H' ρ' (upd H' p (.tup [.str ⟨z.toArray⟩, v])) := Step.new hp
          exact g ρ' (.ref p) _ (st.trans stp) (hr'.new hp) (.tup (SqT.of upd_same) (.cons (.str z) (.cons (rv.mono stp) .nil)))
    · rw [if_neg hcc] at g
      exact g.elim
end
end Sh

end

section
set_option Elab.async false
set_option linter.all false
set_option maxRecDepth 100000
set_option maxHeartbeats 2000000
/-! the greatest of a list of ints -/
namespace Sh
open PySem PySem.Spec PyProof.Rows L2 PySem.ExD He
def intsD : List D → Option (List Int)
  | [] => some []
  | .int b :: r => match intsD r with
    | some bs => some (b :: bs)
    | none => none
  | _ => none
def maxI : Int → List Int → Int
  | a, [] => a
  | a, b :: r => maxI (if a < b then b else a) r
def oMaxL (xs : List D) (h : Hd) : R D := match xs with
  | [x] => match lsts x h with
    | some ys => match intsD ys with
      | some (n :: ns) => .ok (.int (maxI n ns)) h
      | _ => .no
    | none => .no
  | _ => .no
theorem ints_of {K : PySem.W.Frag} {ρ : List Addr} {H : Hp} : ∀ {ds : List D} {vs : List V} {ls : List Int}, VRs K ρ H ds vs → intsD ds = some ls → vs = ls.map V.int
  | _, _, _, .nil, e => by
    unfold intsD at e
    cases e
    rfl
  | d :: ds, _, ls, .cons r t, e => by
    cases d with
    | int b =>
      cases r
      unfold intsD at e
      split at e
      · rename_i bs' e'
        cases e
        rw [ints_of t e']
        rfl
      · cases e
    | _ => unfold intsD at e; cases e
theorem maxI_mem : ∀ (a : Int) (l : List Int), maxI a l = a ∨ maxI a l ∈ l
  | a, [] => .inl rfl
  | a, b :: r => by
    unfold maxI
    rcases maxI_mem (if a < b then b else a) r with h | h
    · rw [h]
      by_cases c : a < b
      · rw [if_pos c]; exact .inr (List.mem_cons_self ..)
      · rw [if_neg c]; exact .inl rfl
    · exact .inr (List.mem_cons_of_mem _ h)
theorem maxI_le : ∀ (a : Int) (l : List Int), a ≤ maxI a l ∧ ∀ y ∈ l, y ≤ maxI a l
  | a, [] => ⟨Int.le_refl _, fun _ h => by cases h⟩
  | a, b :: r => by
    unfold maxI
    obtain ⟨h1, h2⟩ := maxI_le (if a < b then b else a) r
    by_cases c : a < b
    · rw [if_pos c] at h1 h2 ⊢
      refine ⟨by omega, fun y hy => ?_⟩
      rcases List.mem_cons.mp hy with e | hy
      · subst e; exact h1
      · exact h2 y hy
    · rw [if_neg c] at h1 h2 ⊢
      refine ⟨h1, fun y hy => ?_⟩
      rcases List.mem_cons.mp hy with e | hy
      · subst e; omega
      · exact h2 y hy
theorem cs_maxL {S : Su} : CalS S (rMax S.K) oMaxL := by
  intro ρ hd H W xs vs Q hr rs f
  unfold oMaxL at f
  split at f
  · obtain ⟨v, rfl, r⟩ := rs.one
    split at f
    · rename_i ys e
      obtain ⟨i, a, ws, rfl, rfl, _, g, rs, _⟩ := lsts_of hr r e
      split at f
      · rename_i n ns e2
        have ew := ints_of rs e2
        subst ew
        refine ⟨a, n :: ns, rfl, SqL.of g, Nat.succ_pos _, fun m hm hle => ?_⟩
        have : m = maxI n ns := by
          have h1 : m ≤ maxI n ns := by
            rcases List.mem_cons.mp hm with e | hm
            · subst e; exact (maxI_le _ _).1
            · exact (maxI_le n ns).2 m hm
          have h2 : maxI n ns ≤ m := by
            rcases maxI_mem n ns with h | h
            · rw [h]; exact hle n (List.mem_cons_self ..)
            · exact hle _ (List.mem_cons_of_mem _ h)
          omega
        rw [this]
        exact FinV.ok0 f hr (.int _)
      · exact f.elim
    · exact f.elim
  · exact f.elim
end Sh

end

section
set_option Elab.async false
set_option linter.all false
set_option maxRecDepth 100000
set_option maxHeartbeats 2000000
namespace Sh
open PySem PySem.Spec PyProof.Rows L2 PySem.ExD He
/-! ### how one keyword binds -/
theorem kb_of {K : PySem.W.Frag} {x qual nm : Str} {params : Arguments} {body : List Stmt} {scope : Scope} {kws : List (Str × V)} {f : Addr} {fd : FuncData} (F : FunD K x qual params body scope [] kws f fd)
    (h : ∀ (kV doc pm : Value) (an : Option Addr) (cdv ct u : Value), bindArgs (PySem.W.fnOf x qual params body scope .none kV doc pm an cdv ct) ⟨[], [(nm, u)]⟩ = pure [(nm, u)]) (s : Shared) (u : Value) (_ : K.In s.heap) : BindsTo s fd ⟨[], [(nm, u)]⟩ [(nm, u)] := by
  obtain ⟨oc, od, dV, kV, doc, pm, an, cdv, ct, osl, rfl, lk, hcd, hD, hK⟩ := F.ex
  rcases hD with ⟨_, rfl⟩ | ⟨e, _⟩
  · exact .of_eq (h kV doc pm an cdv ct u)
  · exact absurd rfl e
/-! ### split -/
def oSplit (x y : D) (h : Hd) : R D := match x, y with
  | .str l, .str z => if z.isEmpty = false ∧ l.length ≤ M then newL ((Txt.split ⟨l.toArray⟩ ⟨z.toArray⟩).map fun s => .str s.cps.toList) h else .no
  | _, _ => .no
theorem de_split {X : Cx} {S : Su} {W : WX} {o e : Expr} {eo ee : Ex} {apos pos : Pos} (ho : PE X o (dn S W eo)) (he : PE X e (dn S W ee)) (hs : starEach [e] X.env = [(false, eval e X.env)] := by rfl) (hbase : attributeBase o "split" X.env (eval o X.env) = eval o X.env := by rfl) (hline : (apos.endLine == pos.line) = true := by rfl) :
    PE X (.Call (.Attribute o "split" apos) [e] [] pos) (dn S W (e2 oSplit (e1 isS eo) ee)) := PE.mono' (pe_split ho he hs hbase hline) fun σ H Q h => by
  obtain ⟨ρ, ds, hd, sr, hr, f⟩ := h
  have f : FinV S ρ H (fun c d H' => W c d σ H') ((eo ds hd).bind fun x h1 => (isS x h1).bind fun x h1 => (ee ds h1).bind fun y h2 => oSplit x y h2) Q := by
    unfold e2 e1 at f
    cases e : eo ds hd with
    | ok a b => rw [e] at f; exact f
    | exc a b c => rw [e] at f; exact f
    | no => rw [e] at f; exact f
  refine ⟨ρ, ds, hd, sr, hr, Fin.bind (r := eo ds hd) f fun ρ1 h1 H1 x vx st hr1 vr f1 => ?_⟩
  unfold isS at f1
  split at f1
  · rename_i a
    cases vr
    refine ⟨⟨_, rfl⟩, ρ1, ds, h1, sr.mono st, hr1, Fin.bind (r := ee ds h1) f1 fun ρ2 h2 H2 y vy st2 hr2 vr2 f2 => ?_⟩
    unfold oSplit at f2
    split at f2
    · rename_i l z ex
      cases ex
      cases vr2
      split at f2
      · rename_i hz
        refine ⟨_, _, rfl, rfl, ?_, ?_, ?_⟩
        · cases z with
          | nil => cases hz.1
          | cons c z => rfl
        · rw [str_len]
          have := hz.2
          unfold M at this
          rw [sizeLine_eq]
          omega
        · unfold rNewStrs
          refine (FinV.newL f2 hr2 ?_).2
          clear f2 f1 f
          induction Txt.split ⟨a.toArray⟩ ⟨z.toArray⟩ with
          | nil => exact .nil
          | cons s ls ih => exact .cons (.str s.cps.toList) ih
      · exact f2.elim
    · exact f2.elim
  · exact f1.elim
end Sh

end

section
set_option Elab.async false
set_option linter.all false
set_option maxRecDepth 100000
set_option maxHeartbeats 2000000
namespace Sh
open PySem PySem.Spec PyProof.Rows L2 PySem.ExD He
def sPar3 (i j l : Nat) (a : Exs) : Sm := fun s h => rS (a s h) s fun xs h1 => match xs with
  | [x, y, z] => .nx (((s.set i (some x)).set j (some y)).set l (some z)) h1
  | _ => .no
theorem VRs.three {K : PySem.W.Frag} {ρ : List Addr} {H : Hp} {x y z : D} {vs : List V} (r : VRs K ρ H [x, y, z] vs) : ∃ u v w, vs = [u, v, w] ∧ VR K ρ H x u ∧ VR K ρ H y v ∧ VR K ρ H z w := by
  cases r with
  | cons r1 r2 =>
    cases r2 with
    | cons r3 r4 =>
      cases r4 with
      | cons r5 r6 => cases r6; exact ⟨_, _, _, rfl, r1, r3, r5⟩
theorem ds_par3 {X : Cx} {S : Su} {W : WX} {es : Exs} {pos : Pos} (i j l : Nat) {x y z : Str} {b c d : Expr} {px py pz pt : Pos} {kt k2 pt2} (hc : X.calm = true) (hN : X.N.Nodup) (ha : PA X [b, c, d] (dnA S W es)) (hij : i ≠ j := by decide) (hil : i ≠ l := by decide) (hjl : j ≠ l := by decide) (hi : X.N[i]? = some x := by rfl) (hj : X.N[j]? = some y := by rfl) (hl : X.N[l]? = some z := by rfl)
    (hx : X.env.scope.names.lookup x = some .local := by rfl) (hy : X.env.scope.names.lookup y = some .local := by rfl) (hz : X.env.scope.names.lookup z = some .local := by rfl)
    (hw : swappedStores [.Tuple [.Name x px, .Name y py, .Name z pz] kt pt] (.Tuple [b, c, d] k2 pt2) X.env = pure (some [x, y, z]) := by rfl)
    (hs : swapsWithSole [.Tuple [.Name x px, .Name y py, .Name z pz] kt pt] (.Tuple [b, c, d] k2 pt2) pos.line X.env = pure false := by rfl) :
    PS X (.Assign [.Tuple [.Name x px, .Name y py, .Name z pz] kt pt] (.Tuple [b, c, d] k2 pt2) pos) (dnS S W (sPar3 i j l es)) := PS.mono' (ps_par3 hc hN hi hj hl hij hil hjl hx hy hz ha hw hs) fun E σ H h => by
  obtain ⟨ρ, ds, hd, sr, hr, f⟩ := h
  refine ⟨ρ, ds, hd, sr, hr, FinS.bind (r := es ds hd) sr f fun ρ1 h1 H1 xs vs st1 hr1 rs sr1 f1 => ?_⟩
  split at f1
  · obtain ⟨u, v, w, rfl, r1, r2, r3⟩ := rs.three
    exact ⟨u, v, w, rfl, f1 ρ1 _ H1 Step.refl hr1 (((sr1.set i r1).set j r2).set l r3)⟩
  · exact f1.elim
end Sh

end

section
set_option Elab.async false
set_option linter.all false
set_option maxRecDepth 100000
set_option maxHeartbeats 4000000
namespace T
open PySem PySem.Spec PyProof.Rows L2 PySem.ExD He Sh
def cNum (K : PySem.W.Frag) : Nat → Addr
  | 0 => ga K "Place"
  | 1 => ga K "Reader"
  | 2 => ga K "InvalidText"
  | 3 => ga K "Halt"
  | _ => 0
def cFl : Nat → List Str
  | 0 => [("value" : Str), ("depth" : Str), ("need" : Str), ("right" : Str)]
  | 1 => [("pieces" : Str), ("size" : Str), ("at" : Str)]
  | 2 => [("index" : Str)]
  | 3 => [("index" : Str)]
  | _ => []
def su (K : PySem.W.Frag) : Su := ⟨K, cNum K, cFl⟩
def t_at : List (Nat × Nat) := [(1, 2)]
def t_depth : List (Nat × Nat) := [(0, 1)]
def t_need : List (Nat × Nat) := [(0, 2)]
def t_pieces : List (Nat × Nat) := [(1, 0)]
def t_right : List (Nat × Nat) := [(0, 3)]
def t_size : List (Nat × Nat) := [(1, 1)]
def t_value : List (Nat × Nat) := [(0, 0)]
/-- is_whole -/
def b_0 (G : Nat → Fn) : Sm :=
  (sRet (eAn (e1 (oIsi 2) (eV 0)) (e1 oNot (e1 (oIsi 1) (eV 0)))))
def c_0 (G : Nat → Fn) : Fn := fnR 1 1 (b_0 G)
/-- is_between -/
def b_1 (G : Nat → Fn) : Sm :=
  (sRet (eAn (eB (G 0) (as1 (eV 0) as0)) (eCh oLe oLe (eV 1) (eV 0) (eV 2))))
def c_1 (G : Nat → Fn) : Fn := fnR 3 3 (b_1 G)
/-- is_tuple_of -/
def b_2 (G : Nat → Fn) : Sm :=
  (sRet (eAn (e1 (oIsi 4) (eV 0)) (e2 (oEq false) (eB oLen (as1 (eV 0) as0)) (eV 1))))
def c_2 (G : Nat → Fn) : Fn := fnR 2 2 (b_2 G)
/-- are_figures -/
def b_3 (G : Nat → Fn) : Sm :=
  (sRet (eAn (e2 (oEq true) (eV 0) (eC (.str []))) (eB oAll (as1 (eC_ (iSq (eV 0)) (.nm 1) [1] tYs (e2 (oIn false) (eV 1) (eC k_FIGURES))) as0))))
def c_3 (G : Nat → Fn) : Fn := fnR 1 2 (b_3 G)
/-- is_numeral -/
def b_4 (G : Nat → Fn) : Sm :=
  (sRet (eAn (eQ (G 3) (as1 (eV 0) as0)) (eAn (e2 oLe (eB oLen (as1 (eV 0) as0)) (eC k_MOST_FIGURES)) (eO (e2 (oEq false) (eV 0) (eC (.str [48]))) (e2 (oEq true) (e2 oIx (eV 0) (eC (.int 0))) (eC (.str [48])))))))
def c_4 (G : Nat → Fn) : Fn := fnR 1 1 (b_4 G)
/-- kind_of_run -/
def b_5 (G : Nat → Fn) : Sm :=
  (sSq (sIf (tB1 (e2 (oIn false) (e2 oIx (eV 0) (eC (.int 0))) (eC k_FIGURES)))
    (sRet (eIf (tV (eQ (G 4) (as1 (eV 0) as0))) (eC (.str [110, 117, 109, 101, 114, 97, 108])) (eC (.str [119, 114, 111, 110, 103]))))
    sPs)
    (sSq (sIf (tB1 (e2 oGt (eB oLen (as1 (eV 0) as0)) (eC k_MOST_SIGNS)))
    (sRet (eC (.str [119, 114, 111, 110, 103])))
    sPs)
    (sRet (eIf (tB1 (e2 (oIn false) (eV 0) (eC k_WORDS))) (eC (.str [119, 111, 114, 100])) (eC (.str [110, 97, 109, 101]))))))
def c_5 (G : Nat → Fn) : Fn := fnR 1 1 (b_5 G)
/-- is_run -/
def b_6 (G : Nat → Fn) : Sm :=
  (sRet (eAn (e2 (oEq true) (eV 0) (eC (.str []))) (eB oAll (as1 (eC_ (iSq (eV 0)) (.nm 1) [1] tYs (e2 (oIn false) (eV 1) (eC k_RUN_SIGNS))) as0))))
def c_6 (G : Nat → Fn) : Fn := fnR 1 2 (b_6 G)
/-- is_name -/
def b_7 (G : Nat → Fn) : Sm :=
  (sRet (eAn (e1 (oIsi 3) (eV 0)) (eAn (eQ (G 6) (as1 (eV 0) as0)) (e2 (oEq false) (eQ (G 5) (as1 (eV 0) as0)) (eC (.str [110, 97, 109, 101]))))))
def c_7 (G : Nat → Fn) : Fn := fnR 1 1 (b_7 G)
/-- kind_of_sign -/
def b_8 (G : Nat → Fn) : Sm :=
  (sSq (sIf (tB1 (e2 (oEq false) (eV 0) (eC k_LINE_END)))
    (sRet (eC (.str [101, 110, 100])))
    sPs)
    (sRet (eIf (tB1 (e2 (oIn false) (eV 0) (eC k_SIGNS))) (eC (.str [115, 105, 103, 110])) (eC (.str [119, 114, 111, 110, 103])))))
def c_8 (G : Nat → Fn) : Fn := fnR 1 1 (b_8 G)
/-- run_end -/
def b_9 (G : Nat → Fn) : Sm :=
  (sSq (sSet 2 (eV 1))
    (sSq (sWh (tAn (tB1 (e2 oLt (eV 2) (eB oLen (as1 (eV 0) as0)))) (tB1 (e2 (oIn false) (e2 oIx (eV 0) (eV 2)) (eC k_RUN_SIGNS))))
    (sSet 2 (e2 oAdd (eV 2) (eC (.int 1)))))
    (sRet (eV 2))))
def c_9 (G : Nat → Fn) : Fn := fnR 2 3 (b_9 G)
/-- piece_at -/
def b_10 (G : Nat → Fn) : Sm :=
  (sSq (sIf (tB1 (e2 (oIn true) (e2 oIx (eV 0) (eV 1)) (eC k_RUN_SIGNS)))
    (sRet (eTup (as1 (eV 1) (as1 (eB (G 8) (as1 (e2 oIx (eV 0) (eV 1)) as0)) (as1 (e2 oIx (eV 0) (eV 1)) as0)))))
    sPs)
    (sSq (sSet 2 (eCut (eV 0) (some (eV 1)) (some (eQ (G 9) (as1 (eV 0) (as1 (eV 1) as0))))))
    (sRet (eTup (as1 (eV 1) (as1 (eQ (G 5) (as1 (eV 2) as0)) (as1 (eV 2) as0)))))))
def c_10 (G : Nat → Fn) : Fn := fnR 2 3 (b_10 G)
/-- pieces_by -/
def b_11 (G : Nat → Fn) : Sm :=
  (sSq (sPar 1 2 (as1 (eLst as0) (as1 (eC (.int 0)) as0)))
    (sSq (sWh (tB1 (e2 oLt (eV 2) (eB oLen (as1 (eV 0) as0))))
    (sIf (tB1 (e2 (oEq false) (e2 oIx (eV 0) (eV 2)) (eC k_BLANK)))
    (sSet 2 (e2 oAdd (eV 2) (eC (.int 1))))
    (sSq (sSet 3 (eQ (G 10) (as1 (eV 0) (as1 (eV 2) as0))))
    (sSq (sExp (eM oApp (eV 1) (as1 (eV 3) as0)))
    (sSet 2 (e2 oAdd (eV 2) (eB oLen (as1 (e2 oIx (eV 3) (eC (.int 2))) as0))))))))
    (sRet (eV 1))))
def c_11 (G : Nat → Fn) : Fn := fnR 1 4 (b_11 G)
/-- parts_of -/
def b_12 (G : Nat → Fn) : Sm :=
  (sSq (sSet 1 (e2 oIx (eV 0) (eC (.int 0))))
    (sSq (sIf (tB1 (e2 (oEq false) (eV 1) (eC (.str [114, 111, 111, 116]))))
    (sRet (eB oList (as1 (e2 oIx (eV 0) (eC (.int 2))) as0)))
    sPs)
    (sSq (sIf (tO (tB1 (e1 (oInD false d_TERM_SIGNS) (eV 1))) (tB1 (e1 (oInD false d_FACTOR_SIGNS) (eV 1))))
    (sRet (eLst (as1 (e2 oIx (eV 0) (eC (.int 1))) (as1 (e2 oIx (eV 0) (eC (.int 2))) as0))))
    sPs)
    (sRet (eIf (tB1 (e2 (oIn false) (eV 1) (eTup (as1 (eC (.str [109, 105, 110, 117, 115])) (as1 (eC (.str [115, 113, 114, 116])) as0))))) (eLst (as1 (e2 oIx (eV 0) (eC (.int 1))) as0)) (eLst as0))))))
def c_12 (G : Nat → Fn) : Fn := fnR 1 2 (b_12 G)
/-- strength_of -/
def b_13 (G : Nat → Fn) : Sm :=
  (sSq (sIf (tB1 (e1 (oInD false d_TERM_SIGNS) (eV 0)))
    (sRet (eC (.int 0)))
    sPs)
    (sRet (eIf (tB1 (e1 (oInD false d_FACTOR_SIGNS) (eV 0))) (eC (.int 1)) (eC (.int 2)))))
def c_13 (G : Nat → Fn) : Fn := fnR 1 1 (b_13 G)
/-- count_in_row -/
def b_14 (G : Nat → Fn) : Sm :=
  (sSq (sSet 2 (eC (.int 1)))
    (sSq (sWh (tB1 (e2 (oEq false) (eB (G 13) (as1 (e2 oIx (eV 0) (eC (.int 0))) as0)) (eV 1)))
    (sPar 0 2 (as1 (e2 oIx (eV 0) (eC (.int 1))) (as1 (e2 oAdd (eV 2) (eC (.int 1))) as0))))
    (sRet (eV 2))))
def c_14 (G : Nat → Fn) : Fn := fnR 2 3 (b_14 G)
/-- needs_of -/
def b_15 (G : Nat → Fn) : Sm :=
  (sSq (sPar 1 2 (as1 (eP (G 12) (as1 (eV 0) as0)) (as1 (eB (G 13) (as1 (e2 oIx (eV 0) (eC (.int 0))) as0)) as0)))
    (sSq (sIf (tB1 (e2 oLt (eV 2) (eC (.int 2))))
    (sRet (eLst (as1 (eTup (as1 (e2 oIx (eV 1) (eC (.int 0))) (as1 (eV 2) as0))) (as1 (eTup (as1 (e2 oIx (eV 1) (eC (.int 1))) (as1 (e2 oAdd (eV 2) (eC (.int 1))) as0))) as0))))
    sPs)
    (sSq (sSet 3 (eIf (tB1 (e2 (oEq false) (e2 oIx (eV 0) (eC (.int 0))) (eC (.str [109, 105, 110, 117, 115])))) (eC (.int 2)) (eC (.int 0))))
    (sRet (eC_ (iSq (eV 1)) (.nm 4) [4] tYs (eTup (as1 (eV 4) (as1 (eV 3) as0))))))))
def c_15 (G : Nat → Fn) : Fn := fnR 1 5 (b_15 G)
/-- is_root_number -/
def b_16 (G : Nat → Fn) : Sm :=
  (sRet (eAn (eB (G 1) (as1 (eV 0) (as1 (e1 oNeg (eC k_MOST_ROOT)) (as1 (eC k_MOST_ROOT) as0)))) (e2 (oEq true) (eV 0) (eC (.int 0)))))
def c_16 (G : Nat → Fn) : Fn := fnR 1 1 (b_16 G)
/-- are_coefs -/
def b_17 (G : Nat → Fn) : Sm :=
  (sRet (eAn (e1 (oIsi 4) (eV 0)) (eCh oLe oLe (eC k_LEAST_COEFS) (eB oLen (as1 (eV 0) as0)) (eC k_MOST_COEFS))))
def c_17 (G : Nat → Fn) : Fn := fnR 1 1 (b_17 G)
/-- is_node -/
def b_18 (G : Nat → Fn) : Sm :=
  (sSq (sIf (tO (tN (tV (e1 (oIsi 4) (eV 0)))) (tO (tB1 (e2 (oEq false) (eV 0) (eTup as0))) (tN (tV (e1 (oIsi 3) (e2 oIx (eV 0) (eC (.int 0))))))))
    (sRet (eC (.bl false)))
    sPs)
    (sSq (sSet 1 (e2 oIx (eV 0) (eC (.int 0))))
    (sSq (sIf (tO (tB1 (e1 (oInD true d_TREE_SIZES) (eV 1))) (tB1 (e2 (oEq true) (eB oLen (as1 (eV 0) as0)) (e1 (oGetD d_TREE_SIZES) (eV 1)))))
    (sRet (eC (.bl false)))
    sPs)
    (sSq (sIf (tB1 (e2 (oEq false) (eV 1) (eC (.str [110, 117, 109, 101, 114, 97, 108]))))
    (sRet (eB (G 1) (as1 (e2 oIx (eV 0) (eC (.int 1))) (as1 (eC (.int 0)) (as1 (eC k_MOST_NUMERAL) as0)))))
    sPs)
    (sSq (sIf (tB1 (e2 (oEq false) (eV 1) (eC (.str [114, 111, 111, 116]))))
    (sRet (eAn (eB (G 16) (as1 (e2 oIx (eV 0) (eC (.int 1))) as0)) (eB (G 17) (as1 (e2 oIx (eV 0) (eC (.int 2))) as0))))
    sPs)
    (sSq (sIf (tO (tB1 (e2 (oEq false) (eV 1) (eC (.str [110, 97, 109, 101])))) (tB1 (e1 (oInD false d_POINT_WORDS) (eV 1))))
    (sRet (eB oAll (as1 (eC_ (iSq (eCut (eV 0) (some (eC (.int 1))) none)) (.nm 2) [2] tYs (eQ (G 7) (as1 (eV 2) as0))) as0)))
    sPs)
    (sRet (eC (.bl true)))))))))
def c_18 (G : Nat → Fn) : Fn := fnR 1 3 (b_18 G)
/-- Place.__init__ -/
def b_19 (G : Nat → Fn) : Sm :=
  (sSq (sFl t_value (eV 0) (eV 1))
    (sSq (sFl t_depth (eV 0) (eV 2))
    (sSq (sFl t_need (eV 0) (eV 3))
    (sFl t_right (eV 0) (eV 4)))))
def c_19 (G : Nat → Fn) : Fn := fnR 5 5 (b_19 G)
/-- most_in_row -/
def b_20 (G : Nat → Fn) : Sm :=
  (sRet (eIf (tB1 (e2 (oEq false) (eV 0) (eC (.int 0)))) (eC k_MOST_TERMS) (eC k_MOST_FACTORS)))
def c_20 (G : Nat → Fn) : Fn := fnR 1 1 (b_20 G)
/-- is_too_long -/
def b_21 (G : Nat → Fn) : Sm :=
  (sRet (eAn (e2 oLt (e1 (oFld t_need) (eV 0)) (eC (.int 2))) (e2 oGe (e1 (oFld t_right) (eV 0)) (eB (G 20) (as1 (e1 (oFld t_need) (eV 0)) as0)))))
def c_21 (G : Nat → Fn) : Fn := fnR 1 1 (b_21 G)
/-- opens_one -/
def b_22 (G : Nat → Fn) : Sm :=
  (sRet (eO (e2 (oIn false) (eV 0) (eTup (as1 (eC (.str [109, 105, 110, 117, 115])) (as1 (eC (.str [115, 113, 114, 116])) (as1 (eC (.str [114, 111, 111, 116])) as0))))) (e1 (oInD false d_POINT_WORDS) (eV 0))))
def c_22 (G : Nat → Fn) : Fn := fnR 1 1 (b_22 G)
/-- places_below -/
def b_23 (G : Nat → Fn) : Sm :=
  (sSq (sPar 1 2 (as1 (e2 oIx (e1 (oFld t_value) (eV 0)) (eC (.int 0))) (as1 (e1 (oFld t_value) (eV 0)) as0)))
    (sSq (sAsg (eTup (as1 (eB (G 13) (as1 (eV 1) as0)) (as1 (e1 (oFld t_depth) (eV 0)) as0))) (gT (gs1 (gN 3) (gs1 (gN 4) gs0))))
    (sSq (sIf (tO (tB1 (e2 oLt (eV 3) (e1 (oFld t_need) (eV 0)))) (tV (eB (G 22) (as1 (eV 1) as0))))
    (sSet 4 (e2 oAdd (eV 4) (eC (.int 1))))
    sPs)
    (sSq (sIf (tB1 (e2 oGt (eV 4) (eC k_MOST_DEPTH)))
    (sRet (eC .non))
    sPs)
    (sSq (sSet 5 (eC_ (iSq (eP (G 15) (as1 (eV 2) as0))) (.tp [6, 7]) [6, 7] tYs (eMk 0 (G 19) (as1 (eV 6) (as1 (eV 4) (as1 (eV 7) (as1 (eC (.int 0)) as0)))))))
    (sSq (sIf (tB1 (e2 oLt (eV 3) (eC (.int 2))))
    (sFl t_right (e2 oIx (eV 5) (eC (.int 0))) (eIf (tB1 (e2 (oEq false) (eV 3) (e1 (oFld t_need) (eV 0)))) (e2 oAdd (e1 (oFld t_right) (eV 0)) (eC (.int 1))) (eC (.int 1))))
    sPs)
    (sRet (eV 5))))))))
def c_23 (G : Nat → Fn) : Fn := fnR 1 8 (b_23 G)
/-- is_tree -/
def b_24 (G : Nat → Fn) : Sm :=
  (sSq (sSet 2 (eLst (as1 (eMk 0 (G 19) (as1 (eV 0) (as1 (eV 1) (as1 (eC (.int 0)) (as1 (eC (.int 0)) as0))))) as0)))
    (sSq (sWh (tB1 (e2 (oEq true) (eV 2) (eLst as0)))
    (sSq (sSet 3 (eM oPop (eV 2) as0))
    (sSq (sIf (tO (tV (eB (G 21) (as1 (eV 3) as0))) (tN (tV (eQ (G 18) (as1 (e1 (oFld t_value) (eV 3)) as0)))))
    (sRet (eC (.bl false)))
    sPs)
    (sSq (sSet 4 (eB (G 23) (as1 (eV 3) as0)))
    (sSq (sIf (tB1 (e1 oIsN (eV 4)))
    (sRet (eC (.bl false)))
    sPs)
    (sExp (eM oExt (eV 2) (as1 (eV 4) as0))))))))
    (sRet (eC (.bl true)))))
def c_24 (G : Nat → Fn) : Fn := fnR 2 5 (b_24 G)
/-- is_part -/
def b_25 (G : Nat → Fn) : Sm :=
  (sSq (sIf (tB1 (e2 (oEq false) (eV 1) (eC (.str [110, 117, 109, 98, 101, 114]))))
    (sRet (eQ (G 24) (as1 (eV 0) (as1 (eC (.int 1)) as0))))
    sPs)
    (sSq (sIf (tB1 (e2 (oEq false) (eV 1) (eC (.str [116, 117, 114, 110]))))
    (sRet (eB (G 1) (as1 (eV 0) (as1 (eC (.int 1)) (as1 (eC k_MOST_TURN) as0)))))
    sPs)
    (sRet (eQ (G 7) (as1 (eV 0) as0)))))
def c_25 (G : Nat → Fn) : Fn := fnR 2 2 (b_25 G)
/-- are_parts -/
def b_26 (G : Nat → Fn) : Sm :=
  (sRet (eAn (e2 (oEq false) (eB oLen (as1 (eV 0) as0)) (eB oLen (as1 (eV 1) as0))) (eB oAll (as1 (eC_ (iZp (as1 (eV 0) (as1 (eV 1) as0))) (.tp [2, 3]) [2, 3] tYs (eQ (G 25) (as1 (eV 2) (as1 (eV 3) as0)))) as0))))
def c_26 (G : Nat → Fn) : Fn := fnR 2 4 (b_26 G)
/-- is_ask -/
def b_27 (G : Nat → Fn) : Sm :=
  (sSq (sIf (tO (tN (tV (e1 (oIsi 4) (eV 0)))) (tO (tB1 (e2 (oEq false) (eV 0) (eTup as0))) (tN (tV (e1 (oIsi 3) (e2 oIx (eV 0) (eC (.int 0))))))))
    (sRet (eC (.bl false)))
    sPs)
    (sSq (sIf (tB1 (e1 (oInD false d_ASK_SIGNS) (e2 oIx (eV 0) (eC (.int 0)))))
    (sRet (eAn (e2 (oEq false) (eB oLen (as1 (eV 0) as0)) (eC (.int 3))) (eAn (eQ (G 24) (as1 (e2 oIx (eV 0) (eC (.int 1))) (as1 (eC (.int 0)) as0))) (eQ (G 24) (as1 (e2 oIx (eV 0) (eC (.int 2))) (as1 (eC (.int 0)) as0))))))
    sPs)
    (sRet (eAn (e1 (oInD false d_ASK_PARTS) (e2 oIx (eV 0) (eC (.int 0)))) (eQ (G 26) (as1 (eCut (eV 0) (some (eC (.int 1))) none) (as1 (e1 (oGetD d_ASK_PARTS) (e2 oIx (eV 0) (eC (.int 0)))) as0)))))))
def c_27 (G : Nat → Fn) : Fn := fnR 1 1 (b_27 G)
/-- is_row -/
def b_28 (G : Nat → Fn) : Sm :=
  (sSq (sIf (tO (tN (tV (e1 (oIsi 4) (eV 0)))) (tO (tB1 (e2 (oEq false) (eV 0) (eTup as0))) (tN (tV (e1 (oIsi 3) (e2 oIx (eV 0) (eC (.int 0))))))))
    (sRet (eC (.bl false)))
    sPs)
    (sSq (sSet 1 (e2 oIx (eV 0) (eC (.int 0))))
    (sSq (sIf (tB1 (e2 (oEq false) (eV 1) (eC (.str [110, 117, 109, 98, 101, 114]))))
    (sRet (eAn (eB (G 2) (as1 (eV 0) (as1 (eC (.int 3)) as0))) (eAn (eQ (G 7) (as1 (e2 oIx (eV 0) (eC (.int 1))) as0)) (eQ (G 24) (as1 (e2 oIx (eV 0) (eC (.int 2))) (as1 (eC (.int 0)) as0))))))
    sPs)
    (sSq (sIf (tB1 (e2 (oEq false) (eV 1) (eC (.str [97, 115, 107]))))
    (sRet (eAn (eB (G 2) (as1 (eV 0) (as1 (eC (.int 2)) as0))) (eQ (G 27) (as1 (e2 oIx (eV 0) (eC (.int 1))) as0))))
    sPs)
    (sSq (sIf (tB1 (e2 (oEq false) (eV 1) (eC (.str [116, 101, 108, 108]))))
    (sRet (eAn (eB (G 2) (as1 (eV 0) (as1 (eC (.int 3)) as0))) (eAn (eQ (G 24) (as1 (e2 oIx (eV 0) (eC (.int 1))) (as1 (eC (.int 0)) as0))) (eB (G 1) (as1 (e2 oIx (eV 0) (eC (.int 2))) (as1 (eC (.int 0)) (as1 (eC k_MOST_PLACES) as0)))))))
    sPs)
    (sSq (sIf (tB1 (e2 (oEq false) (eV 1) (eC (.str [112, 111, 108, 121]))))
    (sRet (eAn (eB (G 2) (as1 (eV 0) (as1 (eC (.int 2)) as0))) (eQ (G 24) (as1 (e2 oIx (eV 0) (eC (.int 1))) (as1 (eC (.int 0)) as0)))))
    sPs)
    (sSq (sIf (tO (tB1 (e1 (oInD true d_FIGURE_PARTS) (eV 1))) (tO (tB1 (e2 oLt (eB oLen (as1 (eV 0) as0)) (eC (.int 2)))) (tN (tV (eQ (G 7) (as1 (e2 oIx (eV 0) (eC (.int 1))) as0))))))
    (sRet (eC (.bl false)))
    sPs)
    (sRet (eQ (G 26) (as1 (eCut (eV 0) (some (eC (.int 2))) none) (as1 (e1 (oGetD d_FIGURE_PARTS) (eV 1)) as0)))))))))))
def c_28 (G : Nat → Fn) : Fn := fnR 1 2 (b_28 G)
/-- plan_wrong_by -/
def b_29 (G : Nat → Fn) : Sm :=
  (sSq (sIf (tO (tN (tV (e1 (oIsi 4) (eV 0)))) (tB1 (e2 oGt (eB oLen (as1 (eV 0) as0)) (eC k_MOST_ROWS))))
    (sRet (eTup (as1 (eC .non) as0)))
    sPs)
    (sSq (sFo (iEnA (as1 (eV 0) as0)) (gT (gs1 (gN 1) (gs1 (gN 2) gs0)))
    (sIf (tN (tV (eQ (G 28) (as1 (eV 2) as0))))
    (sRet (eTup (as1 (eV 1) as0)))
    sPs))
    (sRet (eC .non))))
def c_29 (G : Nat → Fn) : Fn := fnR 1 3 (b_29 G)
/-- Reader.__init__ -/
def b_30 (G : Nat → Fn) : Sm :=
  (sSq (sFl t_pieces (eV 0) (eP (G 11) (as1 (eV 1) as0)))
    (sSq (sFl t_size (eV 0) (eB oLen (as1 (eV 1) as0)))
    (sFl t_at (eV 0) (eC (.int 0)))))
def c_30 (G : Nat → Fn) : Fn := fnR 2 2 (b_30 G)
/-- Reader.is_done -/
def b_31 (G : Nat → Fn) : Sm :=
  (sRet (e2 (oEq false) (e1 (oFld t_at) (eV 0)) (eB oLen (as1 (e1 (oFld t_pieces) (eV 0)) as0))))
def c_31 (G : Nat → Fn) : Fn := fnR 1 1 (b_31 G)
/-- Reader.place -/
def b_32 (G : Nat → Fn) : Sm :=
  (sRet (eIf (tV (eMt 1 (G 31) (eV 0) as0)) (e1 (oFld t_size) (eV 0)) (e2 oIx (e2 oIx (e1 (oFld t_pieces) (eV 0)) (e1 (oFld t_at) (eV 0))) (eC (.int 0)))))
def c_32 (G : Nat → Fn) : Fn := fnR 1 1 (b_32 G)
/-- Reader.next_kind -/
def b_33 (G : Nat → Fn) : Sm :=
  (sRet (eIf (tV (eMt 1 (G 31) (eV 0) as0)) (eC (.str [110, 111, 110, 101])) (e2 oIx (e2 oIx (e1 (oFld t_pieces) (eV 0)) (e1 (oFld t_at) (eV 0))) (eC (.int 1)))))
def c_33 (G : Nat → Fn) : Fn := fnR 1 1 (b_33 G)
/-- Reader.next_part -/
def b_34 (G : Nat → Fn) : Sm :=
  (sRet (eIf (tV (eMt 1 (G 31) (eV 0) as0)) (eC (.str [])) (e2 oIx (e2 oIx (e1 (oFld t_pieces) (eV 0)) (e1 (oFld t_at) (eV 0))) (eC (.int 2)))))
def c_34 (G : Nat → Fn) : Fn := fnR 1 1 (b_34 G)
/-- Reader.sees -/
def b_35 (G : Nat → Fn) : Sm :=
  (sRet (eAn (e2 (oIn false) (eMt 1 (G 33) (eV 0) as0) (eTup (as1 (eC (.str [115, 105, 103, 110])) (as1 (eC (.str [119, 111, 114, 100])) as0)))) (e2 (oEq false) (eMt 1 (G 34) (eV 0) as0) (eV 1))))
def c_35 (G : Nat → Fn) : Fn := fnR 2 2 (b_35 G)
/-- Reader.took -/
def b_36 (G : Nat → Fn) : Sm :=
  (sSq (sSet 1 (eMt 1 (G 34) (eV 0) as0))
    (sSq (sFl t_at (eV 0) (e2 oAdd (e1 (oFld t_at) (eV 0)) (eC (.int 1))))
    (sRet (eV 1))))
def c_36 (G : Nat → Fn) : Fn := fnR 1 2 (b_36 G)
/-- Reader.need -/
def b_37 (G : Nat → Fn) : Sm :=
  (sSq (sIf (tN (tV (eMt 1 (G 35) (eV 0) (as1 (eV 1) as0))))
    (sRz 3 (as1 (eMt 1 (G 32) (eV 0) as0) as0))
    sPs)
    (sFl t_at (eV 0) (e2 oAdd (e1 (oFld t_at) (eV 0)) (eC (.int 1)))))
def c_37 (G : Nat → Fn) : Fn := fnR 2 2 (b_37 G)
/-- Reader.need_end -/
def b_38 (G : Nat → Fn) : Sm :=
  (sSq (sIf (tB1 (e2 (oEq true) (eMt 1 (G 33) (eV 0) as0) (eC (.str [101, 110, 100]))))
    (sRz 3 (as1 (eMt 1 (G 32) (eV 0) as0) as0))
    sPs)
    (sFl t_at (eV 0) (e2 oAdd (e1 (oFld t_at) (eV 0)) (eC (.int 1)))))
def c_38 (G : Nat → Fn) : Fn := fnR 1 1 (b_38 G)
/-- Reader.name -/
def b_39 (G : Nat → Fn) : Sm :=
  (sSq (sIf (tB1 (e2 (oEq true) (eMt 1 (G 33) (eV 0) as0) (eC (.str [110, 97, 109, 101]))))
    (sRz 3 (as1 (eMt 1 (G 32) (eV 0) as0) as0))
    sPs)
    (sRet (eMt 1 (G 36) (eV 0) as0)))
def c_39 (G : Nat → Fn) : Fn := fnR 1 1 (b_39 G)
/-- Reader.numeral -/
def b_40 (G : Nat → Fn) : Sm :=
  (sSq (sIf (tO (tB1 (e2 (oEq true) (eMt 1 (G 33) (eV 0) as0) (eC (.str [110, 117, 109, 101, 114, 97, 108])))) (tN (tB1 (eCh oLe oLe (eV 1) (eB oInt (as1 (eMt 1 (G 34) (eV 0) as0) as0)) (eV 2)))))
    (sRz 3 (as1 (eMt 1 (G 32) (eV 0) as0) as0))
    sPs)
    (sRet (eB oInt (as1 (eMt 1 (G 36) (eV 0) as0) as0))))
def c_40 (G : Nat → Fn) : Fn := fnR 3 3 (b_40 G)
/-- sum_at -/
def b_41 (G : Nat → Fn) : Sm :=
  (sSq (sSet 2 (eB (G 42) (as1 (eV 0) (as1 (eV 1) as0))))
    (sSq (sSet 3 (eQ (G 14) (as1 (eV 2) (as1 (eC k_TERMS) as0))))
    (sSq (sWh (tAn (tB1 (e2 oLt (eV 3) (eC k_MOST_TERMS))) (tO (tV (eMt 1 (G 35) (eV 0) (as1 (eC (.str [43])) as0))) (tV (eMt 1 (G 35) (eV 0) (as1 (eC (.str [45])) as0)))))
    (sSq (sSet 4 (e1 (oGetD d_TERM_WORDS) (eMt 1 (G 36) (eV 0) as0)))
    (sSq (sSet 2 (eTup (as1 (eV 4) (as1 (eV 2) (as1 (eB (G 42) (as1 (eV 0) (as1 (eV 1) as0))) as0)))))
    (sSet 3 (e2 oAdd (eV 3) (eC (.int 1)))))))
    (sRet (eV 2)))))
def c_41 (G : Nat → Fn) : Fn := fnR 2 5 (b_41 G)
/-- product_at -/
def b_42 (G : Nat → Fn) : Sm :=
  (sSq (sSet 2 (eB (G 43) (as1 (eV 0) (as1 (eV 1) as0))))
    (sSq (sSet 3 (eQ (G 14) (as1 (eV 2) (as1 (eC k_FACTORS) as0))))
    (sSq (sWh (tAn (tB1 (e2 oLt (eV 3) (eC k_MOST_FACTORS))) (tO (tV (eMt 1 (G 35) (eV 0) (as1 (eC (.str [42])) as0))) (tV (eMt 1 (G 35) (eV 0) (as1 (eC (.str [47])) as0)))))
    (sSq (sSet 4 (e1 (oGetD d_FACTOR_WORDS) (eMt 1 (G 36) (eV 0) as0)))
    (sSq (sSet 2 (eTup (as1 (eV 4) (as1 (eV 2) (as1 (eB (G 43) (as1 (eV 0) (as1 (eV 1) as0))) as0)))))
    (sSet 3 (e2 oAdd (eV 3) (eC (.int 1)))))))
    (sRet (eV 2)))))
def c_42 (G : Nat → Fn) : Fn := fnR 2 5 (b_42 G)
/-- factor_at -/
def b_43 (G : Nat → Fn) : Sm :=
  (sSq (sSet 2 (eMt 1 (G 33) (eV 0) as0))
    (sSq (sIf (tB1 (e2 (oEq false) (eV 2) (eC (.str [110, 117, 109, 101, 114, 97, 108]))))
    (sRet (eTup (as1 (eC (.str [110, 117, 109, 101, 114, 97, 108])) (as1 (eB oInt (as1 (eMt 1 (G 36) (eV 0) as0) as0)) as0))))
    sPs)
    (sSq (sIf (tB1 (e2 (oEq false) (eV 2) (eC (.str [110, 97, 109, 101]))))
    (sRet (eTup (as1 (eC (.str [110, 97, 109, 101])) (as1 (eMt 1 (G 36) (eV 0) as0) as0))))
    sPs)
    (sSq (sIf (tB1 (e2 (oEq false) (eV 1) (eC k_MOST_DEPTH)))
    (sRz 3 (as1 (eMt 1 (G 32) (eV 0) as0) as0))
    sPs)
    (sRet (eB (G 44) (as1 (eV 0) (as1 (e2 oAdd (eV 1) (eC (.int 1))) as0))))))))
def c_43 (G : Nat → Fn) : Fn := fnR 2 3 (b_43 G)
/-- deeper_at -/
def b_44 (G : Nat → Fn) : Sm :=
  (sSq (sIf (tV (eMt 1 (G 35) (eV 0) (as1 (eC (.str [45])) as0)))
    (sSq (sExp (eMt 1 (G 36) (eV 0) as0))
    (sRet (eTup (as1 (eC (.str [109, 105, 110, 117, 115])) (as1 (eB (G 43) (as1 (eV 0) (as1 (eV 1) as0))) as0)))))
    sPs)
    (sSq (sIf (tV (eMt 1 (G 35) (eV 0) (as1 (eC (.str [40])) as0)))
    (sRet (eB (G 45) (as1 (eV 0) (as1 (eV 1) as0))))
    sPs)
    (sSq (sIf (tV (eMt 1 (G 35) (eV 0) (as1 (eC (.str [115, 113, 114, 116])) as0)))
    (sSq (sExp (eMt 1 (G 36) (eV 0) as0))
    (sRet (eTup (as1 (eC (.str [115, 113, 114, 116])) (as1 (eB (G 45) (as1 (eV 0) (as1 (eV 1) as0))) as0)))))
    sPs)
    (sSq (sIf (tV (eMt 1 (G 35) (eV 0) (as1 (eC (.str [114, 111, 111, 116])) as0)))
    (sRet (eB (G 48) (as1 (eV 0) (as1 (eV 1) as0))))
    sPs)
    (sSq (sIf (tAn (tB1 (e2 (oEq false) (eMt 1 (G 33) (eV 0) as0) (eC (.str [119, 111, 114, 100])))) (tB1 (e1 (oInD false d_POINT_WORDS) (eMt 1 (G 34) (eV 0) as0))))
    (sRet (eB (G 46) (as1 (eV 0) as0)))
    sPs)
    (sRz 3 (as1 (eMt 1 (G 32) (eV 0) as0) as0)))))))
def c_44 (G : Nat → Fn) : Fn := fnR 2 2 (b_44 G)
/-- within -/
def b_45 (G : Nat → Fn) : Sm :=
  (sSq (sExp (eMt 1 (G 37) (eV 0) (as1 (eC (.str [40])) as0)))
    (sSq (sSet 2 (eB (G 41) (as1 (eV 0) (as1 (eV 1) as0))))
    (sSq (sExp (eMt 1 (G 37) (eV 0) (as1 (eC (.str [41])) as0)))
    (sRet (eV 2)))))
def c_45 (G : Nat → Fn) : Fn := fnR 2 3 (b_45 G)
/-- of_points -/
def b_46 (G : Nat → Fn) : Sm :=
  (sSq (sSet 1 (eMt 1 (G 36) (eV 0) as0))
    (sSq (sExp (eMt 1 (G 37) (eV 0) (as1 (eC (.str [40])) as0)))
    (sSq (sSet 2 (eLst (as1 (eMt 1 (G 39) (eV 0) as0) as0)))
    (sSq (sWh (tB1 (e2 oLt (eB oLen (as1 (eV 2) as0)) (e1 (oGetD d_POINT_WORDS) (eV 1))))
    (sSq (sExp (eMt 1 (G 37) (eV 0) (as1 (eC (.str [44])) as0)))
    (sExp (eM oApp (eV 2) (as1 (eMt 1 (G 39) (eV 0) as0) as0)))))
    (sSq (sExp (eMt 1 (G 37) (eV 0) (as1 (eC (.str [41])) as0)))
    (sRet (eTup (as1 (eV 1) (asS (eV 2) as0)))))))))
def c_46 (G : Nat → Fn) : Fn := fnR 1 3 (b_46 G)
/-- root_number -/
def b_47 (G : Nat → Fn) : Sm :=
  (sSq (sIf (tV (eMt 1 (G 35) (eV 0) (as1 (eC (.str [45])) as0)))
    (sSq (sExp (eMt 1 (G 36) (eV 0) as0))
    (sRet (e1 oNeg (eMt 1 (G 40) (eV 0) (as1 (eC (.int 1)) (as1 (eC k_MOST_ROOT) as0))))))
    sPs)
    (sRet (eMt 1 (G 40) (eV 0) (as1 (eC (.int 1)) (as1 (eC k_MOST_ROOT) as0)))))
def c_47 (G : Nat → Fn) : Fn := fnR 1 1 (b_47 G)
/-- root_at -/
def b_48 (G : Nat → Fn) : Sm :=
  (sSq (sExp (eMt 1 (G 37) (eV 0) (as1 (eC (.str [114, 111, 111, 116])) as0)))
    (sSq (sSet 2 (eB (G 47) (as1 (eV 0) as0)))
    (sSq (sExp (eMt 1 (G 37) (eV 0) (as1 (eC (.str [40])) as0)))
    (sSq (sSet 3 (eLst (as1 (eB (G 41) (as1 (eV 0) (as1 (eV 1) as0))) as0)))
    (sSq (sWh (tO (tB1 (e2 oLt (eB oLen (as1 (eV 3) as0)) (eC k_LEAST_COEFS))) (tAn (tB1 (e2 oLt (eB oLen (as1 (eV 3) as0)) (eC k_MOST_COEFS))) (tV (eMt 1 (G 35) (eV 0) (as1 (eC (.str [44])) as0)))))
    (sSq (sExp (eMt 1 (G 37) (eV 0) (as1 (eC (.str [44])) as0)))
    (sExp (eM oApp (eV 3) (as1 (eB (G 41) (as1 (eV 0) (as1 (eV 1) as0))) as0)))))
    (sSq (sExp (eMt 1 (G 37) (eV 0) (as1 (eC (.str [41])) as0)))
    (sRet (eTup (as1 (eC (.str [114, 111, 111, 116])) (as1 (eV 2) (as1 (eB oTup (as1 (eV 3) as0)) as0)))))))))))
def c_48 (G : Nat → Fn) : Fn := fnR 2 4 (b_48 G)
/-- part_at -/
def b_49 (G : Nat → Fn) : Sm :=
  (sSq (sIf (tB1 (e2 (oEq false) (eV 1) (eC (.str [110, 117, 109, 98, 101, 114]))))
    (sRet (eB (G 41) (as1 (eV 0) (as1 (eC (.int 1)) as0))))
    sPs)
    (sSq (sIf (tB1 (e2 (oEq false) (eV 1) (eC (.str [116, 117, 114, 110]))))
    (sRet (eMt 1 (G 40) (eV 0) (as1 (eC (.int 1)) (as1 (eC k_MOST_TURN) as0))))
    sPs)
    (sRet (eMt 1 (G 39) (eV 0) as0))))
def c_49 (G : Nat → Fn) : Fn := fnR 2 2 (b_49 G)
/-- parts_at -/
def b_50 (G : Nat → Fn) : Sm :=
  (sSq (sSet 2 (eLst as0))
    (sSq (sFo (iSq (eV 1)) (gN 3)
    (sSq (sExp (eMt 1 (G 37) (eV 0) (as1 (eIf (tB1 (e2 (oEq false) (eV 2) (eLst as0))) (eC (.str [40])) (eC (.str [44]))) as0)))
    (sExp (eM oApp (eV 2) (as1 (eB (G 49) (as1 (eV 0) (as1 (eV 3) as0))) as0)))))
    (sSq (sExp (eMt 1 (G 37) (eV 0) (as1 (eC (.str [41])) as0)))
    (sRet (eV 2)))))
def c_50 (G : Nat → Fn) : Fn := fnR 2 4 (b_50 G)
/-- made_row -/
def b_51 (G : Nat → Fn) : Sm :=
  (sSq (sSet 1 (eMt 1 (G 39) (eV 0) as0))
    (sSq (sExp (eMt 1 (G 37) (eV 0) (as1 (eC (.str [61])) as0)))
    (sSq (sSet 2 (eMt 1 (G 34) (eV 0) as0))
    (sSq (sIf (tO (tB1 (e2 (oEq true) (eMt 1 (G 33) (eV 0) as0) (eC (.str [119, 111, 114, 100])))) (tB1 (e1 (oInD true d_FIGURE_PARTS) (eV 2))))
    (sRet (eTup (as1 (eC (.str [110, 117, 109, 98, 101, 114])) (as1 (eV 1) (as1 (eB (G 41) (as1 (eV 0) (as1 (eC (.int 0)) as0))) as0)))))
    sPs)
    (sSq (sExp (eMt 1 (G 36) (eV 0) as0))
    (sRet (eTup (as1 (eV 2) (as1 (eV 1) (asS (eB (G 50) (as1 (eV 0) (as1 (e1 (oGetD d_FIGURE_PARTS) (eV 2)) as0))) as0))))))))))
def c_51 (G : Nat → Fn) : Fn := fnR 1 3 (b_51 G)
/-- ask_of_numbers -/
def b_52 (G : Nat → Fn) : Sm :=
  (sSq (sSet 1 (eB (G 41) (as1 (eV 0) (as1 (eC (.int 0)) as0))))
    (sSq (sIf (tO (tB1 (e2 (oEq true) (eMt 1 (G 33) (eV 0) as0) (eC (.str [115, 105, 103, 110])))) (tB1 (e1 (oInD true d_ASK_SIGNS) (eMt 1 (G 34) (eV 0) as0))))
    (sRz 3 (as1 (eMt 1 (G 32) (eV 0) as0) as0))
    sPs)
    (sSq (sSet 2 (eMt 1 (G 36) (eV 0) as0))
    (sRet (eTup (as1 (eC (.str [97, 115, 107])) (as1 (eTup (as1 (eV 2) (as1 (eV 1) (as1 (eB (G 41) (as1 (eV 0) (as1 (eC (.int 0)) as0))) as0)))) as0)))))))
def c_52 (G : Nat → Fn) : Fn := fnR 1 3 (b_52 G)
/-- ask_row -/
def b_53 (G : Nat → Fn) : Sm :=
  (sSq (sExp (eMt 1 (G 37) (eV 0) (as1 (eC (.str [97, 115, 107])) as0)))
    (sSq (sSet 1 (eMt 1 (G 34) (eV 0) as0))
    (sSq (sIf (tO (tB1 (e2 (oEq true) (eMt 1 (G 33) (eV 0) as0) (eC (.str [119, 111, 114, 100])))) (tB1 (e1 (oInD true d_ASK_PARTS) (eV 1))))
    (sRet (eB (G 52) (as1 (eV 0) as0)))
    sPs)
    (sSq (sExp (eMt 1 (G 36) (eV 0) as0))
    (sSq (sSet 2 (eB (G 50) (as1 (eV 0) (as1 (e1 (oGetD d_ASK_PARTS) (eV 1)) as0))))
    (sRet (eTup (as1 (eC (.str [97, 115, 107])) (as1 (eTup (as1 (eV 1) (asS (eV 2) as0))) as0)))))))))
def c_53 (G : Nat → Fn) : Fn := fnR 1 3 (b_53 G)
/-- tell_row -/
def b_54 (G : Nat → Fn) : Sm :=
  (sSq (sExp (eMt 1 (G 37) (eV 0) (as1 (eC (.str [116, 101, 108, 108])) as0)))
    (sSq (sIf (tV (eMt 1 (G 35) (eV 0) (as1 (eC (.str [112, 111, 108, 121])) as0)))
    (sSq (sExp (eMt 1 (G 36) (eV 0) as0))
    (sRet (eTup (as1 (eC (.str [112, 111, 108, 121])) (as1 (eB (G 41) (as1 (eV 0) (as1 (eC (.int 0)) as0))) as0)))))
    sPs)
    (sSq (sSet 1 (eB (G 41) (as1 (eV 0) (as1 (eC (.int 0)) as0))))
    (sSq (sExp (eMt 1 (G 37) (eV 0) (as1 (eC (.str [98, 121])) as0)))
    (sRet (eTup (as1 (eC (.str [116, 101, 108, 108])) (as1 (eV 1) (as1 (eMt 1 (G 40) (eV 0) (as1 (eC (.int 0)) (as1 (eC k_MOST_PLACES) as0))) as0)))))))))
def c_54 (G : Nat → Fn) : Fn := fnR 1 2 (b_54 G)
/-- row_at -/
def b_55 (G : Nat → Fn) : Sm :=
  (sSq (sIf (tV (eMt 1 (G 35) (eV 0) (as1 (eC (.str [97, 115, 107])) as0)))
    (sSet 1 (eB (G 53) (as1 (eV 0) as0)))
    (sIf (tV (eMt 1 (G 35) (eV 0) (as1 (eC (.str [116, 101, 108, 108])) as0)))
    (sSet 1 (eB (G 54) (as1 (eV 0) as0)))
    (sSet 1 (eB (G 51) (as1 (eV 0) as0)))))
    (sSq (sExp (eMt 1 (G 38) (eV 0) as0))
    (sRet (eV 1))))
def c_55 (G : Nat → Fn) : Fn := fnR 1 2 (b_55 G)
/-- rows_at -/
def b_56 (G : Nat → Fn) : Sm :=
  (sSq (sSet 1 (eLst as0))
    (sSq (sWh (tN (tV (eMt 1 (G 31) (eV 0) as0)))
    (sSq (sIf (tB1 (e2 (oEq false) (eB oLen (as1 (eV 1) as0)) (eC k_MOST_ROWS)))
    (sRz 3 (as1 (eMt 1 (G 32) (eV 0) as0) as0))
    sPs)
    (sExp (eM oApp (eV 1) (as1 (eB (G 55) (as1 (eV 0) as0)) as0)))))
    (sRet (eV 1))))
def c_56 (G : Nat → Fn) : Fn := fnR 1 2 (b_56 G)
/-- read_by -/
def b_57 (G : Nat → Fn) : Sm :=
  (sSq (sTr 3 2
    (sSet 1 (eB (G 56) (as1 (eMk 1 (G 30) (as1 (eV 0) as0)) as0))))
    (sSq (sIf (tAn (tB1 (e2 (oEq true) (eV 0) (eC (.str [])))) (tB1 (e2 (oEq true) (e2 oIx (eV 0) (e1 oNeg (eC (.int 1)))) (eC k_LINE_END))))
    (sRet (eTup (as1 (eC .non) (as1 (eB oLen (as1 (eV 0) as0)) as0))))
    sPs)
    (sRet (eTup (as1 (eB oTup (as1 (eV 1) as0)) (as1 (eC .non) as0))))))
def c_57 (G : Nat → Fn) : Fn := fnR 1 3 (b_57 G)
/-- check_text -/
def b_58 (G : Nat → Fn) : Sm :=
  (sSq (sIf (tN (tV (e1 (oIsi 3) (eV 0))))
    (sRz 2 (as1 (eC .non) as0))
    sPs)
    (sSq (sAsg (eQ (G 57) (as1 (eV 0) as0)) (gT (gs1 (gN 1) (gs1 (gN 2) gs0))))
    (sSq (sIf (tB1 (e1 oIsN (eV 1)))
    (sRz 2 (as1 (eV 2) as0))
    sPs)
    (sRet (eV 1)))))
def c_58 (G : Nat → Fn) : Fn := fnR 1 3 (b_58 G)
/-- parted -/
def b_59 (G : Nat → Fn) : Sm :=
  (sSq (sSet 2 (eLst as0))
    (sSq (sFo (iSq (eV 0)) (gN 3)
    (sSq (sIf (tB1 (e2 (oEq true) (eV 2) (eLst as0)))
    (sExp (eM oApp (eV 2) (as1 (eV 1) as0)))
    sPs)
    (sExp (eM oApp (eV 2) (as1 (eV 3) as0)))))
    (sRet (eV 2))))
def c_59 (G : Nat → Fn) : Fn := fnR 2 4 (b_59 G)
/-- print_of -/
def b_60 (G : Nat → Fn) : Sm :=
  (sSq (sPar 1 2 (as1 (e2 oIx (eV 0) (eC (.int 0))) (as1 (eP (G 15) (as1 (eV 0) as0)) as0)))
    (sSq (sIf (tB1 (e2 (oEq false) (eV 1) (eC (.str [110, 117, 109, 101, 114, 97, 108]))))
    (sRet (eLst (as1 (eB oStr (as1 (e2 oIx (eV 0) (eC (.int 1))) as0)) as0)))
    sPs)
    (sSq (sIf (tB1 (e2 (oEq false) (eV 1) (eC (.str [110, 97, 109, 101]))))
    (sRet (eLst (as1 (e2 oIx (eV 0) (eC (.int 1))) as0)))
    sPs)
    (sSq (sIf (tB1 (e2 (oEq false) (eV 1) (eC (.str [109, 105, 110, 117, 115]))))
    (sRet (e2 oAdd (eLst (as1 (eC (.str [45])) as0)) (eV 2)))
    sPs)
    (sSq (sIf (tB1 (e1 (oInD false d_TERM_SIGNS) (eV 1)))
    (sRet (eB (G 59) (as1 (eV 2) (as1 (eJ [(eC (.str [32])), (e1 oFmt (e1 (oGetD d_TERM_SIGNS) (eV 1))), (eC (.str [32]))]) as0))))
    sPs)
    (sSq (sIf (tB1 (e1 (oInD false d_FACTOR_SIGNS) (eV 1)))
    (sRet (eB (G 59) (as1 (eV 2) (as1 (eJ [(eC (.str [32])), (e1 oFmt (e1 (oGetD d_FACTOR_SIGNS) (eV 1))), (eC (.str [32]))]) as0))))
    sPs)
    (sSq (sIf (tB1 (e1 (oInD false d_POINT_WORDS) (eV 1)))
    (sRet (eLst (as1 (eV 1) (as1 (eC (.str [40])) (as1 (e2 oJoin (e1 isS (eC (.str [44, 32]))) (eCut (eV 0) (some (eC (.int 1))) none)) (as1 (eC (.str [41])) as0))))))
    sPs)
    (sSq (sSet 3 (eIf (tB1 (e2 (oEq false) (eV 1) (eC (.str [114, 111, 111, 116])))) (eJ [(eC (.str [114, 111, 111, 116, 32])), (e1 oFmt (e2 oIx (eV 0) (eC (.int 1)))), (eC (.str [32, 40]))]) (eC (.str [115, 113, 114, 116, 40]))))
    (sRet (e2 oAdd (e2 oAdd (eLst (as1 (eV 3) as0)) (eB (G 59) (as1 (eV 2) (as1 (eC (.str [44, 32])) as0)))) (eLst (as1 (eC (.str [41])) as0))))))))))))
def c_60 (G : Nat → Fn) : Fn := fnR 1 4 (b_60 G)
/-- needed_print -/
def b_61 (G : Nat → Fn) : Sm :=
  (sSq (sSet 2 (eP (G 60) (as1 (eV 0) as0)))
    (sRet (eIf (tB1 (e2 oLt (eB (G 13) (as1 (e2 oIx (eV 0) (eC (.int 0))) as0)) (eV 1))) (e2 oAdd (e2 oAdd (eLst (as1 (eC (.str [40])) as0)) (eV 2)) (eLst (as1 (eC (.str [41])) as0))) (eV 2))))
def c_61 (G : Nat → Fn) : Fn := fnR 2 3 (b_61 G)
/-- tree_text -/
def b_62 (G : Nat → Fn) : Sm :=
  (sSq (sPar 1 2 (as1 (eLst as0) (as1 (eLst (as1 (eTup (as1 (eV 0) (as1 (eC (.int 0)) as0))) as0)) as0)))
    (sSq (sWh (tB1 (e2 (oEq true) (eV 2) (eLst as0)))
    (sSq (sSet 3 (eM oPop (eV 2) as0))
    (sIf (tV (e1 (oIsi 3) (eV 3)))
    (sExp (eM oApp (eV 1) (as1 (eV 3) as0)))
    (sExp (eM oExt (eV 2) (as1 (e1 oRev (eP (G 61) (as1 (e2 oIx (eV 3) (eC (.int 0))) (as1 (e2 oIx (eV 3) (eC (.int 1))) as0)))) as0))))))
    (sRet (e2 oJoin (e1 isS (eC (.str []))) (eV 1)))))
def c_62 (G : Nat → Fn) : Fn := fnR 1 4 (b_62 G)
/-- part_text -/
def b_63 (G : Nat → Fn) : Sm :=
  (sSq (sIf (tV (e1 (oIsi 4) (eV 0)))
    (sRet (eQ (G 62) (as1 (eV 0) as0)))
    sPs)
    (sRet (eB oStr (as1 (eV 0) as0))))
def c_63 (G : Nat → Fn) : Fn := fnR 1 1 (b_63 G)
/-- parts_text -/
def b_64 (G : Nat → Fn) : Sm :=
  (sSq (sSet 2 (e2 oJoin (e1 isS (eC (.str [44, 32]))) (eC_ (iSq (eV 1)) (.nm 3) [3] tYs (eQ (G 63) (as1 (eV 3) as0)))))
    (sRet (eJ [(e1 oFmt (eV 0)), (eC (.str [40])), (e1 oFmt (eV 2)), (eC (.str [41]))])))
def c_64 (G : Nat → Fn) : Fn := fnR 2 4 (b_64 G)
/-- ask_text -/
def b_65 (G : Nat → Fn) : Sm :=
  (sSq (sIf (tB1 (e1 (oInD false d_ASK_SIGNS) (e2 oIx (eV 0) (eC (.int 0)))))
    (sRet (eJ [(e1 oFmt (eQ (G 62) (as1 (e2 oIx (eV 0) (eC (.int 1))) as0))), (eC (.str [32])), (e1 oFmt (e2 oIx (eV 0) (eC (.int 0)))), (eC (.str [32])), (e1 oFmt (eQ (G 62) (as1 (e2 oIx (eV 0) (eC (.int 2))) as0)))]))
    sPs)
    (sRet (eQ (G 64) (as1 (e2 oIx (eV 0) (eC (.int 0))) (as1 (eCut (eV 0) (some (eC (.int 1))) none) as0)))))
def c_65 (G : Nat → Fn) : Fn := fnR 1 1 (b_65 G)
/-- row_text -/
def b_66 (G : Nat → Fn) : Sm :=
  (sSq (sIf (tB1 (e2 (oEq false) (e2 oIx (eV 0) (eC (.int 0))) (eC (.str [110, 117, 109, 98, 101, 114]))))
    (sRet (eJ [(e1 oFmt (e2 oIx (eV 0) (eC (.int 1)))), (eC (.str [32, 61, 32])), (e1 oFmt (eQ (G 62) (as1 (e2 oIx (eV 0) (eC (.int 2))) as0)))]))
    sPs)
    (sSq (sIf (tB1 (e2 (oEq false) (e2 oIx (eV 0) (eC (.int 0))) (eC (.str [97, 115, 107]))))
    (sRet (eJ [(eC (.str [97, 115, 107, 32])), (e1 oFmt (eQ (G 65) (as1 (e2 oIx (eV 0) (eC (.int 1))) as0)))]))
    sPs)
    (sSq (sIf (tB1 (e2 (oEq false) (e2 oIx (eV 0) (eC (.int 0))) (eC (.str [116, 101, 108, 108]))))
    (sRet (eJ [(eC (.str [116, 101, 108, 108, 32])), (e1 oFmt (eQ (G 62) (as1 (e2 oIx (eV 0) (eC (.int 1))) as0))), (eC (.str [32, 98, 121, 32])), (e1 oFmt (e2 oIx (eV 0) (eC (.int 2))))]))
    sPs)
    (sSq (sIf (tB1 (e2 (oEq false) (e2 oIx (eV 0) (eC (.int 0))) (eC (.str [112, 111, 108, 121]))))
    (sRet (eJ [(eC (.str [116, 101, 108, 108, 32, 112, 111, 108, 121, 32])), (e1 oFmt (eQ (G 62) (as1 (e2 oIx (eV 0) (eC (.int 1))) as0)))]))
    sPs)
    (sRet (eJ [(e1 oFmt (e2 oIx (eV 0) (eC (.int 1)))), (eC (.str [32, 61, 32])), (e1 oFmt (eQ (G 64) (as1 (e2 oIx (eV 0) (eC (.int 0))) (as1 (eCut (eV 0) (some (eC (.int 2))) none) as0))))]))))))
def c_66 (G : Nat → Fn) : Fn := fnR 1 1 (b_66 G)
/-- written_by -/
def b_67 (G : Nat → Fn) : Sm :=
  (sRet (e2 oJoin (e1 isS (eC (.str []))) (eC_ (iSq (eV 0)) (.nm 1) [1] tYs (eJ [(e1 oFmt (eQ (G 66) (as1 (eV 1) as0))), (e1 oFmt (eC k_LINE_END))]))))
def c_67 (G : Nat → Fn) : Fn := fnR 1 2 (b_67 G)
/-- check_string -/
def b_68 (G : Nat → Fn) : Sm :=
  (sIf (tN (tV (e1 (oIsi 3) (eV 0))))
    (sRz 2 (as1 (eC .non) as0))
    sPs)
def c_68 (G : Nat → Fn) : Fn := fnR 1 1 (b_68 G)
/-- first_place -/
def b_69 (G : Nat → Fn) : Sm :=
  (sSq (sExp (eQ (G 68) (as1 (eV 0) as0)))
    (sRet (e2 oIx (eQ (G 57) (as1 (eV 0) as0)) (eC (.int 1)))))
def c_69 (G : Nat → Fn) : Fn := fnR 1 1 (b_69 G)
/-- read -/
def b_70 (G : Nat → Fn) : Sm :=
  (sRet (eQ (G 58) (as1 (eV 0) as0)))
def c_70 (G : Nat → Fn) : Fn := fnR 1 1 (b_70 G)
/-- is_plan -/
def b_71 (G : Nat → Fn) : Sm :=
  (sRet (e1 oIsN (eQ (G 29) (as1 (eV 0) as0))))
def c_71 (G : Nat → Fn) : Fn := fnR 1 1 (b_71 G)
/-- tidy -/
def b_72 (G : Nat → Fn) : Sm :=
  (sRet (eQ (G 67) (as1 (eQ (G 58) (as1 (eV 0) as0)) as0)))
def c_72 (G : Nat → Fn) : Fn := fnR 1 1 (b_72 G)
/-- _law_forge -/
def b_73 (G : Nat → Fn) : Sm :=
  (sSq (sSet 2 (eIf (tB1 (e2 oLt (eV 1) (eB oLen (as1 (eV 0) as0)))) (eB oInt (as1 (e2 oIx (eV 0) (eV 1)) as0)) (e2 oAdd (eC (.int 1875)) (e2 oMul (eC (.int 43)) (eV 1)))))
    (sSq (sSet 3 (e2 oAdd (eC (.int 200329)) (e2 oMul (eC (.int 31)) (eV 1))))
    (sSq (sFo (iEnA (as1 (eCut (eV 0) none (some (eC (.int 34)))) as0)) (gT (gs1 (gN 4) (gs1 (gN 5) gs0)))
    (sSet 3 (e2 oMod (eB oInt (as1 (e2 oAdd (e2 oAdd (e2 oMul (eV 3) (eC (.int 2685821657736338717))) (e2 oMul (e2 oMod (eB oInt (as1 (eV 5) as0)) (eC (.int 1000000009))) (e2 oAdd (e2 oMul (eC (.int 7)) (eV 4)) (eC (.int 5))))) (eC (.int 19))) as0)) (eC (.int 4611686018427387847)))))
    (sSq (sSet 3 (e2 oMod (eB oInt (as1 (e2 oAdd (e2 oAdd (e2 oMul (eV 3) (eC (.int 2685821657736338717))) (e2 oMod (eV 2) (eC (.int 1000000009)))) (eC (.int 23))) as0)) (eC (.int 4611686018427387847))))
    (sRet (eLst (as1 (eIf (tO (tB1 (e2 oLt (eV 2) (eC (.int 0)))) (tB1 (e2 oGe (eV 2) (e2 oPow (eC (.int 10)) (eC (.int 18)))))) (e2 oMod (eB oInt (as1 (eB oAbs (as1 (eV 2) as0)) as0)) (e2 oPow (eC (.int 10)) (eC (.int 50)))) (eC (.int 0))) (as1 (eV 3) as0))))))))
def c_73 (G : Nat → Fn) : Fn := fnR 2 6 (b_73 G)
/-- _law_strike -/
def b_74 (G : Nat → Fn) : Sm :=
  (sSq (sIf (tB1 (e2 oGt (e2 oIx (eV 0) (eC (.int 0))) (eC (.int 0))))
    (sSq (sAsg (eB oDm (as1 (e2 oIx (eV 0) (eC (.int 0))) (as1 (eV 1) as0))) (gT (gs1 (gSb (eV 0) (eC (.int 0))) (gs1 (gN 2) gs0))))
    (sRet (eV 2)))
    sPs)
    (sSq (sAsg (e2 oMod (eB oInt (as1 (e2 oAdd (e2 oMul (e2 oIx (eV 0) (eC (.int 1))) (eC (.int 4768777513237032717))) (eC (.int 3141592653589793239))) as0)) (eC (.int 4611686018427387847))) (gSb (eV 0) (eC (.int 1))))
    (sRet (e2 oMod (eB oInt (as1 (e2 oDiv (e2 oIx (eV 0) (eC (.int 1))) (eC (.int 2097152))) as0)) (eV 1)))))
def c_74 (G : Nat → Fn) : Fn := fnR 2 3 (b_74 G)
/-- _law_pick -/
def b_75 (G : Nat → Fn) : Sm :=
  (sRet (e2 oIx (eV 1) (eL (G 74) (as1 (eV 0) (as1 (eB oLen (as1 (eV 1) as0)) as0)))))
def c_75 (G : Nat → Fn) : Fn := fnR 2 2 (b_75 G)
/-- _law_are_same -/
def b_76 (G : Nat → Fn) : Sm :=
  (sSq (sIf (tO (tN (tV (e1 (oIsi2 4 5) (eV 0)))) (tB1 (e2 (oEq true) (eB oLen (as1 (eV 0) as0)) (eB oLen (as1 (eV 1) as0)))))
    (sRet (eC (.bl false)))
    sPs)
    (sRet (e2 (oIn true) (eC (.bl false)) (eC_ (iZp (as1 (eV 0) (as1 (eV 1) as0))) (.tp [2, 3]) [2, 3] tYs (eQ (G 77) (as1 (eV 2) (as1 (eV 3) as0)))))))
def c_76 (G : Nat → Fn) : Fn := fnR 2 4 (b_76 G)
/-- _law_same -/
def b_77 (G : Nat → Fn) : Sm :=
  (sSq (sIf (tV (e1 (oIsi2 4 5) (eV 1)))
    (sRet (eAn (e2 (oEq false) (e1 (oIsi 5) (eV 0)) (e1 (oIsi 5) (eV 1))) (eQ (G 76) (as1 (eV 0) (as1 (eV 1) as0)))))
    sPs)
    (sSq (sIf (tO (tB1 (e1 oIsN (eV 1))) (tV (e1 (oIsi 1) (eV 1))))
    (sRet (eIf (tB1 (e1 oIsN (eV 1))) (e1 oIsN (eV 0)) (eAn (e1 (oIsi 1) (eV 0)) (e2 (oEq false) (eV 0) (eV 1)))))
    sPs)
    (sSq (sIf (tV (e1 (oIsi 2) (eV 1)))
    (sRet (eAn (e1 (oIsi 2) (eV 0)) (eAn (e1 oNot (e1 (oIsi 1) (eV 0))) (e2 (oEq false) (eV 0) (eV 1)))))
    sPs)
    (sRet (eAn (e1 (oIsi 3) (eV 0)) (eAn (e1 (oIsi 3) (eV 1)) (e2 (oEq false) (eV 0) (eV 1))))))))
def c_77 (G : Nat → Fn) : Fn := fnR 2 2 (b_77 G)
/-- _law_place -/
def b_78 (G : Nat → Fn) : Sm :=
  (sRet (eQ (G 69) (as1 (eV 0) as0)))
def c_78 (G : Nat → Fn) : Fn := fnR 1 1 (b_78 G)
/-- _law_row -/
def b_79 (G : Nat → Fn) : Sm :=
  (sRet (e2 oAdd (e2 oAdd (eC (.str [113, 32, 61, 32])) (eV 0)) (eC (.str [10]))))
def c_79 (G : Nat → Fn) : Fn := fnR 1 1 (b_79 G)
/-- _law_right -/
def b_80 (G : Nat → Fn) : Sm :=
  (sSq (sFo (iRg1 (as1 (eC (.int 2)) as0)) (gN 1)
    (sSq (sSet 2 (eC_ (iRg1 (as1 (eC (.int 41)) as0)) (.nm 20) [20] tYs (e2 oAdd (e2 oAdd (e2 oAdd (e2 oAdd (eC (.str [110])) (eB oStr (as1 (eV 20) as0))) (eC (.str [32, 61, 32]))) (eB oStr (as1 (eV 20) as0))) (eC (.str [10])))))
    (sSq (sSet 3 (e2 oJoin (e1 isS (eC (.str []))) (eCut (eV 2) none (some (eC (.int 40))))))
    (sSq (sIf (tN (tV (eQ (G 77) (as1 (eTup (as1 (eQ (G 78) (as1 (eV 3) as0)) (as1 (eB oLen (as1 (eQ (G 70) (as1 (eV 3) as0)) as0)) (as1 (eQ (G 78) (as1 (e2 oAdd (eV 3) (e2 oIx (eV 2) (eC (.int 40)))) as0)) (as1 (eQ (G 71) (as1 (eQ (G 70) (as1 (eV 3) as0)) as0)) as0))))) (as1 (eTup (as1 (eC .non) (as1 (eC (.int 40)) (as1 (eB oLen (as1 (eV 3) as0)) (as1 (eC (.bl true)) as0))))) as0)))))
    (sRet (eC (.bl false)))
    sPs)
    (sSq (sSet 4 (eL (G 75) (as1 (eV 0) (as1 (eTup (as1 (eTup (as1 (eC (.str [32, 43, 32])) (as1 (eC (.str [32, 45, 32])) as0))) (as1 (eTup (as1 (eC (.str [32, 42, 32])) (as1 (eC (.str [32, 47, 32])) as0))) as0))) as0))))
    (sSq (sSet 5 (eC_ (iRg1 (as1 (eC (.int 12)) as0)) (.nm 20) [20] tYs (e2 oAdd (eL (G 75) (as1 (eV 0) (as1 (eTup (as1 (eC (.str [49])) (as1 (eC (.str [110])) (as1 (eC (.str [50])) as0)))) as0))) (eL (G 75) (as1 (eV 0) (as1 (eV 4) as0))))))
    (sSq (sSet 6 (e2 oAdd (e2 oJoin (e1 isS (eC (.str []))) (eCut (eV 5) none (some (eC (.int 11))))) (eC (.str [51]))))
    (sSq (sSet 7 (e2 oAdd (e2 oJoin (e1 isS (eC (.str []))) (eV 5)) (eC (.str [51]))))
    (sSq (sSet 8 (e2 oSub (e2 oAdd (eB oLen (as1 (e2 oAdd (eC (.str [113, 32, 61, 32])) (e2 oJoin (e1 isS (eC (.str []))) (eCut (eV 5) none (some (eC (.int 11)))))) as0)) (eB oLen (as1 (e2 oIx (eV 5) (eC (.int 11))) as0))) (eC (.int 2))))
    (sSq (sIf (tN (tV (eQ (G 77) (as1 (eTup (as1 (eQ (G 78) (as1 (eQ (G 79) (as1 (eV 6) as0)) as0)) (as1 (eQ (G 78) (as1 (eQ (G 79) (as1 (eV 7) as0)) as0)) as0))) (as1 (eTup (as1 (eC .non) (as1 (eV 8) as0))) as0)))))
    (sRet (eC (.bl false)))
    sPs)
    (sSq (sFo (iSq (eTup (as1 (eTup (as1 (eC (.str [40])) (as1 (eC (.str [41])) as0))) (as1 (eTup (as1 (eC (.str [115, 113, 114, 116, 40])) (as1 (eC (.str [41])) as0))) (as1 (eTup (as1 (eC (.str [45])) (as1 (eC (.str [])) as0))) (as1 (eTup (as1 (eC (.str [114, 111, 111, 116, 32, 49, 32, 40, 49, 44, 32])) (as1 (eC (.str [41])) as0))) as0)))))) (gT (gs1 (gN 9) (gs1 (gN 10) gs0)))
    (sSq (sSet 11 (e2 oAdd (e2 oAdd (e2 oMul (eV 9) (eC (.int 12))) (eC (.str [49]))) (e2 oMul (eV 10) (eC (.int 12)))))
    (sSq (sSet 12 (e2 oAdd (e2 oAdd (e2 oMul (eV 9) (eC (.int 13))) (eC (.str [49]))) (e2 oMul (eV 10) (eC (.int 13)))))
    (sSq (sIf (tB1 (e2 (oEq false) (eV 9) (eC (.str [40]))))
    (sSq (sIf (tN (tV (eQ (G 77) (as1 (eTup (as1 (eQ (G 78) (as1 (eQ (G 79) (as1 (eV 11) as0)) as0)) (as1 (eQ (G 72) (as1 (eQ (G 79) (as1 (eV 11) as0)) as0)) as0))) (as1 (eTup (as1 (eC .non) (as1 (eQ (G 79) (as1 (eC (.str [49])) as0)) as0))) as0)))))
    (sRet (eC (.bl false)))
    sPs)
    (sSet 13 (e2 oAdd (eB oLen (as1 (eC (.str [113, 32, 61, 32])) as0)) (eC (.int 12)))))
    (sSq (sIf (tO (tB1 (e1 oNotN (eQ (G 78) (as1 (eQ (G 79) (as1 (eV 11) as0)) as0)))) (tB1 (e2 (oEq true) (eQ (G 72) (as1 (eQ (G 79) (as1 (eV 11) as0)) as0)) (eQ (G 79) (as1 (eV 11) as0)))))
    (sRet (eC (.bl false)))
    sPs)
    (sSet 13 (eB oLen (as1 (e2 oAdd (eC (.str [113, 32, 61, 32])) (e2 oMul (eV 9) (eC (.int 12)))) as0)))))
    (sIf (tN (tV (eQ (G 77) (as1 (eQ (G 78) (as1 (eQ (G 79) (as1 (eV 12) as0)) as0)) (as1 (eV 13) as0)))))
    (sRet (eC (.bl false)))
    sPs)))))
    (sSq (sSet 14 (eC (.str [97, 98, 99, 100, 101, 102, 103, 104, 105, 106, 107, 108])))
    (sSq (sSet 15 (eTup (as1 (eTup (as1 (eV 14) (as1 (eC .non) as0))) (as1 (eTup (as1 (e2 oAdd (eV 14) (eC (.str [109]))) (as1 (eC (.int 4)) as0))) (as1 (eTup (as1 (e2 oAdd (eC (.str [122, 57])) (e2 oMul (eC (.str [48])) (eC (.int 10)))) (as1 (eC .non) as0))) (as1 (eTup (as1 (e2 oAdd (eC (.str [122, 57])) (e2 oMul (eC (.str [48])) (eC (.int 11)))) (as1 (eC (.int 4)) as0))) (as1 (eTup (as1 (e2 oMul (eC (.str [57])) (eC (.int 30))) (as1 (eC .non) as0))) (as1 (eTup (as1 (e2 oMul (eC (.str [57])) (eC (.int 31))) (as1 (eC (.int 4)) as0))) (as1 (eTup (as1 (eC (.str [48])) (as1 (eC .non) as0))) as0)))))))))
    (sSq (sFo (iSq (e2 oAdd (eV 15) (eTup (as1 (eTup (as1 (eC (.str [48, 48])) (as1 (eC (.int 4)) as0))) (as1 (eTup (as1 (eC (.str [48, 55])) (as1 (eC (.int 4)) as0))) (as1 (eTup (as1 (eC (.str [114, 111, 111, 116])) (as1 (eC (.int 8)) as0))) (as1 (eTup (as1 (eC (.str [97, 115, 107, 107])) (as1 (eC .non) as0))) (as1 (eTup (as1 (eC (.str [50, 97])) (as1 (eC (.int 4)) as0))) as0)))))))) (gT (gs1 (gN 16) (gs1 (gN 17) gs0)))
    (sIf (tN (tV (eQ (G 77) (as1 (eQ (G 78) (as1 (e2 oAdd (e2 oAdd (eC (.str [113, 32, 61, 32])) (eV 16)) (eC (.str [10]))) as0)) (as1 (eV 17) as0)))))
    (sRet (eC (.bl false)))
    sPs))
    (sFo (iSq (eTup (as1 (eTup (as1 (eC (.str [49])) (as1 (eC (.bl true)) as0))) (as1 (eTup (as1 (eC (.str [56])) (as1 (eC (.bl true)) as0))) (as1 (eTup (as1 (eC (.str [45, 49])) (as1 (eC (.bl true)) as0))) (as1 (eTup (as1 (eC (.str [45, 56])) (as1 (eC (.bl true)) as0))) (as1 (eTup (as1 (eC (.str [45, 32, 51])) (as1 (eC (.bl true)) as0))) (as1 (eTup (as1 (eC (.str [57])) (as1 (eC (.bl false)) as0))) (as1 (eTup (as1 (eC (.str [48])) (as1 (eC (.bl false)) as0))) (as1 (eTup (as1 (eC (.str [45, 57])) (as1 (eC (.bl false)) as0))) (as1 (eTup (as1 (eC (.str [49, 48])) (as1 (eC (.bl false)) as0))) as0))))))))))) (gT (gs1 (gN 18) (gs1 (gN 6) gs0)))
    (sSq (sSet 19 (e2 oAdd (e2 oAdd (eC (.str [113, 32, 61, 32, 114, 111, 111, 116, 32])) (eV 18)) (eC (.str [32, 40, 49, 44, 32, 50, 41, 10]))))
    (sSq (sSet 17 (eIf (tV (eV 6)) (eC .non) (e2 oAdd (eB oLen (as1 (eC (.str [113, 32, 61, 32, 114, 111, 111, 116, 32])) as0)) (eIf (tB1 (e2 (oEq false) (e2 oIx (eV 18) (eC (.int 0))) (eC (.str [45])))) (eC (.int 1)) (eC (.int 0))))))
    (sIf (tN (tV (eQ (G 77) (as1 (eQ (G 78) (as1 (eV 19) as0)) (as1 (eV 17) as0)))))
    (sRet (eC (.bl false)))
    sPs))))))))))))))))))
    (sRet (eAn (eQ (G 82) as0) (eAn (eQ (G 83) as0) (eQ (G 81) as0)))))
def c_80 (G : Nat → Fn) : Fn := fnR 1 21 (b_80 G)
/-- _law_are_ends_right -/
def b_81 (G : Nat → Fn) : Sm :=
  (sSq (sFo (iSq (eTup (as1 (eC (.int 1)) (as1 (eC (.int 2)) as0)))) (gN 0)
    (sSq (sSet 1 (e2 oAdd (eC (.str [113, 32, 61, 32, 114, 111, 111, 116, 32, 50, 32, 40])) (e2 oJoin (e1 isS (eC (.str [44, 32]))) (eC_ (iRg2 (as1 (eV 0) (as1 (e2 oAdd (eV 0) (eC (.int 9))) as0))) (.nm 4) [4] tYs (eB oStr (as1 (eV 4) as0))))))
    (sSq (sIf (tN (tV (eQ (G 77) (as1 (eTup (as1 (eQ (G 78) (as1 (e2 oAdd (eV 1) (eC (.str [41, 10]))) as0)) (as1 (eQ (G 78) (as1 (e2 oAdd (eV 1) (eC (.str [44, 32, 49, 41, 10]))) as0)) (as1 (eQ (G 78) (as1 (eC (.str [113, 32, 61, 32, 114, 111, 111, 116, 32, 50, 32, 40, 49, 41, 10])) as0)) as0)))) (as1 (eTup (as1 (eC .non) (as1 (eB oLen (as1 (eV 1) as0)) (as1 (eC (.int 13)) as0)))) as0)))))
    (sRet (eC (.bl false)))
    sPs)
    (sSq (sFo (iSq (eTup (as1 (eTup (as1 (eC (.str [48])) (as1 (eC (.bl true)) as0))) (as1 (eTup (as1 (eC (.str [52, 48])) (as1 (eC (.bl true)) as0))) (as1 (eTup (as1 (eC (.str [52, 49])) (as1 (eC (.bl false)) as0))) (as1 (eTup (as1 (eC (.str [48, 52])) (as1 (eC (.bl false)) as0))) (as1 (eTup (as1 (eC (.str [45, 49])) (as1 (eC (.bl false)) as0))) as0))))))) (gT (gs1 (gN 2) (gs1 (gN 3) gs0)))
    (sIf (tN (tV (eQ (G 77) (as1 (eQ (G 78) (as1 (e2 oAdd (e2 oAdd (eC (.str [116, 101, 108, 108, 32, 49, 32, 98, 121, 32])) (eV 2)) (eC (.str [10]))) as0)) (as1 (eIf (tV (eV 3)) (eC .non) (eC (.int 10))) as0)))))
    (sRet (eC (.bl false)))
    sPs))
    (sFo (iSq (eTup (as1 (eTup (as1 (eC (.str [49])) (as1 (eC (.bl true)) as0))) (as1 (eTup (as1 (eC (.str [50])) (as1 (eC (.bl true)) as0))) (as1 (eTup (as1 (eC (.str [48])) (as1 (eC (.bl false)) as0))) (as1 (eTup (as1 (eC (.str [51])) (as1 (eC (.bl false)) as0))) as0)))))) (gT (gs1 (gN 2) (gs1 (gN 3) gs0)))
    (sIf (tN (tV (eQ (G 77) (as1 (eQ (G 78) (as1 (e2 oAdd (e2 oAdd (eC (.str [113, 32, 61, 32, 109, 101, 101, 116, 40, 97, 44, 32, 98, 44, 32])) (eV 2)) (eC (.str [41, 10]))) as0)) (as1 (eIf (tV (eV 3)) (eC .non) (eC (.int 15))) as0)))))
    (sRet (eC (.bl false)))
    sPs))))))
    (sRet (eC (.bl true))))
def c_81 (G : Nat → Fn) : Fn := fnR 0 5 (b_81 G)
/-- _law_are_words_right -/
def b_82 (G : Nat → Fn) : Sm :=
  (sSq (sFo (iSq (fun _ h => newL (List.map D.str [[97, 115, 107], [116, 101, 108, 108], [98, 121], [112, 111, 108, 121], [114, 111, 111, 116], [115, 113, 114, 116], [100, 105, 115, 116], [120], [121], [112, 111, 105, 110, 116], [108, 105, 110, 101], [99, 105, 114, 99, 108, 101], [114, 105, 110, 103], [109, 101, 101, 116], [109, 105, 100], [102, 111, 111, 116], [109, 105, 114, 114, 111, 114], [112, 97, 114, 97, 108, 108, 101, 108], [117, 112, 114, 105, 103, 104, 116], [111, 110], [105, 110, 115, 105, 100, 101], [108, 101, 102, 116], [115, 97, 109, 101], [98, 101, 116, 119, 101, 101, 110], [116, 111, 117, 99, 104]]) h)) (gN 0)
    (sIf (tO (tB1 (e1 oIsN (eQ (G 69) (as1 (e2 oAdd (eV 0) (eC (.str [32, 61, 32, 49, 10]))) as0)))) (tO (tB1 (e2 (oIsB true) (eQ (G 71) (as1 (eTup (as1 (eTup (as1 (eC (.str [110, 117, 109, 98, 101, 114])) (as1 (eV 0) (as1 (eTup (as1 (eC (.str [110, 117, 109, 101, 114, 97, 108])) (as1 (eC (.int 1)) as0))) as0)))) as0)) as0)) (eC (.bl false)))) (tB1 (e1 oNotN (eQ (G 69) (as1 (e2 oAdd (eV 0) (eC (.str [122, 32, 61, 32, 49, 10]))) as0))))))
    (sRet (eC (.bl false)))
    sPs))
    (sRet (eC (.bl true))))
def c_82 (G : Nat → Fn) : Fn := fnR 0 1 (b_82 G)
/-- _law_are_trees_right -/
def b_83 (G : Nat → Fn) : Sm :=
  (sSq (sSet 0 (eTup (as1 (eC (.str [110, 117, 109, 101, 114, 97, 108])) (as1 (eC (.int 1)) as0))))
    (sSq (sSet 1 (eLst as0))
    (sSq (sFo (iSq (eTup (as1 (eC (.str [112, 108, 117, 115])) (as1 (eC (.str [116, 105, 109, 101, 115])) as0)))) (gN 2)
    (sSq (sSet 3 (eV 0))
    (sSq (sFo (iRg1 (as1 (eC (.int 11)) as0)) (gN 4)
    (sSet 3 (eTup (as1 (eV 2) (as1 (eV 3) (as1 (eV 0) as0))))))
    (sSq (sExp (eM oApp (eV 1) (as1 (eTup (as1 (eV 3) (as1 (eTup (as1 (eV 2) (as1 (eV 3) (as1 (eV 0) as0)))) as0))) as0)))
    (sExp (eM oApp (eV 1) (as1 (eTup (as1 (eTup (as1 (eV 2) (as1 (eV 0) (as1 (eV 3) as0)))) (as1 (eTup (as1 (eV 2) (as1 (eV 0) (as1 (eTup (as1 (eV 2) (as1 (eV 3) (as1 (eV 0) as0)))) as0)))) as0))) as0)))))))
    (sSq (sSet 5 (eV 0))
    (sSq (sFo (iRg1 (as1 (eC (.int 12)) as0)) (gN 4)
    (sSet 5 (eTup (as1 (eC (.str [109, 105, 110, 117, 115])) (as1 (eV 5) as0)))))
    (sSq (sExp (eM oApp (eV 1) (as1 (eTup (as1 (eV 5) (as1 (eTup (as1 (eC (.str [109, 105, 110, 117, 115])) (as1 (eV 5) as0))) as0))) as0)))
    (sSq (sExp (eM oApp (eV 1) (as1 (eTup (as1 (eTup (as1 (eC (.str [114, 111, 111, 116])) (as1 (eC (.int 8)) (as1 (e2 oMul (eTup (as1 (eV 0) as0)) (eC (.int 9))) as0)))) (as1 (eTup (as1 (eC (.str [114, 111, 111, 116])) (as1 (eC (.int 8)) (as1 (e2 oMul (eTup (as1 (eV 0) as0)) (eC (.int 10))) as0)))) as0))) as0)))
    (sSq (sFo (iSq (eV 1)) (gT (gs1 (gN 6) (gs1 (gN 7) gs0)))
    (sIf (tN (tV (eQ (G 77) (as1 (eTup (as1 (eQ (G 71) (as1 (eTup (as1 (eTup (as1 (eC (.str [110, 117, 109, 98, 101, 114])) (as1 (eC (.str [113])) (as1 (eV 6) as0)))) as0)) as0)) (as1 (eQ (G 71) (as1 (eTup (as1 (eTup (as1 (eC (.str [110, 117, 109, 98, 101, 114])) (as1 (eC (.str [113])) (as1 (eV 7) as0)))) as0)) as0)) (as1 (eQ (G 71) (as1 (eTup (as1 (eTup (as1 (eC (.str [112, 111, 105, 110, 116])) (as1 (eC (.str [113])) (as1 (eV 0) (as1 (eV 7) as0))))) as0)) as0)) as0)))) (as1 (eTup (as1 (eC (.bl true)) (as1 (eC (.bl false)) (as1 (eC (.bl false)) as0)))) as0)))))
    (sRet (eC (.bl false)))
    sPs))
    (sSq (sSet 8 (eTup (as1 (eQ (G 71) (as1 (eTup (as1 (eTup (as1 (eC (.str [112, 111, 105, 110, 116])) (as1 (eC (.str [113])) (as1 (eV 5) (as1 (eV 0) as0))))) as0)) as0)) (as1 (eQ (G 71) (as1 (eTup (as1 (eTup (as1 (eC (.str [112, 111, 105, 110, 116])) (as1 (eC (.str [113])) (as1 (e2 oIx (eV 5) (eC (.int 1))) (as1 (eV 0) as0))))) as0)) as0)) (as1 (eQ (G 71) (as1 (eTup (as1 (eTup (as1 (eC (.str [99, 105, 114, 99, 108, 101])) (as1 (eC (.str [113])) (as1 (eC (.str [97])) (as1 (eV 5) as0))))) as0)) as0)) as0)))))
    (sRet (eQ (G 77) (as1 (e2 oAdd (eV 8) (eTup (as1 (eQ (G 71) (as1 (eTup (as1 (eTup (as1 (eC (.str [97, 115, 107])) (as1 (eTup (as1 (eC (.str [60])) (as1 (eV 5) (as1 (eV 0) as0)))) as0))) as0)) as0)) as0))) (as1 (eTup (as1 (eC (.bl false)) (as1 (eC (.bl true)) (as1 (eC (.bl false)) (as1 (eC (.bl true)) as0))))) as0)))))))))))))
def c_83 (G : Nat → Fn) : Fn := fnR 0 9 (b_83 G)
/-- law -/
def b_84 (G : Nat → Fn) : Sm :=
  (sRet (e2 (oIn true) (eC (.bl false)) (eC_ (iRg1 (as1 (eB oMax (as1 (eC (.int 2)) (as1 (eB oMin (as1 (eB oLen (as1 (eV 0) as0)) (as1 (eC (.int 3)) as0))) as0))) as0)) (.nm 1) [1] tYs (eL (G 80) (as1 (eP (G 73) (as1 (eV 0) (as1 (eV 1) as0))) as0)))))
def c_84 (G : Nat → Fn) : Fn := fnR 1 2 (b_84 G)
def step (G : Nat → Fn) (i : Nat) : Fn := bif Nat.ble i 41 then (bif Nat.ble i 20 then (bif Nat.ble i 9 then (bif Nat.ble i 4 then (bif Nat.ble i 1 then (bif Nat.ble i 0 then (c_0 G) else (c_1 G)) else (bif Nat.ble i 2 then (c_2 G) else (bif Nat.ble i 3 then (c_3 G) else (c_4 G)))) else (bif Nat.ble i 6 then (bif Nat.ble i 5 then (c_5 G) else (c_6 G)) else (bif Nat.ble i 7 then (c_7 G) else (bif Nat.ble i 8 then (c_8 G) else (c_9 G))))) else (bif Nat.ble i 14 then (bif Nat.ble i 11 then (bif Nat.ble i 10 then (c_10 G) else (c_11 G)) else (bif Nat.ble i 12 then (c_12 G) else (bif Nat.ble i 13 then (c_13 G) else (c_14 G)))) else (bif Nat.ble i 17 then (bif Nat.ble i 15 then (c_15 G) else (bif Nat.ble i 16 then (c_16 G) else (c_17 G))) else (bif Nat.ble i 18 then (c_18 G) else (bif Nat.ble i 19 then (c_19 G) else (c_20 G)))))) else (bif Nat.ble i 30 then (bif Nat.ble i 25 then (bif Nat.ble i 22 then (bif Nat.ble i 21 then (c_21 G) else (c_22 G)) else (bif Nat.ble i 23 then (c_23 G) else (bif Nat.ble i 24 then (c_24 G) else (c_25 G)))) else (bif Nat.ble i 27 then (bif Nat.ble i 26 then (c_26 G) else (c_27 G)) else (bif Nat.ble i 28 then (c_28 G) else (bif Nat.ble i 29 then (c_29 G) else (c_30 G))))) else (bif Nat.ble i 35 then (bif Nat.ble i 32 then (bif Nat.ble i 31 then (c_31 G) else (c_32 G)) else (bif Nat.ble i 33 then (c_33 G) else (bif Nat.ble i 34 then (c_34 G) else (c_35 G)))) else (bif Nat.ble i 38 then (bif Nat.ble i 36 then (c_36 G) else (bif Nat.ble i 37 then (c_37 G) else (c_38 G))) else (bif Nat.ble i 39 then (c_39 G) else (bif Nat.ble i 40 then (c_40 G) else (c_41 G))))))) else (bif Nat.ble i 62 then (bif Nat.ble i 51 then (bif Nat.ble i 46 then (bif Nat.ble i 43 then (bif Nat.ble i 42 then (c_42 G) else (c_43 G)) else (bif Nat.ble i 44 then (c_44 G) else (bif Nat.ble i 45 then (c_45 G) else (c_46 G)))) else (bif Nat.ble i 48 then (bif Nat.ble i 47 then (c_47 G) else (c_48 G)) else (bif Nat.ble i 49 then (c_49 G) else (bif Nat.ble i 50 then (c_50 G) else (c_51 G))))) else (bif Nat.ble i 56 then (bif Nat.ble i 53 then (bif Nat.ble i 52 then (c_52 G) else (c_53 G)) else (bif Nat.ble i 54 then (c_54 G) else (bif Nat.ble i 55 then (c_55 G) else (c_56 G)))) else (bif Nat.ble i 59 then (bif Nat.ble i 57 then (c_57 G) else (bif Nat.ble i 58 then (c_58 G) else (c_59 G))) else (bif Nat.ble i 60 then (c_60 G) else (bif Nat.ble i 61 then (c_61 G) else (c_62 G)))))) else (bif Nat.ble i 73 then (bif Nat.ble i 67 then (bif Nat.ble i 64 then (bif Nat.ble i 63 then (c_63 G) else (c_64 G)) else (bif Nat.ble i 65 then (c_65 G) else (bif Nat.ble i 66 then (c_66 G) else (c_67 G)))) else (bif Nat.ble i 70 then (bif Nat.ble i 68 then (c_68 G) else (bif Nat.ble i 69 then (c_69 G) else (c_70 G))) else (bif Nat.ble i 71 then (c_71 G) else (bif Nat.ble i 72 then (c_72 G) else (c_73 G))))) else (bif Nat.ble i 78 then (bif Nat.ble i 75 then (bif Nat.ble i 74 then (c_74 G) else (c_75 G)) else (bif Nat.ble i 76 then (c_76 G) else (bif Nat.ble i 77 then (c_77 G) else (c_78 G)))) else (bif Nat.ble i 81 then (bif Nat.ble i 79 then (c_79 G) else (bif Nat.ble i 80 then (c_80 G) else (c_81 G))) else (bif Nat.ble i 82 then (c_82 G) else (bif Nat.ble i 83 then (c_83 G) else (c_84 G)))))))
def callF : Nat → Nat → Fn
  | 0, _ => fun _ _ => .no
  | n + 1, i => step (callF n) i
end T

end

section
set_option Elab.async false
set_option linter.all false
set_option maxRecDepth 100000
set_option maxHeartbeats 4000000
namespace T
open PySem PySem.Spec PyProof.Rows L2 PySem.ExD He Sh
structure Fx (K : PySem.W.Frag) (w : World) (mg : Str → Option Value) : Prop where
  f_0 : FunD K "is_whole" "is_whole" (defArgs s_0) (defBody s_0) (defScope s_0) [] [] (fAd K ("is_whole", none)) (fdAt K ("is_whole", none))
  b_0 : Binds K (fdAt K ("is_whole", none)) [("value" : Str)] []
  g_0 : mg "is_whole" = some (.ref (fAd K ("is_whole", none)))
  f_1 : FunD K "is_between" "is_between" (defArgs s_1) (defBody s_1) (defScope s_1) [] [] (fAd K ("is_between", none)) (fdAt K ("is_between", none))
  b_1 : Binds K (fdAt K ("is_between", none)) [("value" : Str), ("low" : Str), ("high" : Str)] []
  g_1 : mg "is_between" = some (.ref (fAd K ("is_between", none)))
  f_2 : FunD K "is_tuple_of" "is_tuple_of" (defArgs s_2) (defBody s_2) (defScope s_2) [] [] (fAd K ("is_tuple_of", none)) (fdAt K ("is_tuple_of", none))
  b_2 : Binds K (fdAt K ("is_tuple_of", none)) [("value" : Str), ("many" : Str)] []
  g_2 : mg "is_tuple_of" = some (.ref (fAd K ("is_tuple_of", none)))
  f_3 : FunD K "are_figures" "are_figures" (defArgs s_3) (defBody s_3) (defScope s_3) [] [] (fAd K ("are_figures", none)) (fdAt K ("are_figures", none))
  b_3 : Binds K (fdAt K ("are_figures", none)) [("run" : Str)] []
  g_3 : mg "are_figures" = some (.ref (fAd K ("are_figures", none)))
  f_4 : FunD K "is_numeral" "is_numeral" (defArgs s_4) (defBody s_4) (defScope s_4) [] [] (fAd K ("is_numeral", none)) (fdAt K ("is_numeral", none))
  b_4 : Binds K (fdAt K ("is_numeral", none)) [("run" : Str)] []
  g_4 : mg "is_numeral" = some (.ref (fAd K ("is_numeral", none)))
  f_5 : FunD K "kind_of_run" "kind_of_run" (defArgs s_5) (defBody s_5) (defScope s_5) [] [] (fAd K ("kind_of_run", none)) (fdAt K ("kind_of_run", none))
  b_5 : Binds K (fdAt K ("kind_of_run", none)) [("run" : Str)] []
  g_5 : mg "kind_of_run" = some (.ref (fAd K ("kind_of_run", none)))
  f_6 : FunD K "is_run" "is_run" (defArgs s_6) (defBody s_6) (defScope s_6) [] [] (fAd K ("is_run", none)) (fdAt K ("is_run", none))
  b_6 : Binds K (fdAt K ("is_run", none)) [("text" : Str)] []
  g_6 : mg "is_run" = some (.ref (fAd K ("is_run", none)))
  f_7 : FunD K "is_name" "is_name" (defArgs s_7) (defBody s_7) (defScope s_7) [] [] (fAd K ("is_name", none)) (fdAt K ("is_name", none))
  b_7 : Binds K (fdAt K ("is_name", none)) [("value" : Str)] []
  g_7 : mg "is_name" = some (.ref (fAd K ("is_name", none)))
  f_8 : FunD K "kind_of_sign" "kind_of_sign" (defArgs s_8) (defBody s_8) (defScope s_8) [] [] (fAd K ("kind_of_sign", none)) (fdAt K ("kind_of_sign", none))
  b_8 : Binds K (fdAt K ("kind_of_sign", none)) [("sign" : Str)] []
  g_8 : mg "kind_of_sign" = some (.ref (fAd K ("kind_of_sign", none)))
  f_9 : FunD K "run_end" "run_end" (defArgs s_9) (defBody s_9) (defScope s_9) [] [] (fAd K ("run_end", none)) (fdAt K ("run_end", none))
  b_9 : Binds K (fdAt K ("run_end", none)) [("text" : Str), ("start" : Str)] []
  g_9 : mg "run_end" = some (.ref (fAd K ("run_end", none)))
  f_10 : FunD K "piece_at" "piece_at" (defArgs s_10) (defBody s_10) (defScope s_10) [] [] (fAd K ("piece_at", none)) (fdAt K ("piece_at", none))
  b_10 : Binds K (fdAt K ("piece_at", none)) [("text" : Str), ("start" : Str)] []
  g_10 : mg "piece_at" = some (.ref (fAd K ("piece_at", none)))
  f_11 : FunD K "pieces_by" "pieces_by" (defArgs s_11) (defBody s_11) (defScope s_11) [] [] (fAd K ("pieces_by", none)) (fdAt K ("pieces_by", none))
  b_11 : Binds K (fdAt K ("pieces_by", none)) [("text" : Str)] []
  g_11 : mg "pieces_by" = some (.ref (fAd K ("pieces_by", none)))
  f_12 : FunD K "parts_of" "parts_of" (defArgs s_12) (defBody s_12) (defScope s_12) [] [] (fAd K ("parts_of", none)) (fdAt K ("parts_of", none))
  b_12 : Binds K (fdAt K ("parts_of", none)) [("tree" : Str)] []
  g_12 : mg "parts_of" = some (.ref (fAd K ("parts_of", none)))
  f_13 : FunD K "strength_of" "strength_of" (defArgs s_13) (defBody s_13) (defScope s_13) [] [] (fAd K ("strength_of", none)) (fdAt K ("strength_of", none))
  b_13 : Binds K (fdAt K ("strength_of", none)) [("word" : Str)] []
  g_13 : mg "strength_of" = some (.ref (fAd K ("strength_of", none)))
  f_14 : FunD K "count_in_row" "count_in_row" (defArgs s_14) (defBody s_14) (defScope s_14) [] [] (fAd K ("count_in_row", none)) (fdAt K ("count_in_row", none))
  b_14 : Binds K (fdAt K ("count_in_row", none)) [("tree" : Str), ("strength" : Str)] []
  g_14 : mg "count_in_row" = some (.ref (fAd K ("count_in_row", none)))
  f_15 : FunD K "needs_of" "needs_of" (defArgs s_15) (defBody s_15) (defScope s_15) [] [] (fAd K ("needs_of", none)) (fdAt K ("needs_of", none))
  b_15 : Binds K (fdAt K ("needs_of", none)) [("tree" : Str)] []
  g_15 : mg "needs_of" = some (.ref (fAd K ("needs_of", none)))
  f_16 : FunD K "is_root_number" "is_root_number" (defArgs s_16) (defBody s_16) (defScope s_16) [] [] (fAd K ("is_root_number", none)) (fdAt K ("is_root_number", none))
  b_16 : Binds K (fdAt K ("is_root_number", none)) [("value" : Str)] []
  g_16 : mg "is_root_number" = some (.ref (fAd K ("is_root_number", none)))
  f_17 : FunD K "are_coefs" "are_coefs" (defArgs s_17) (defBody s_17) (defScope s_17) [] [] (fAd K ("are_coefs", none)) (fdAt K ("are_coefs", none))
  b_17 : Binds K (fdAt K ("are_coefs", none)) [("value" : Str)] []
  g_17 : mg "are_coefs" = some (.ref (fAd K ("are_coefs", none)))
  f_18 : FunD K "is_node" "is_node" (defArgs s_18) (defBody s_18) (defScope s_18) [] [] (fAd K ("is_node", none)) (fdAt K ("is_node", none))
  b_18 : Binds K (fdAt K ("is_node", none)) [("value" : Str)] []
  g_18 : mg "is_node" = some (.ref (fAd K ("is_node", none)))
  f_19 : FunD K "__init__" "Place.__init__" (defArgs s_19) (defBody s_19) (defScope s_19) [] [] (fAd K ("Place", (some "__init__"))) (fdAt K ("Place", (some "__init__")))
  b_19 : Binds K (fdAt K ("Place", (some "__init__"))) [("self" : Str), ("value" : Str), ("depth" : Str), ("need" : Str), ("right" : Str)] []
  f_20 : FunD K "most_in_row" "most_in_row" (defArgs s_20) (defBody s_20) (defScope s_20) [] [] (fAd K ("most_in_row", none)) (fdAt K ("most_in_row", none))
  b_20 : Binds K (fdAt K ("most_in_row", none)) [("need" : Str)] []
  g_20 : mg "most_in_row" = some (.ref (fAd K ("most_in_row", none)))
  f_21 : FunD K "is_too_long" "is_too_long" (defArgs s_21) (defBody s_21) (defScope s_21) [] [] (fAd K ("is_too_long", none)) (fdAt K ("is_too_long", none))
  b_21 : Binds K (fdAt K ("is_too_long", none)) [("place" : Str)] []
  g_21 : mg "is_too_long" = some (.ref (fAd K ("is_too_long", none)))
  f_22 : FunD K "opens_one" "opens_one" (defArgs s_22) (defBody s_22) (defScope s_22) [] [] (fAd K ("opens_one", none)) (fdAt K ("opens_one", none))
  b_22 : Binds K (fdAt K ("opens_one", none)) [("word" : Str)] []
  g_22 : mg "opens_one" = some (.ref (fAd K ("opens_one", none)))
  f_23 : FunD K "places_below" "places_below" (defArgs s_23) (defBody s_23) (defScope s_23) [] [] (fAd K ("places_below", none)) (fdAt K ("places_below", none))
  b_23 : Binds K (fdAt K ("places_below", none)) [("place" : Str)] []
  g_23 : mg "places_below" = some (.ref (fAd K ("places_below", none)))
  f_24 : FunD K "is_tree" "is_tree" (defArgs s_24) (defBody s_24) (defScope s_24) [] [] (fAd K ("is_tree", none)) (fdAt K ("is_tree", none))
  b_24 : Binds K (fdAt K ("is_tree", none)) [("value" : Str), ("depth" : Str)] []
  g_24 : mg "is_tree" = some (.ref (fAd K ("is_tree", none)))
  f_25 : FunD K "is_part" "is_part" (defArgs s_25) (defBody s_25) (defScope s_25) [] [] (fAd K ("is_part", none)) (fdAt K ("is_part", none))
  b_25 : Binds K (fdAt K ("is_part", none)) [("value" : Str), ("kind" : Str)] []
  g_25 : mg "is_part" = some (.ref (fAd K ("is_part", none)))
  f_26 : FunD K "are_parts" "are_parts" (defArgs s_26) (defBody s_26) (defScope s_26) [] [] (fAd K ("are_parts", none)) (fdAt K ("are_parts", none))
  b_26 : Binds K (fdAt K ("are_parts", none)) [("values" : Str), ("kinds" : Str)] []
  g_26 : mg "are_parts" = some (.ref (fAd K ("are_parts", none)))
  f_27 : FunD K "is_ask" "is_ask" (defArgs s_27) (defBody s_27) (defScope s_27) [] [] (fAd K ("is_ask", none)) (fdAt K ("is_ask", none))
  b_27 : Binds K (fdAt K ("is_ask", none)) [("value" : Str)] []
  g_27 : mg "is_ask" = some (.ref (fAd K ("is_ask", none)))
  f_28 : FunD K "is_row" "is_row" (defArgs s_28) (defBody s_28) (defScope s_28) [] [] (fAd K ("is_row", none)) (fdAt K ("is_row", none))
  b_28 : Binds K (fdAt K ("is_row", none)) [("value" : Str)] []
  g_28 : mg "is_row" = some (.ref (fAd K ("is_row", none)))
  f_29 : FunD K "plan_wrong_by" "plan_wrong_by" (defArgs s_29) (defBody s_29) (defScope s_29) [] [] (fAd K ("plan_wrong_by", none)) (fdAt K ("plan_wrong_by", none))
  b_29 : Binds K (fdAt K ("plan_wrong_by", none)) [("value" : Str)] []
  g_29 : mg "plan_wrong_by" = some (.ref (fAd K ("plan_wrong_by", none)))
  f_30 : FunD K "__init__" "Reader.__init__" (defArgs s_30) (defBody s_30) (defScope s_30) [] [] (fAd K ("Reader", (some "__init__"))) (fdAt K ("Reader", (some "__init__")))
  b_30 : Binds K (fdAt K ("Reader", (some "__init__"))) [("self" : Str), ("source" : Str)] []
  f_31 : FunD K "is_done" "Reader.is_done" (defArgs s_31) (defBody s_31) (defScope s_31) [] [] (fAd K ("Reader", (some "is_done"))) (fdAt K ("Reader", (some "is_done")))
  b_31 : Binds K (fdAt K ("Reader", (some "is_done"))) [("self" : Str)] []
  m_31 : Meth K (ga K "Reader") "is_done" (fAd K ("Reader", (some "is_done")))
  f_32 : FunD K "place" "Reader.place" (defArgs s_32) (defBody s_32) (defScope s_32) [] [] (fAd K ("Reader", (some "place"))) (fdAt K ("Reader", (some "place")))
  b_32 : Binds K (fdAt K ("Reader", (some "place"))) [("self" : Str)] []
  m_32 : Meth K (ga K "Reader") "place" (fAd K ("Reader", (some "place")))
  f_33 : FunD K "next_kind" "Reader.next_kind" (defArgs s_33) (defBody s_33) (defScope s_33) [] [] (fAd K ("Reader", (some "next_kind"))) (fdAt K ("Reader", (some "next_kind")))
  b_33 : Binds K (fdAt K ("Reader", (some "next_kind"))) [("self" : Str)] []
  m_33 : Meth K (ga K "Reader") "next_kind" (fAd K ("Reader", (some "next_kind")))
  f_34 : FunD K "next_part" "Reader.next_part" (defArgs s_34) (defBody s_34) (defScope s_34) [] [] (fAd K ("Reader", (some "next_part"))) (fdAt K ("Reader", (some "next_part")))
  b_34 : Binds K (fdAt K ("Reader", (some "next_part"))) [("self" : Str)] []
  m_34 : Meth K (ga K "Reader") "next_part" (fAd K ("Reader", (some "next_part")))
  f_35 : FunD K "sees" "Reader.sees" (defArgs s_35) (defBody s_35) (defScope s_35) [] [] (fAd K ("Reader", (some "sees"))) (fdAt K ("Reader", (some "sees")))
  b_35 : Binds K (fdAt K ("Reader", (some "sees"))) [("self" : Str), ("part" : Str)] []
  m_35 : Meth K (ga K "Reader") "sees" (fAd K ("Reader", (some "sees")))
  f_36 : FunD K "took" "Reader.took" (defArgs s_36) (defBody s_36) (defScope s_36) [] [] (fAd K ("Reader", (some "took"))) (fdAt K ("Reader", (some "took")))
  b_36 : Binds K (fdAt K ("Reader", (some "took"))) [("self" : Str)] []
  m_36 : Meth K (ga K "Reader") "took" (fAd K ("Reader", (some "took")))
  f_37 : FunD K "need" "Reader.need" (defArgs s_37) (defBody s_37) (defScope s_37) [] [] (fAd K ("Reader", (some "need"))) (fdAt K ("Reader", (some "need")))
  b_37 : Binds K (fdAt K ("Reader", (some "need"))) [("self" : Str), ("part" : Str)] []
  m_37 : Meth K (ga K "Reader") "need" (fAd K ("Reader", (some "need")))
  f_38 : FunD K "need_end" "Reader.need_end" (defArgs s_38) (defBody s_38) (defScope s_38) [] [] (fAd K ("Reader", (some "need_end"))) (fdAt K ("Reader", (some "need_end")))
  b_38 : Binds K (fdAt K ("Reader", (some "need_end"))) [("self" : Str)] []
  m_38 : Meth K (ga K "Reader") "need_end" (fAd K ("Reader", (some "need_end")))
  f_39 : FunD K "name" "Reader.name" (defArgs s_39) (defBody s_39) (defScope s_39) [] [] (fAd K ("Reader", (some "name"))) (fdAt K ("Reader", (some "name")))
  b_39 : Binds K (fdAt K ("Reader", (some "name"))) [("self" : Str)] []
  m_39 : Meth K (ga K "Reader") "name" (fAd K ("Reader", (some "name")))
  f_40 : FunD K "numeral" "Reader.numeral" (defArgs s_40) (defBody s_40) (defScope s_40) [] [] (fAd K ("Reader", (some "numeral"))) (fdAt K ("Reader", (some "numeral")))
  b_40 : Binds K (fdAt K ("Reader", (some "numeral"))) [("self" : Str), ("low" : Str), ("high" : Str)] []
  m_40 : Meth K (ga K "Reader") "numeral" (fAd K ("Reader", (some "numeral")))
  f_41 : FunD K "sum_at" "sum_at" (defArgs s_41) (defBody s_41) (defScope s_41) [] [] (fAd K ("sum_at", none)) (fdAt K ("sum_at", none))
  b_41 : Binds K (fdAt K ("sum_at", none)) [("reader" : Str), ("depth" : Str)] []
  g_41 : mg "sum_at" = some (.ref (fAd K ("sum_at", none)))
  f_42 : FunD K "product_at" "product_at" (defArgs s_42) (defBody s_42) (defScope s_42) [] [] (fAd K ("product_at", none)) (fdAt K ("product_at", none))
  b_42 : Binds K (fdAt K ("product_at", none)) [("reader" : Str), ("depth" : Str)] []
  g_42 : mg "product_at" = some (.ref (fAd K ("product_at", none)))
  f_43 : FunD K "factor_at" "factor_at" (defArgs s_43) (defBody s_43) (defScope s_43) [] [] (fAd K ("factor_at", none)) (fdAt K ("factor_at", none))
  b_43 : Binds K (fdAt K ("factor_at", none)) [("reader" : Str), ("depth" : Str)] []
  g_43 : mg "factor_at" = some (.ref (fAd K ("factor_at", none)))
  f_44 : FunD K "deeper_at" "deeper_at" (defArgs s_44) (defBody s_44) (defScope s_44) [] [] (fAd K ("deeper_at", none)) (fdAt K ("deeper_at", none))
  b_44 : Binds K (fdAt K ("deeper_at", none)) [("reader" : Str), ("depth" : Str)] []
  g_44 : mg "deeper_at" = some (.ref (fAd K ("deeper_at", none)))
  f_45 : FunD K "within" "within" (defArgs s_45) (defBody s_45) (defScope s_45) [] [] (fAd K ("within", none)) (fdAt K ("within", none))
  b_45 : Binds K (fdAt K ("within", none)) [("reader" : Str), ("depth" : Str)] []
  g_45 : mg "within" = some (.ref (fAd K ("within", none)))
  f_46 : FunD K "of_points" "of_points" (defArgs s_46) (defBody s_46) (defScope s_46) [] [] (fAd K ("of_points", none)) (fdAt K ("of_points", none))
  b_46 : Binds K (fdAt K ("of_points", none)) [("reader" : Str)] []
  g_46 : mg "of_points" = some (.ref (fAd K ("of_points", none)))
  f_47 : FunD K "root_number" "root_number" (defArgs s_47) (defBody s_47) (defScope s_47) [] [] (fAd K ("root_number", none)) (fdAt K ("root_number", none))
  b_47 : Binds K (fdAt K ("root_number", none)) [("reader" : Str)] []
  g_47 : mg "root_number" = some (.ref (fAd K ("root_number", none)))
  f_48 : FunD K "root_at" "root_at" (defArgs s_48) (defBody s_48) (defScope s_48) [] [] (fAd K ("root_at", none)) (fdAt K ("root_at", none))
  b_48 : Binds K (fdAt K ("root_at", none)) [("reader" : Str), ("depth" : Str)] []
  g_48 : mg "root_at" = some (.ref (fAd K ("root_at", none)))
  f_49 : FunD K "part_at" "part_at" (defArgs s_49) (defBody s_49) (defScope s_49) [] [] (fAd K ("part_at", none)) (fdAt K ("part_at", none))
  b_49 : Binds K (fdAt K ("part_at", none)) [("reader" : Str), ("kind" : Str)] []
  g_49 : mg "part_at" = some (.ref (fAd K ("part_at", none)))
  f_50 : FunD K "parts_at" "parts_at" (defArgs s_50) (defBody s_50) (defScope s_50) [] [] (fAd K ("parts_at", none)) (fdAt K ("parts_at", none))
  b_50 : Binds K (fdAt K ("parts_at", none)) [("reader" : Str), ("kinds" : Str)] []
  g_50 : mg "parts_at" = some (.ref (fAd K ("parts_at", none)))
  f_51 : FunD K "made_row" "made_row" (defArgs s_51) (defBody s_51) (defScope s_51) [] [] (fAd K ("made_row", none)) (fdAt K ("made_row", none))
  b_51 : Binds K (fdAt K ("made_row", none)) [("reader" : Str)] []
  g_51 : mg "made_row" = some (.ref (fAd K ("made_row", none)))
  f_52 : FunD K "ask_of_numbers" "ask_of_numbers" (defArgs s_52) (defBody s_52) (defScope s_52) [] [] (fAd K ("ask_of_numbers", none)) (fdAt K ("ask_of_numbers", none))
  b_52 : Binds K (fdAt K ("ask_of_numbers", none)) [("reader" : Str)] []
  g_52 : mg "ask_of_numbers" = some (.ref (fAd K ("ask_of_numbers", none)))
  f_53 : FunD K "ask_row" "ask_row" (defArgs s_53) (defBody s_53) (defScope s_53) [] [] (fAd K ("ask_row", none)) (fdAt K ("ask_row", none))
  b_53 : Binds K (fdAt K ("ask_row", none)) [("reader" : Str)] []
  g_53 : mg "ask_row" = some (.ref (fAd K ("ask_row", none)))
  f_54 : FunD K "tell_row" "tell_row" (defArgs s_54) (defBody s_54) (defScope s_54) [] [] (fAd K ("tell_row", none)) (fdAt K ("tell_row", none))
  b_54 : Binds K (fdAt K ("tell_row", none)) [("reader" : Str)] []
  g_54 : mg "tell_row" = some (.ref (fAd K ("tell_row", none)))
  f_55 : FunD K "row_at" "row_at" (defArgs s_55) (defBody s_55) (defScope s_55) [] [] (fAd K ("row_at", none)) (fdAt K ("row_at", none))
  b_55 : Binds K (fdAt K ("row_at", none)) [("reader" : Str)] []
  g_55 : mg "row_at" = some (.ref (fAd K ("row_at", none)))
  f_56 : FunD K "rows_at" "rows_at" (defArgs s_56) (defBody s_56) (defScope s_56) [] [] (fAd K ("rows_at", none)) (fdAt K ("rows_at", none))
  b_56 : Binds K (fdAt K ("rows_at", none)) [("reader" : Str)] []
  g_56 : mg "rows_at" = some (.ref (fAd K ("rows_at", none)))
  f_57 : FunD K "read_by" "read_by" (defArgs s_57) (defBody s_57) (defScope s_57) [] [] (fAd K ("read_by", none)) (fdAt K ("read_by", none))
  b_57 : Binds K (fdAt K ("read_by", none)) [("text" : Str)] []
  g_57 : mg "read_by" = some (.ref (fAd K ("read_by", none)))
  f_58 : FunD K "check_text" "check_text" (defArgs s_58) (defBody s_58) (defScope s_58) [] [] (fAd K ("check_text", none)) (fdAt K ("check_text", none))
  b_58 : Binds K (fdAt K ("check_text", none)) [("value" : Str)] []
  g_58 : mg "check_text" = some (.ref (fAd K ("check_text", none)))
  f_59 : FunD K "parted" "parted" (defArgs s_59) (defBody s_59) (defScope s_59) [] [] (fAd K ("parted", none)) (fdAt K ("parted", none))
  b_59 : Binds K (fdAt K ("parted", none)) [("things" : Str), ("between" : Str)] []
  g_59 : mg "parted" = some (.ref (fAd K ("parted", none)))
  f_60 : FunD K "print_of" "print_of" (defArgs s_60) (defBody s_60) (defScope s_60) [] [] (fAd K ("print_of", none)) (fdAt K ("print_of", none))
  b_60 : Binds K (fdAt K ("print_of", none)) [("tree" : Str)] []
  g_60 : mg "print_of" = some (.ref (fAd K ("print_of", none)))
  f_61 : FunD K "needed_print" "needed_print" (defArgs s_61) (defBody s_61) (defScope s_61) [] [] (fAd K ("needed_print", none)) (fdAt K ("needed_print", none))
  b_61 : Binds K (fdAt K ("needed_print", none)) [("tree" : Str), ("need" : Str)] []
  g_61 : mg "needed_print" = some (.ref (fAd K ("needed_print", none)))
  f_62 : FunD K "tree_text" "tree_text" (defArgs s_62) (defBody s_62) (defScope s_62) [] [] (fAd K ("tree_text", none)) (fdAt K ("tree_text", none))
  b_62 : Binds K (fdAt K ("tree_text", none)) [("tree" : Str)] []
  g_62 : mg "tree_text" = some (.ref (fAd K ("tree_text", none)))
  f_63 : FunD K "part_text" "part_text" (defArgs s_63) (defBody s_63) (defScope s_63) [] [] (fAd K ("part_text", none)) (fdAt K ("part_text", none))
  b_63 : Binds K (fdAt K ("part_text", none)) [("part" : Str)] []
  g_63 : mg "part_text" = some (.ref (fAd K ("part_text", none)))
  f_64 : FunD K "parts_text" "parts_text" (defArgs s_64) (defBody s_64) (defScope s_64) [] [] (fAd K ("parts_text", none)) (fdAt K ("parts_text", none))
  b_64 : Binds K (fdAt K ("parts_text", none)) [("word" : Str), ("parts" : Str)] []
  g_64 : mg "parts_text" = some (.ref (fAd K ("parts_text", none)))
  f_65 : FunD K "ask_text" "ask_text" (defArgs s_65) (defBody s_65) (defScope s_65) [] [] (fAd K ("ask_text", none)) (fdAt K ("ask_text", none))
  b_65 : Binds K (fdAt K ("ask_text", none)) [("thing" : Str)] []
  g_65 : mg "ask_text" = some (.ref (fAd K ("ask_text", none)))
  f_66 : FunD K "row_text" "row_text" (defArgs s_66) (defBody s_66) (defScope s_66) [] [] (fAd K ("row_text", none)) (fdAt K ("row_text", none))
  b_66 : Binds K (fdAt K ("row_text", none)) [("row" : Str)] []
  g_66 : mg "row_text" = some (.ref (fAd K ("row_text", none)))
  f_67 : FunD K "written_by" "written_by" (defArgs s_67) (defBody s_67) (defScope s_67) [] [] (fAd K ("written_by", none)) (fdAt K ("written_by", none))
  b_67 : Binds K (fdAt K ("written_by", none)) [("plan" : Str)] []
  g_67 : mg "written_by" = some (.ref (fAd K ("written_by", none)))
  f_68 : FunD K "check_string" "check_string" (defArgs s_68) (defBody s_68) (defScope s_68) [] [] (fAd K ("check_string", none)) (fdAt K ("check_string", none))
  b_68 : Binds K (fdAt K ("check_string", none)) [("value" : Str)] []
  g_68 : mg "check_string" = some (.ref (fAd K ("check_string", none)))
  f_69 : FunD K "first_place" "first_place" (defArgs s_69) (defBody s_69) (defScope s_69) [] [] (fAd K ("first_place", none)) (fdAt K ("first_place", none))
  b_69 : Binds K (fdAt K ("first_place", none)) [("text" : Str)] []
  g_69 : mg "first_place" = some (.ref (fAd K ("first_place", none)))
  f_70 : FunD K "read" "read" (defArgs s_70) (defBody s_70) (defScope s_70) [] [] (fAd K ("read", none)) (fdAt K ("read", none))
  b_70 : Binds K (fdAt K ("read", none)) [("text" : Str)] []
  g_70 : mg "read" = some (.ref (fAd K ("read", none)))
  f_71 : FunD K "is_plan" "is_plan" (defArgs s_71) (defBody s_71) (defScope s_71) [] [] (fAd K ("is_plan", none)) (fdAt K ("is_plan", none))
  b_71 : Binds K (fdAt K ("is_plan", none)) [("value" : Str)] []
  g_71 : mg "is_plan" = some (.ref (fAd K ("is_plan", none)))
  f_72 : FunD K "tidy" "tidy" (defArgs s_72) (defBody s_72) (defScope s_72) [] [] (fAd K ("tidy", none)) (fdAt K ("tidy", none))
  b_72 : Binds K (fdAt K ("tidy", none)) [("text" : Str)] []
  g_72 : mg "tidy" = some (.ref (fAd K ("tidy", none)))
  f_73 : FunD K "_law_forge" "_law_forge" (defArgs s_73) (defBody s_73) (defScope s_73) [] [] (fAd K ("_law_forge", none)) (fdAt K ("_law_forge", none))
  b_73 : Binds K (fdAt K ("_law_forge", none)) [("script" : Str), ("lap" : Str)] []
  g_73 : mg "_law_forge" = some (.ref (fAd K ("_law_forge", none)))
  f_74 : FunD K "_law_strike" "_law_strike" (defArgs s_74) (defBody s_74) (defScope s_74) [] [] (fAd K ("_law_strike", none)) (fdAt K ("_law_strike", none))
  b_74 : Binds K (fdAt K ("_law_strike", none)) [("forge" : Str), ("many" : Str)] []
  g_74 : mg "_law_strike" = some (.ref (fAd K ("_law_strike", none)))
  f_75 : FunD K "_law_pick" "_law_pick" (defArgs s_75) (defBody s_75) (defScope s_75) [] [] (fAd K ("_law_pick", none)) (fdAt K ("_law_pick", none))
  b_75 : Binds K (fdAt K ("_law_pick", none)) [("forge" : Str), ("things" : Str)] []
  g_75 : mg "_law_pick" = some (.ref (fAd K ("_law_pick", none)))
  f_76 : FunD K "_law_are_same" "_law_are_same" (defArgs s_76) (defBody s_76) (defScope s_76) [] [] (fAd K ("_law_are_same", none)) (fdAt K ("_law_are_same", none))
  b_76 : Binds K (fdAt K ("_law_are_same", none)) [("told" : Str), ("due" : Str)] []
  g_76 : mg "_law_are_same" = some (.ref (fAd K ("_law_are_same", none)))
  f_77 : FunD K "_law_same" "_law_same" (defArgs s_77) (defBody s_77) (defScope s_77) [] [] (fAd K ("_law_same", none)) (fdAt K ("_law_same", none))
  b_77 : Binds K (fdAt K ("_law_same", none)) [("told" : Str), ("due" : Str)] []
  g_77 : mg "_law_same" = some (.ref (fAd K ("_law_same", none)))
  f_78 : FunD K "_law_place" "_law_place" (defArgs s_78) (defBody s_78) (defScope s_78) [] [] (fAd K ("_law_place", none)) (fdAt K ("_law_place", none))
  b_78 : Binds K (fdAt K ("_law_place", none)) [("text" : Str)] []
  g_78 : mg "_law_place" = some (.ref (fAd K ("_law_place", none)))
  f_79 : FunD K "_law_row" "_law_row" (defArgs s_79) (defBody s_79) (defScope s_79) [] [] (fAd K ("_law_row", none)) (fdAt K ("_law_row", none))
  b_79 : Binds K (fdAt K ("_law_row", none)) [("tree" : Str)] []
  g_79 : mg "_law_row" = some (.ref (fAd K ("_law_row", none)))
  f_80 : FunD K "_law_right" "_law_right" (defArgs s_80) (defBody s_80) (defScope s_80) [] [] (fAd K ("_law_right", none)) (fdAt K ("_law_right", none))
  b_80 : Binds K (fdAt K ("_law_right", none)) [("forge" : Str)] []
  g_80 : mg "_law_right" = some (.ref (fAd K ("_law_right", none)))
  f_81 : FunD K "_law_are_ends_right" "_law_are_ends_right" (defArgs s_81) (defBody s_81) (defScope s_81) [] [] (fAd K ("_law_are_ends_right", none)) (fdAt K ("_law_are_ends_right", none))
  b_81 : Binds K (fdAt K ("_law_are_ends_right", none)) [] []
  g_81 : mg "_law_are_ends_right" = some (.ref (fAd K ("_law_are_ends_right", none)))
  f_82 : FunD K "_law_are_words_right" "_law_are_words_right" (defArgs s_82) (defBody s_82) (defScope s_82) [] [] (fAd K ("_law_are_words_right", none)) (fdAt K ("_law_are_words_right", none))
  b_82 : Binds K (fdAt K ("_law_are_words_right", none)) [] []
  g_82 : mg "_law_are_words_right" = some (.ref (fAd K ("_law_are_words_right", none)))
  f_83 : FunD K "_law_are_trees_right" "_law_are_trees_right" (defArgs s_83) (defBody s_83) (defScope s_83) [] [] (fAd K ("_law_are_trees_right", none)) (fdAt K ("_law_are_trees_right", none))
  b_83 : Binds K (fdAt K ("_law_are_trees_right", none)) [] []
  g_83 : mg "_law_are_trees_right" = some (.ref (fAd K ("_law_are_trees_right", none)))
  f_84 : FunD K "law" "law" (defArgs s_84) (defBody s_84) (defScope s_84) [] [] (fAd K ("law", none)) (fdAt K ("law", none))
  b_84 : Binds K (fdAt K ("law", none)) [("script" : Str)] []
  g_84 : mg "law" = some (.ref (fAd K ("law", none)))
  cl_Place : Cls K (ga K "Place")
  gc_Place : mg "Place" = some (.ref (ga K "Place"))
  mk_Place : Mk K (ga K "Place") (fAd K ("Place", some "__init__"))
  cl_Reader : Cls K (ga K "Reader")
  gc_Reader : mg "Reader" = some (.ref (ga K "Reader"))
  mk_Reader : Mk K (ga K "Reader") (fAd K ("Reader", some "__init__"))
  t_at : FldC (su K) "at" T.t_at
  t_depth : FldC (su K) "depth" T.t_depth
  t_need : FldC (su K) "need" T.t_need
  t_pieces : FldC (su K) "pieces" T.t_pieces
  t_right : FldC (su K) "right" T.t_right
  t_size : FldC (su K) "size" T.t_size
  t_value : FldC (su K) "value" T.t_value
  n_abs : mg "abs" = none
  n_all : mg "all" = none
  n_bool : mg "bool" = none
  n_divmod : mg "divmod" = none
  n_enumerate : mg "enumerate" = none
  n_int : mg "int" = none
  n_isinstance : mg "isinstance" = none
  n_len : mg "len" = none
  n_list : mg "list" = none
  n_max : mg "max" = none
  n_min : mg "min" = none
  n_range : mg "range" = none
  n_reversed : mg "reversed" = none
  n_str : mg "str" = none
  n_tuple : mg "tuple" = none
  n_zip : mg "zip" = none
  c_BLANK : CstC K mg "BLANK" k_BLANK
  c_FACTORS : CstC K mg "FACTORS" k_FACTORS
  c_FIGURES : CstC K mg "FIGURES" k_FIGURES
  c_LEAST_COEFS : CstC K mg "LEAST_COEFS" k_LEAST_COEFS
  c_LINE_END : CstC K mg "LINE_END" k_LINE_END
  c_MOST_COEFS : CstC K mg "MOST_COEFS" k_MOST_COEFS
  c_MOST_DEPTH : CstC K mg "MOST_DEPTH" k_MOST_DEPTH
  c_MOST_FACTORS : CstC K mg "MOST_FACTORS" k_MOST_FACTORS
  c_MOST_FIGURES : CstC K mg "MOST_FIGURES" k_MOST_FIGURES
  c_MOST_NUMERAL : CstC K mg "MOST_NUMERAL" k_MOST_NUMERAL
  c_MOST_PLACES : CstC K mg "MOST_PLACES" k_MOST_PLACES
  c_MOST_ROOT : CstC K mg "MOST_ROOT" k_MOST_ROOT
  c_MOST_ROWS : CstC K mg "MOST_ROWS" k_MOST_ROWS
  c_MOST_SIGNS : CstC K mg "MOST_SIGNS" k_MOST_SIGNS
  c_MOST_TERMS : CstC K mg "MOST_TERMS" k_MOST_TERMS
  c_MOST_TURN : CstC K mg "MOST_TURN" k_MOST_TURN
  c_RUN_SIGNS : CstC K mg "RUN_SIGNS" k_RUN_SIGNS
  c_SIGNS : CstC K mg "SIGNS" k_SIGNS
  c_TERMS : CstC K mg "TERMS" k_TERMS
  c_WORDS : CstC K mg "WORDS" k_WORDS
  d_ASK_PARTS : DictC (su K) w (ga K "ASK_PARTS") T.d_ASK_PARTS
  gd_ASK_PARTS : mg "ASK_PARTS" = some (.ref (ga K "ASK_PARTS"))
  d_ASK_SIGNS : DictC (su K) w (ga K "ASK_SIGNS") T.d_ASK_SIGNS
  gd_ASK_SIGNS : mg "ASK_SIGNS" = some (.ref (ga K "ASK_SIGNS"))
  d_FACTOR_SIGNS : DictC (su K) w (ga K "FACTOR_SIGNS") T.d_FACTOR_SIGNS
  gd_FACTOR_SIGNS : mg "FACTOR_SIGNS" = some (.ref (ga K "FACTOR_SIGNS"))
  d_FACTOR_WORDS : DictC (su K) w (ga K "FACTOR_WORDS") T.d_FACTOR_WORDS
  gd_FACTOR_WORDS : mg "FACTOR_WORDS" = some (.ref (ga K "FACTOR_WORDS"))
  d_FIGURE_PARTS : DictC (su K) w (ga K "FIGURE_PARTS") T.d_FIGURE_PARTS
  gd_FIGURE_PARTS : mg "FIGURE_PARTS" = some (.ref (ga K "FIGURE_PARTS"))
  d_POINT_WORDS : DictC (su K) w (ga K "POINT_WORDS") T.d_POINT_WORDS
  gd_POINT_WORDS : mg "POINT_WORDS" = some (.ref (ga K "POINT_WORDS"))
  d_TERM_SIGNS : DictC (su K) w (ga K "TERM_SIGNS") T.d_TERM_SIGNS
  gd_TERM_SIGNS : mg "TERM_SIGNS" = some (.ref (ga K "TERM_SIGNS"))
  d_TERM_WORDS : DictC (su K) w (ga K "TERM_WORDS") T.d_TERM_WORDS
  gd_TERM_WORDS : mg "TERM_WORDS" = some (.ref (ga K "TERM_WORDS"))
  d_TREE_SIZES : DictC (su K) w (ga K "TREE_SIZES") T.d_TREE_SIZES
  gd_TREE_SIZES : mg "TREE_SIZES" = some (.ref (ga K "TREE_SIZES"))
  x_InvalidText : ExT K mg "InvalidText" "InvalidText.__init__" [.type "ValueError", .type "Exception", .type "BaseException", .type "object"] "ValueError.__new__" (ga K "InvalidText") (ma K (ga K "InvalidText") "__init__")
  x_Halt : ExT K mg "Halt" "Halt.__init__" [.type "Exception", .type "BaseException", .type "object"] "Exception.__new__" (ga K "Halt") (ma K (ga K "Halt") "__init__")
structure Lv (P : Program) (w : World) (K : PySem.W.Frag) (mg : Str → Option Value) (base : Heap) (k : Nat) (G : Nat → Fn) : Prop where
  o_0 : FnOk P w K mg base (L2.CX P w) k (fAd K ("is_whole", none)) (fdAt K ("is_whole", none)) [("value" : Str)] (SpD (su K) (G 0))
  o_1 : FnOk P w K mg base (L2.CX P w) k (fAd K ("is_between", none)) (fdAt K ("is_between", none)) [("value" : Str), ("low" : Str), ("high" : Str)] (SpD (su K) (G 1))
  o_2 : FnOk P w K mg base (L2.CX P w) k (fAd K ("is_tuple_of", none)) (fdAt K ("is_tuple_of", none)) [("value" : Str), ("many" : Str)] (SpD (su K) (G 2))
  o_3 : FnOk P w K mg base (L2.CX P w) k (fAd K ("are_figures", none)) (fdAt K ("are_figures", none)) [("run" : Str)] (SpD (su K) (G 3))
  o_4 : FnOk P w K mg base (L2.CX P w) k (fAd K ("is_numeral", none)) (fdAt K ("is_numeral", none)) [("run" : Str)] (SpD (su K) (G 4))
  o_5 : FnOk P w K mg base (L2.CX P w) k (fAd K ("kind_of_run", none)) (fdAt K ("kind_of_run", none)) [("run" : Str)] (SpD (su K) (G 5))
  o_6 : FnOk P w K mg base (L2.CX P w) k (fAd K ("is_run", none)) (fdAt K ("is_run", none)) [("text" : Str)] (SpD (su K) (G 6))
  o_7 : FnOk P w K mg base (L2.CX P w) k (fAd K ("is_name", none)) (fdAt K ("is_name", none)) [("value" : Str)] (SpD (su K) (G 7))
  o_8 : FnOk P w K mg base (L2.CX P w) k (fAd K ("kind_of_sign", none)) (fdAt K ("kind_of_sign", none)) [("sign" : Str)] (SpD (su K) (G 8))
  o_9 : FnOk P w K mg base (L2.CX P w) k (fAd K ("run_end", none)) (fdAt K ("run_end", none)) [("text" : Str), ("start" : Str)] (SpD (su K) (G 9))
  o_10 : FnOk P w K mg base (L2.CX P w) k (fAd K ("piece_at", none)) (fdAt K ("piece_at", none)) [("text" : Str), ("start" : Str)] (SpD (su K) (G 10))
  o_11 : FnOk P w K mg base (L2.CX P w) k (fAd K ("pieces_by", none)) (fdAt K ("pieces_by", none)) [("text" : Str)] (SpD (su K) (G 11))
  o_12 : FnOk P w K mg base (L2.CX P w) k (fAd K ("parts_of", none)) (fdAt K ("parts_of", none)) [("tree" : Str)] (SpD (su K) (G 12))
  o_13 : FnOk P w K mg base (L2.CX P w) k (fAd K ("strength_of", none)) (fdAt K ("strength_of", none)) [("word" : Str)] (SpD (su K) (G 13))
  o_14 : FnOk P w K mg base (L2.CX P w) k (fAd K ("count_in_row", none)) (fdAt K ("count_in_row", none)) [("tree" : Str), ("strength" : Str)] (SpD (su K) (G 14))
  o_15 : FnOk P w K mg base (L2.CX P w) k (fAd K ("needs_of", none)) (fdAt K ("needs_of", none)) [("tree" : Str)] (SpD (su K) (G 15))
  o_16 : FnOk P w K mg base (L2.CX P w) k (fAd K ("is_root_number", none)) (fdAt K ("is_root_number", none)) [("value" : Str)] (SpD (su K) (G 16))
  o_17 : FnOk P w K mg base (L2.CX P w) k (fAd K ("are_coefs", none)) (fdAt K ("are_coefs", none)) [("value" : Str)] (SpD (su K) (G 17))
  o_18 : FnOk P w K mg base (L2.CX P w) k (fAd K ("is_node", none)) (fdAt K ("is_node", none)) [("value" : Str)] (SpD (su K) (G 18))
  o_19 : FnOk P w K mg base (L2.CX P w) k (fAd K ("Place", (some "__init__"))) (fdAt K ("Place", (some "__init__"))) [("self" : Str), ("value" : Str), ("depth" : Str), ("need" : Str), ("right" : Str)] (SpD (su K) (G 19))
  o_20 : FnOk P w K mg base (L2.CX P w) k (fAd K ("most_in_row", none)) (fdAt K ("most_in_row", none)) [("need" : Str)] (SpD (su K) (G 20))
  o_21 : FnOk P w K mg base (L2.CX P w) k (fAd K ("is_too_long", none)) (fdAt K ("is_too_long", none)) [("place" : Str)] (SpD (su K) (G 21))
  o_22 : FnOk P w K mg base (L2.CX P w) k (fAd K ("opens_one", none)) (fdAt K ("opens_one", none)) [("word" : Str)] (SpD (su K) (G 22))
  o_23 : FnOk P w K mg base (L2.CX P w) k (fAd K ("places_below", none)) (fdAt K ("places_below", none)) [("place" : Str)] (SpD (su K) (G 23))
  o_24 : FnOk P w K mg base (L2.CX P w) k (fAd K ("is_tree", none)) (fdAt K ("is_tree", none)) [("value" : Str), ("depth" : Str)] (SpD (su K) (G 24))
  o_25 : FnOk P w K mg base (L2.CX P w) k (fAd K ("is_part", none)) (fdAt K ("is_part", none)) [("value" : Str), ("kind" : Str)] (SpD (su K) (G 25))
  o_26 : FnOk P w K mg base (L2.CX P w) k (fAd K ("are_parts", none)) (fdAt K ("are_parts", none)) [("values" : Str), ("kinds" : Str)] (SpD (su K) (G 26))
  o_27 : FnOk P w K mg base (L2.CX P w) k (fAd K ("is_ask", none)) (fdAt K ("is_ask", none)) [("value" : Str)] (SpD (su K) (G 27))
  o_28 : FnOk P w K mg base (L2.CX P w) k (fAd K ("is_row", none)) (fdAt K ("is_row", none)) [("value" : Str)] (SpD (su K) (G 28))
  o_29 : FnOk P w K mg base (L2.CX P w) k (fAd K ("plan_wrong_by", none)) (fdAt K ("plan_wrong_by", none)) [("value" : Str)] (SpD (su K) (G 29))
  o_30 : FnOk P w K mg base (L2.CX P w) k (fAd K ("Reader", (some "__init__"))) (fdAt K ("Reader", (some "__init__"))) [("self" : Str), ("source" : Str)] (SpD (su K) (G 30))
  o_31 : FnOk P w K mg base (L2.CX P w) k (fAd K ("Reader", (some "is_done"))) (fdAt K ("Reader", (some "is_done"))) [("self" : Str)] (SpD (su K) (G 31))
  o_32 : FnOk P w K mg base (L2.CX P w) k (fAd K ("Reader", (some "place"))) (fdAt K ("Reader", (some "place"))) [("self" : Str)] (SpD (su K) (G 32))
  o_33 : FnOk P w K mg base (L2.CX P w) k (fAd K ("Reader", (some "next_kind"))) (fdAt K ("Reader", (some "next_kind"))) [("self" : Str)] (SpD (su K) (G 33))
  o_34 : FnOk P w K mg base (L2.CX P w) k (fAd K ("Reader", (some "next_part"))) (fdAt K ("Reader", (some "next_part"))) [("self" : Str)] (SpD (su K) (G 34))
  o_35 : FnOk P w K mg base (L2.CX P w) k (fAd K ("Reader", (some "sees"))) (fdAt K ("Reader", (some "sees"))) [("self" : Str), ("part" : Str)] (SpD (su K) (G 35))
  o_36 : FnOk P w K mg base (L2.CX P w) k (fAd K ("Reader", (some "took"))) (fdAt K ("Reader", (some "took"))) [("self" : Str)] (SpD (su K) (G 36))
  o_37 : FnOk P w K mg base (L2.CX P w) k (fAd K ("Reader", (some "need"))) (fdAt K ("Reader", (some "need"))) [("self" : Str), ("part" : Str)] (SpD (su K) (G 37))
  o_38 : FnOk P w K mg base (L2.CX P w) k (fAd K ("Reader", (some "need_end"))) (fdAt K ("Reader", (some "need_end"))) [("self" : Str)] (SpD (su K) (G 38))
  o_39 : FnOk P w K mg base (L2.CX P w) k (fAd K ("Reader", (some "name"))) (fdAt K ("Reader", (some "name"))) [("self" : Str)] (SpD (su K) (G 39))
  o_40 : FnOk P w K mg base (L2.CX P w) k (fAd K ("Reader", (some "numeral"))) (fdAt K ("Reader", (some "numeral"))) [("self" : Str), ("low" : Str), ("high" : Str)] (SpD (su K) (G 40))
  o_41 : FnOk P w K mg base (L2.CX P w) k (fAd K ("sum_at", none)) (fdAt K ("sum_at", none)) [("reader" : Str), ("depth" : Str)] (SpD (su K) (G 41))
  o_42 : FnOk P w K mg base (L2.CX P w) k (fAd K ("product_at", none)) (fdAt K ("product_at", none)) [("reader" : Str), ("depth" : Str)] (SpD (su K) (G 42))
  o_43 : FnOk P w K mg base (L2.CX P w) k (fAd K ("factor_at", none)) (fdAt K ("factor_at", none)) [("reader" : Str), ("depth" : Str)] (SpD (su K) (G 43))
  o_44 : FnOk P w K mg base (L2.CX P w) k (fAd K ("deeper_at", none)) (fdAt K ("deeper_at", none)) [("reader" : Str), ("depth" : Str)] (SpD (su K) (G 44))
  o_45 : FnOk P w K mg base (L2.CX P w) k (fAd K ("within", none)) (fdAt K ("within", none)) [("reader" : Str), ("depth" : Str)] (SpD (su K) (G 45))
  o_46 : FnOk P w K mg base (L2.CX P w) k (fAd K ("of_points", none)) (fdAt K ("of_points", none)) [("reader" : Str)] (SpD (su K) (G 46))
  o_47 : FnOk P w K mg base (L2.CX P w) k (fAd K ("root_number", none)) (fdAt K ("root_number", none)) [("reader" : Str)] (SpD (su K) (G 47))
  o_48 : FnOk P w K mg base (L2.CX P w) k (fAd K ("root_at", none)) (fdAt K ("root_at", none)) [("reader" : Str), ("depth" : Str)] (SpD (su K) (G 48))
  o_49 : FnOk P w K mg base (L2.CX P w) k (fAd K ("part_at", none)) (fdAt K ("part_at", none)) [("reader" : Str), ("kind" : Str)] (SpD (su K) (G 49))
  o_50 : FnOk P w K mg base (L2.CX P w) k (fAd K ("parts_at", none)) (fdAt K ("parts_at", none)) [("reader" : Str), ("kinds" : Str)] (SpD (su K) (G 50))
  o_51 : FnOk P w K mg base (L2.CX P w) k (fAd K ("made_row", none)) (fdAt K ("made_row", none)) [("reader" : Str)] (SpD (su K) (G 51))
  o_52 : FnOk P w K mg base (L2.CX P w) k (fAd K ("ask_of_numbers", none)) (fdAt K ("ask_of_numbers", none)) [("reader" : Str)] (SpD (su K) (G 52))
  o_53 : FnOk P w K mg base (L2.CX P w) k (fAd K ("ask_row", none)) (fdAt K ("ask_row", none)) [("reader" : Str)] (SpD (su K) (G 53))
  o_54 : FnOk P w K mg base (L2.CX P w) k (fAd K ("tell_row", none)) (fdAt K ("tell_row", none)) [("reader" : Str)] (SpD (su K) (G 54))
  o_55 : FnOk P w K mg base (L2.CX P w) k (fAd K ("row_at", none)) (fdAt K ("row_at", none)) [("reader" : Str)] (SpD (su K) (G 55))
  o_56 : FnOk P w K mg base (L2.CX P w) k (fAd K ("rows_at", none)) (fdAt K ("rows_at", none)) [("reader" : Str)] (SpD (su K) (G 56))
  o_57 : FnOk P w K mg base (L2.CX P w) k (fAd K ("read_by", none)) (fdAt K ("read_by", none)) [("text" : Str)] (SpD (su K) (G 57))
  o_58 : FnOk P w K mg base (L2.CX P w) k (fAd K ("check_text", none)) (fdAt K ("check_text", none)) [("value" : Str)] (SpD (su K) (G 58))
  o_59 : FnOk P w K mg base (L2.CX P w) k (fAd K ("parted", none)) (fdAt K ("parted", none)) [("things" : Str), ("between" : Str)] (SpD (su K) (G 59))
  o_60 : FnOk P w K mg base (L2.CX P w) k (fAd K ("print_of", none)) (fdAt K ("print_of", none)) [("tree" : Str)] (SpD (su K) (G 60))
  o_61 : FnOk P w K mg base (L2.CX P w) k (fAd K ("needed_print", none)) (fdAt K ("needed_print", none)) [("tree" : Str), ("need" : Str)] (SpD (su K) (G 61))
  o_62 : FnOk P w K mg base (L2.CX P w) k (fAd K ("tree_text", none)) (fdAt K ("tree_text", none)) [("tree" : Str)] (SpD (su K) (G 62))
  o_63 : FnOk P w K mg base (L2.CX P w) k (fAd K ("part_text", none)) (fdAt K ("part_text", none)) [("part" : Str)] (SpD (su K) (G 63))
  o_64 : FnOk P w K mg base (L2.CX P w) k (fAd K ("parts_text", none)) (fdAt K ("parts_text", none)) [("word" : Str), ("parts" : Str)] (SpD (su K) (G 64))
  o_65 : FnOk P w K mg base (L2.CX P w) k (fAd K ("ask_text", none)) (fdAt K ("ask_text", none)) [("thing" : Str)] (SpD (su K) (G 65))
  o_66 : FnOk P w K mg base (L2.CX P w) k (fAd K ("row_text", none)) (fdAt K ("row_text", none)) [("row" : Str)] (SpD (su K) (G 66))
  o_67 : FnOk P w K mg base (L2.CX P w) k (fAd K ("written_by", none)) (fdAt K ("written_by", none)) [("plan" : Str)] (SpD (su K) (G 67))
  o_68 : FnOk P w K mg base (L2.CX P w) k (fAd K ("check_string", none)) (fdAt K ("check_string", none)) [("value" : Str)] (SpD (su K) (G 68))
  o_69 : FnOk P w K mg base (L2.CX P w) k (fAd K ("first_place", none)) (fdAt K ("first_place", none)) [("text" : Str)] (SpD (su K) (G 69))
  o_70 : FnOk P w K mg base (L2.CX P w) k (fAd K ("read", none)) (fdAt K ("read", none)) [("text" : Str)] (SpD (su K) (G 70))
  o_71 : FnOk P w K mg base (L2.CX P w) k (fAd K ("is_plan", none)) (fdAt K ("is_plan", none)) [("value" : Str)] (SpD (su K) (G 71))
  o_72 : FnOk P w K mg base (L2.CX P w) k (fAd K ("tidy", none)) (fdAt K ("tidy", none)) [("text" : Str)] (SpD (su K) (G 72))
  o_73 : FnOk P w K mg base (L2.CX P w) k (fAd K ("_law_forge", none)) (fdAt K ("_law_forge", none)) [("script" : Str), ("lap" : Str)] (SpD (su K) (G 73))
  o_74 : FnOk P w K mg base (L2.CX P w) k (fAd K ("_law_strike", none)) (fdAt K ("_law_strike", none)) [("forge" : Str), ("many" : Str)] (SpD (su K) (G 74))
  o_75 : FnOk P w K mg base (L2.CX P w) k (fAd K ("_law_pick", none)) (fdAt K ("_law_pick", none)) [("forge" : Str), ("things" : Str)] (SpD (su K) (G 75))
  o_76 : FnOk P w K mg base (L2.CX P w) k (fAd K ("_law_are_same", none)) (fdAt K ("_law_are_same", none)) [("told" : Str), ("due" : Str)] (SpD (su K) (G 76))
  o_77 : FnOk P w K mg base (L2.CX P w) k (fAd K ("_law_same", none)) (fdAt K ("_law_same", none)) [("told" : Str), ("due" : Str)] (SpD (su K) (G 77))
  o_78 : FnOk P w K mg base (L2.CX P w) k (fAd K ("_law_place", none)) (fdAt K ("_law_place", none)) [("text" : Str)] (SpD (su K) (G 78))
  o_79 : FnOk P w K mg base (L2.CX P w) k (fAd K ("_law_row", none)) (fdAt K ("_law_row", none)) [("tree" : Str)] (SpD (su K) (G 79))
  o_80 : FnOk P w K mg base (L2.CX P w) k (fAd K ("_law_right", none)) (fdAt K ("_law_right", none)) [("forge" : Str)] (SpD (su K) (G 80))
  o_81 : FnOk P w K mg base (L2.CX P w) k (fAd K ("_law_are_ends_right", none)) (fdAt K ("_law_are_ends_right", none)) [] (SpD (su K) (G 81))
  o_82 : FnOk P w K mg base (L2.CX P w) k (fAd K ("_law_are_words_right", none)) (fdAt K ("_law_are_words_right", none)) [] (SpD (su K) (G 82))
  o_83 : FnOk P w K mg base (L2.CX P w) k (fAd K ("_law_are_trees_right", none)) (fdAt K ("_law_are_trees_right", none)) [] (SpD (su K) (G 83))
  o_84 : FnOk P w K mg base (L2.CX P w) k (fAd K ("law", none)) (fdAt K ("law", none)) [("script" : Str)] (SpD (su K) (G 84))
theorem sc_0 : FnScope [("value" : Str)] [("value" : Str)] (defScope s_0) := ⟨rfl, rfl, rfl, by decide +kernel, rfl, by decide +kernel, by decide +kernel⟩
theorem sc_1 : FnScope [("value" : Str), ("low" : Str), ("high" : Str)] [("value" : Str), ("low" : Str), ("high" : Str)] (defScope s_1) := ⟨rfl, rfl, rfl, by decide +kernel, rfl, by decide +kernel, by decide +kernel⟩
theorem sc_2 : FnScope [("value" : Str), ("many" : Str)] [("value" : Str), ("many" : Str)] (defScope s_2) := ⟨rfl, rfl, rfl, by decide +kernel, rfl, by decide +kernel, by decide +kernel⟩
theorem sc_3 : FnScope [("run" : Str), ("sign" : Str)] [("run" : Str)] (defScope s_3) := ⟨rfl, rfl, rfl, by decide +kernel, rfl, by decide +kernel, by decide +kernel⟩
theorem sc_4 : FnScope [("run" : Str)] [("run" : Str)] (defScope s_4) := ⟨rfl, rfl, rfl, by decide +kernel, rfl, by decide +kernel, by decide +kernel⟩
theorem sc_5 : FnScope [("run" : Str)] [("run" : Str)] (defScope s_5) := ⟨rfl, rfl, rfl, by decide +kernel, rfl, by decide +kernel, by decide +kernel⟩
theorem sc_6 : FnScope [("text" : Str), ("sign" : Str)] [("text" : Str)] (defScope s_6) := ⟨rfl, rfl, rfl, by decide +kernel, rfl, by decide +kernel, by decide +kernel⟩
theorem sc_7 : FnScope [("value" : Str)] [("value" : Str)] (defScope s_7) := ⟨rfl, rfl, rfl, by decide +kernel, rfl, by decide +kernel, by decide +kernel⟩
theorem sc_8 : FnScope [("sign" : Str)] [("sign" : Str)] (defScope s_8) := ⟨rfl, rfl, rfl, by decide +kernel, rfl, by decide +kernel, by decide +kernel⟩
theorem sc_9 : FnScope [("text" : Str), ("start" : Str), ("at" : Str)] [("text" : Str), ("start" : Str)] (defScope s_9) := ⟨rfl, rfl, rfl, by decide +kernel, rfl, by decide +kernel, by decide +kernel⟩
theorem sc_10 : FnScope [("text" : Str), ("start" : Str), ("run" : Str)] [("text" : Str), ("start" : Str)] (defScope s_10) := ⟨rfl, rfl, rfl, by decide +kernel, rfl, by decide +kernel, by decide +kernel⟩
theorem sc_11 : FnScope [("text" : Str), ("found" : Str), ("at" : Str), ("piece" : Str)] [("text" : Str)] (defScope s_11) := ⟨rfl, rfl, rfl, by decide +kernel, rfl, by decide +kernel, by decide +kernel⟩
theorem sc_12 : FnScope [("tree" : Str), ("word" : Str)] [("tree" : Str)] (defScope s_12) := ⟨rfl, rfl, rfl, by decide +kernel, rfl, by decide +kernel, by decide +kernel⟩
theorem sc_13 : FnScope [("word" : Str)] [("word" : Str)] (defScope s_13) := ⟨rfl, rfl, rfl, by decide +kernel, rfl, by decide +kernel, by decide +kernel⟩
theorem sc_14 : FnScope [("tree" : Str), ("strength" : Str), ("many" : Str)] [("tree" : Str), ("strength" : Str)] (defScope s_14) := ⟨rfl, rfl, rfl, by decide +kernel, rfl, by decide +kernel, by decide +kernel⟩
theorem sc_15 : FnScope [("tree" : Str), ("parts" : Str), ("strength" : Str), ("need" : Str), ("part" : Str)] [("tree" : Str)] (defScope s_15) := ⟨rfl, rfl, rfl, by decide +kernel, rfl, by decide +kernel, by decide +kernel⟩
theorem sc_16 : FnScope [("value" : Str)] [("value" : Str)] (defScope s_16) := ⟨rfl, rfl, rfl, by decide +kernel, rfl, by decide +kernel, by decide +kernel⟩
theorem sc_17 : FnScope [("value" : Str)] [("value" : Str)] (defScope s_17) := ⟨rfl, rfl, rfl, by decide +kernel, rfl, by decide +kernel, by decide +kernel⟩
theorem sc_18 : FnScope [("value" : Str), ("word" : Str), ("part" : Str)] [("value" : Str)] (defScope s_18) := ⟨rfl, rfl, rfl, by decide +kernel, rfl, by decide +kernel, by decide +kernel⟩
theorem sc_19 : FnScope [("self" : Str), ("value" : Str), ("depth" : Str), ("need" : Str), ("right" : Str)] [("self" : Str), ("value" : Str), ("depth" : Str), ("need" : Str), ("right" : Str)] (defScope s_19) := ⟨rfl, rfl, rfl, by decide +kernel, rfl, by decide +kernel, by decide +kernel⟩
theorem sc_20 : FnScope [("need" : Str)] [("need" : Str)] (defScope s_20) := ⟨rfl, rfl, rfl, by decide +kernel, rfl, by decide +kernel, by decide +kernel⟩
theorem sc_21 : FnScope [("place" : Str)] [("place" : Str)] (defScope s_21) := ⟨rfl, rfl, rfl, by decide +kernel, rfl, by decide +kernel, by decide +kernel⟩
theorem sc_22 : FnScope [("word" : Str)] [("word" : Str)] (defScope s_22) := ⟨rfl, rfl, rfl, by decide +kernel, rfl, by decide +kernel, by decide +kernel⟩
theorem sc_23 : FnScope [("place" : Str), ("word" : Str), ("tree" : Str), ("strength" : Str), ("depth" : Str), ("found" : Str), ("part" : Str), ("need" : Str)] [("place" : Str)] (defScope s_23) := ⟨rfl, rfl, rfl, by decide +kernel, rfl, by decide +kernel, by decide +kernel⟩
theorem sc_24 : FnScope [("value" : Str), ("depth" : Str), ("left" : Str), ("place" : Str), ("below" : Str)] [("value" : Str), ("depth" : Str)] (defScope s_24) := ⟨rfl, rfl, rfl, by decide +kernel, rfl, by decide +kernel, by decide +kernel⟩
theorem sc_25 : FnScope [("value" : Str), ("kind" : Str)] [("value" : Str), ("kind" : Str)] (defScope s_25) := ⟨rfl, rfl, rfl, by decide +kernel, rfl, by decide +kernel, by decide +kernel⟩
theorem sc_26 : FnScope [("values" : Str), ("kinds" : Str), ("value" : Str), ("kind" : Str)] [("values" : Str), ("kinds" : Str)] (defScope s_26) := ⟨rfl, rfl, rfl, by decide +kernel, rfl, by decide +kernel, by decide +kernel⟩
theorem sc_27 : FnScope [("value" : Str)] [("value" : Str)] (defScope s_27) := ⟨rfl, rfl, rfl, by decide +kernel, rfl, by decide +kernel, by decide +kernel⟩
theorem sc_28 : FnScope [("value" : Str), ("word" : Str)] [("value" : Str)] (defScope s_28) := ⟨rfl, rfl, rfl, by decide +kernel, rfl, by decide +kernel, by decide +kernel⟩
theorem sc_29 : FnScope [("value" : Str), ("index" : Str), ("row" : Str)] [("value" : Str)] (defScope s_29) := ⟨rfl, rfl, rfl, by decide +kernel, rfl, by decide +kernel, by decide +kernel⟩
theorem sc_30 : FnScope [("self" : Str), ("source" : Str)] [("self" : Str), ("source" : Str)] (defScope s_30) := ⟨rfl, rfl, rfl, by decide +kernel, rfl, by decide +kernel, by decide +kernel⟩
theorem sc_31 : FnScope [("self" : Str)] [("self" : Str)] (defScope s_31) := ⟨rfl, rfl, rfl, by decide +kernel, rfl, by decide +kernel, by decide +kernel⟩
theorem sc_32 : FnScope [("self" : Str)] [("self" : Str)] (defScope s_32) := ⟨rfl, rfl, rfl, by decide +kernel, rfl, by decide +kernel, by decide +kernel⟩
theorem sc_33 : FnScope [("self" : Str)] [("self" : Str)] (defScope s_33) := ⟨rfl, rfl, rfl, by decide +kernel, rfl, by decide +kernel, by decide +kernel⟩
theorem sc_34 : FnScope [("self" : Str)] [("self" : Str)] (defScope s_34) := ⟨rfl, rfl, rfl, by decide +kernel, rfl, by decide +kernel, by decide +kernel⟩
theorem sc_35 : FnScope [("self" : Str), ("part" : Str)] [("self" : Str), ("part" : Str)] (defScope s_35) := ⟨rfl, rfl, rfl, by decide +kernel, rfl, by decide +kernel, by decide +kernel⟩
theorem sc_36 : FnScope [("self" : Str), ("part" : Str)] [("self" : Str)] (defScope s_36) := ⟨rfl, rfl, rfl, by decide +kernel, rfl, by decide +kernel, by decide +kernel⟩
theorem sc_37 : FnScope [("self" : Str), ("part" : Str)] [("self" : Str), ("part" : Str)] (defScope s_37) := ⟨rfl, rfl, rfl, by decide +kernel, rfl, by decide +kernel, by decide +kernel⟩
theorem sc_38 : FnScope [("self" : Str)] [("self" : Str)] (defScope s_38) := ⟨rfl, rfl, rfl, by decide +kernel, rfl, by decide +kernel, by decide +kernel⟩
theorem sc_39 : FnScope [("self" : Str)] [("self" : Str)] (defScope s_39) := ⟨rfl, rfl, rfl, by decide +kernel, rfl, by decide +kernel, by decide +kernel⟩
theorem sc_40 : FnScope [("self" : Str), ("low" : Str), ("high" : Str)] [("self" : Str), ("low" : Str), ("high" : Str)] (defScope s_40) := ⟨rfl, rfl, rfl, by decide +kernel, rfl, by decide +kernel, by decide +kernel⟩
theorem sc_41 : FnScope [("reader" : Str), ("depth" : Str), ("tree" : Str), ("many" : Str), ("word" : Str)] [("reader" : Str), ("depth" : Str)] (defScope s_41) := ⟨rfl, rfl, rfl, by decide +kernel, rfl, by decide +kernel, by decide +kernel⟩
theorem sc_42 : FnScope [("reader" : Str), ("depth" : Str), ("tree" : Str), ("many" : Str), ("word" : Str)] [("reader" : Str), ("depth" : Str)] (defScope s_42) := ⟨rfl, rfl, rfl, by decide +kernel, rfl, by decide +kernel, by decide +kernel⟩
theorem sc_43 : FnScope [("reader" : Str), ("depth" : Str), ("kind" : Str)] [("reader" : Str), ("depth" : Str)] (defScope s_43) := ⟨rfl, rfl, rfl, by decide +kernel, rfl, by decide +kernel, by decide +kernel⟩
theorem sc_44 : FnScope [("reader" : Str), ("depth" : Str)] [("reader" : Str), ("depth" : Str)] (defScope s_44) := ⟨rfl, rfl, rfl, by decide +kernel, rfl, by decide +kernel, by decide +kernel⟩
theorem sc_45 : FnScope [("reader" : Str), ("depth" : Str), ("tree" : Str)] [("reader" : Str), ("depth" : Str)] (defScope s_45) := ⟨rfl, rfl, rfl, by decide +kernel, rfl, by decide +kernel, by decide +kernel⟩
theorem sc_46 : FnScope [("reader" : Str), ("word" : Str), ("parts" : Str)] [("reader" : Str)] (defScope s_46) := ⟨rfl, rfl, rfl, by decide +kernel, rfl, by decide +kernel, by decide +kernel⟩
theorem sc_47 : FnScope [("reader" : Str)] [("reader" : Str)] (defScope s_47) := ⟨rfl, rfl, rfl, by decide +kernel, rfl, by decide +kernel, by decide +kernel⟩
theorem sc_48 : FnScope [("reader" : Str), ("depth" : Str), ("number" : Str), ("coefs" : Str)] [("reader" : Str), ("depth" : Str)] (defScope s_48) := ⟨rfl, rfl, rfl, by decide +kernel, rfl, by decide +kernel, by decide +kernel⟩
theorem sc_49 : FnScope [("reader" : Str), ("kind" : Str)] [("reader" : Str), ("kind" : Str)] (defScope s_49) := ⟨rfl, rfl, rfl, by decide +kernel, rfl, by decide +kernel, by decide +kernel⟩
theorem sc_50 : FnScope [("reader" : Str), ("kinds" : Str), ("found" : Str), ("kind" : Str)] [("reader" : Str), ("kinds" : Str)] (defScope s_50) := ⟨rfl, rfl, rfl, by decide +kernel, rfl, by decide +kernel, by decide +kernel⟩
theorem sc_51 : FnScope [("reader" : Str), ("name" : Str), ("word" : Str)] [("reader" : Str)] (defScope s_51) := ⟨rfl, rfl, rfl, by decide +kernel, rfl, by decide +kernel, by decide +kernel⟩
theorem sc_52 : FnScope [("reader" : Str), ("one" : Str), ("sign" : Str)] [("reader" : Str)] (defScope s_52) := ⟨rfl, rfl, rfl, by decide +kernel, rfl, by decide +kernel, by decide +kernel⟩
theorem sc_53 : FnScope [("reader" : Str), ("word" : Str), ("parts" : Str)] [("reader" : Str)] (defScope s_53) := ⟨rfl, rfl, rfl, by decide +kernel, rfl, by decide +kernel, by decide +kernel⟩
theorem sc_54 : FnScope [("reader" : Str), ("tree" : Str)] [("reader" : Str)] (defScope s_54) := ⟨rfl, rfl, rfl, by decide +kernel, rfl, by decide +kernel, by decide +kernel⟩
theorem sc_55 : FnScope [("reader" : Str), ("row" : Str)] [("reader" : Str)] (defScope s_55) := ⟨rfl, rfl, rfl, by decide +kernel, rfl, by decide +kernel, by decide +kernel⟩
theorem sc_56 : FnScope [("reader" : Str), ("found" : Str)] [("reader" : Str)] (defScope s_56) := ⟨rfl, rfl, rfl, by decide +kernel, rfl, by decide +kernel, by decide +kernel⟩
theorem sc_57 : FnScope [("text" : Str), ("found" : Str), ("halt" : Str)] [("text" : Str)] (defScope s_57) := ⟨rfl, rfl, rfl, by decide +kernel, rfl, by decide +kernel, by decide +kernel⟩
theorem sc_58 : FnScope [("value" : Str), ("plan" : Str), ("index" : Str)] [("value" : Str)] (defScope s_58) := ⟨rfl, rfl, rfl, by decide +kernel, rfl, by decide +kernel, by decide +kernel⟩
theorem sc_59 : FnScope [("things" : Str), ("between" : Str), ("found" : Str), ("thing" : Str)] [("things" : Str), ("between" : Str)] (defScope s_59) := ⟨rfl, rfl, rfl, by decide +kernel, rfl, by decide +kernel, by decide +kernel⟩
theorem sc_60 : FnScope [("tree" : Str), ("word" : Str), ("below" : Str), ("head" : Str)] [("tree" : Str)] (defScope s_60) := ⟨rfl, rfl, rfl, by decide +kernel, rfl, by decide +kernel, by decide +kernel⟩
theorem sc_61 : FnScope [("tree" : Str), ("need" : Str), ("found" : Str)] [("tree" : Str), ("need" : Str)] (defScope s_61) := ⟨rfl, rfl, rfl, by decide +kernel, rfl, by decide +kernel, by decide +kernel⟩
theorem sc_62 : FnScope [("tree" : Str), ("found" : Str), ("left" : Str), ("thing" : Str)] [("tree" : Str)] (defScope s_62) := ⟨rfl, rfl, rfl, by decide +kernel, rfl, by decide +kernel, by decide +kernel⟩
theorem sc_63 : FnScope [("part" : Str)] [("part" : Str)] (defScope s_63) := ⟨rfl, rfl, rfl, by decide +kernel, rfl, by decide +kernel, by decide +kernel⟩
theorem sc_64 : FnScope [("word" : Str), ("parts" : Str), ("told" : Str), ("part" : Str)] [("word" : Str), ("parts" : Str)] (defScope s_64) := ⟨rfl, rfl, rfl, by decide +kernel, rfl, by decide +kernel, by decide +kernel⟩
theorem sc_65 : FnScope [("thing" : Str)] [("thing" : Str)] (defScope s_65) := ⟨rfl, rfl, rfl, by decide +kernel, rfl, by decide +kernel, by decide +kernel⟩
theorem sc_66 : FnScope [("row" : Str)] [("row" : Str)] (defScope s_66) := ⟨rfl, rfl, rfl, by decide +kernel, rfl, by decide +kernel, by decide +kernel⟩
theorem sc_67 : FnScope [("plan" : Str), ("row" : Str)] [("plan" : Str)] (defScope s_67) := ⟨rfl, rfl, rfl, by decide +kernel, rfl, by decide +kernel, by decide +kernel⟩
theorem sc_68 : FnScope [("value" : Str)] [("value" : Str)] (defScope s_68) := ⟨rfl, rfl, rfl, by decide +kernel, rfl, by decide +kernel, by decide +kernel⟩
theorem sc_69 : FnScope [("text" : Str)] [("text" : Str)] (defScope s_69) := ⟨rfl, rfl, rfl, by decide +kernel, rfl, by decide +kernel, by decide +kernel⟩
theorem sc_70 : FnScope [("text" : Str)] [("text" : Str)] (defScope s_70) := ⟨rfl, rfl, rfl, by decide +kernel, rfl, by decide +kernel, by decide +kernel⟩
theorem sc_71 : FnScope [("value" : Str)] [("value" : Str)] (defScope s_71) := ⟨rfl, rfl, rfl, by decide +kernel, rfl, by decide +kernel, by decide +kernel⟩
theorem sc_72 : FnScope [("text" : Str)] [("text" : Str)] (defScope s_72) := ⟨rfl, rfl, rfl, by decide +kernel, rfl, by decide +kernel, by decide +kernel⟩
theorem sc_73 : FnScope [("script" : Str), ("lap" : Str), ("own" : Str), ("deep" : Str), ("place" : Str), ("cell" : Str)] [("script" : Str), ("lap" : Str)] (defScope s_73) := ⟨rfl, rfl, rfl, by decide +kernel, rfl, by decide +kernel, by decide +kernel⟩
theorem sc_74 : FnScope [("forge" : Str), ("many" : Str), ("told" : Str)] [("forge" : Str), ("many" : Str)] (defScope s_74) := ⟨rfl, rfl, rfl, by decide +kernel, rfl, by decide +kernel, by decide +kernel⟩
theorem sc_75 : FnScope [("forge" : Str), ("things" : Str)] [("forge" : Str), ("things" : Str)] (defScope s_75) := ⟨rfl, rfl, rfl, by decide +kernel, rfl, by decide +kernel, by decide +kernel⟩
theorem sc_76 : FnScope [("told" : Str), ("due" : Str), ("one" : Str), ("two" : Str)] [("told" : Str), ("due" : Str)] (defScope s_76) := ⟨rfl, rfl, rfl, by decide +kernel, rfl, by decide +kernel, by decide +kernel⟩
theorem sc_77 : FnScope [("told" : Str), ("due" : Str)] [("told" : Str), ("due" : Str)] (defScope s_77) := ⟨rfl, rfl, rfl, by decide +kernel, rfl, by decide +kernel, by decide +kernel⟩
theorem sc_78 : FnScope [("text" : Str)] [("text" : Str)] (defScope s_78) := ⟨rfl, rfl, rfl, by decide +kernel, rfl, by decide +kernel, by decide +kernel⟩
theorem sc_79 : FnScope [("tree" : Str)] [("tree" : Str)] (defScope s_79) := ⟨rfl, rfl, rfl, by decide +kernel, rfl, by decide +kernel, by decide +kernel⟩
theorem sc_80 : FnScope [("forge" : Str), ("lap" : Str), ("rows" : Str), ("text" : Str), ("sign" : Str), ("many" : Str), ("fine" : Str), ("long" : Str), ("last" : Str), ("front" : Str), ("behind" : Str), ("twelve" : Str), ("more" : Str), ("place" : Str), ("word" : Str), ("some" : Str), ("name" : Str), ("due" : Str), ("number" : Str), ("said" : Str), ("at" : Str)] [("forge" : Str)] (defScope s_80) := ⟨rfl, rfl, rfl, by decide +kernel, rfl, by decide +kernel, by decide +kernel⟩
theorem sc_81 : FnScope [("start" : Str), ("nine" : Str), ("number" : Str), ("fine" : Str), ("at" : Str)] [] (defScope s_81) := ⟨rfl, rfl, rfl, by decide +kernel, rfl, by decide +kernel, by decide +kernel⟩
theorem sc_82 : FnScope [("reserved" : Str)] [] (defScope s_82) := ⟨rfl, rfl, rfl, by decide +kernel, rfl, by decide +kernel, by decide +kernel⟩
theorem sc_83 : FnScope [("one" : Str), ("trees" : Str), ("word" : Str), ("wide" : Str), ("lap" : Str), ("deep" : Str), ("fine" : Str), ("more" : Str), ("told" : Str)] [] (defScope s_83) := ⟨rfl, rfl, rfl, by decide +kernel, rfl, by decide +kernel, by decide +kernel⟩
theorem sc_84 : FnScope [("script" : Str), ("lap" : Str)] [("script" : Str)] (defScope s_84) := ⟨rfl, rfl, rfl, by decide +kernel, rfl, by decide +kernel, by decide +kernel⟩
section
variable {P : Program} {w : World} {K : PySem.W.Frag} {mg : Str → Option Value} {base : Heap} {k : Nat} {G : Nat → Fn}
theorem ok_0 (Z : Fx K w mg) (L : Lv P w K mg base k G) : FnOk P w K mg base (L2.CX P w) (k + 2) (fAd K ("is_whole", none)) (fdAt K ("is_whole", none)) [("value" : Str)] (SpD (su K) (c_0 G)) :=
  fn_D (S := su K) (N := [("value" : Str)]) (b := b_0 G) Z.f_0 sc_0 fun cdv A outer s H E hr => by
  exact (dss_one (ds_ret (de_and (de_isi 2 rfl Z.n_isinstance (de_var 0) Z.n_int) (de_one (de_not (de_isi 1 rfl Z.n_isinstance (de_var 0) Z.n_bool))))))
theorem ok_1 (Z : Fx K w mg) (L : Lv P w K mg base k G) : FnOk P w K mg base (L2.CX P w) (k + 2) (fAd K ("is_between", none)) (fdAt K ("is_between", none)) [("value" : Str), ("low" : Str), ("high" : Str)] (SpD (su K) (c_1 G)) :=
  fn_D (S := su K) (N := [("value" : Str), ("low" : Str), ("high" : Str)]) (b := b_1 G) Z.f_1 sc_1 fun cdv A outer s H E hr => by
  exact (dss_one (ds_ret (de_and (de_call L.o_0 (hr.mono (Nat.le_succ _)) Z.g_0 Z.f_0.kp Z.b_0 (takes_of rfl rfl rfl rfl) (da_cons (de_var 0) da_nil)) (de_one (de_chain op_le op_le os_cmp os_cmp (de_var 1) (de_var 0) (de_var 2))))))
theorem ok_2 (Z : Fx K w mg) (L : Lv P w K mg base k G) : FnOk P w K mg base (L2.CX P w) (k + 2) (fAd K ("is_tuple_of", none)) (fdAt K ("is_tuple_of", none)) [("value" : Str), ("many" : Str)] (SpD (su K) (c_2 G)) :=
  fn_D (S := su K) (N := [("value" : Str), ("many" : Str)]) (b := b_2 G) Z.f_2 sc_2 fun cdv A outer s H E hr => by
  exact (dss_one (ds_ret (de_and (de_isi 4 rfl Z.n_isinstance (de_var 0) Z.n_tuple) (de_one (de_cmp (op_eqG hr.units) os_eq (de_callB call_len cs_len Z.n_len (da_cons (de_var 0) da_nil)) (de_var 1) (nomark _))))))
theorem ok_3 (Z : Fx K w mg) (L : Lv P w K mg base k G) : FnOk P w K mg base (L2.CX P w) (k + 2) (fAd K ("are_figures", none)) (fdAt K ("are_figures", none)) [("run" : Str)] (SpD (su K) (c_3 G)) :=
  fn_D (S := su K) (N := [("run" : Str), ("sign" : Str)]) (b := b_3 G) Z.f_3 sc_3 fun cdv A outer s H E hr => by
  exact (dss_one (ds_ret (de_and (de_cmp (op_neG hr.units) os_ne (de_var 0) (de_str []) (nomark _)) (de_one (de_callB (cr_all rfl) cs_all Z.n_all (da_cons (de_lc (t := (.nm 1)) rfl rfl sc_3.nd (di_seq rfl (de_var 0)) (blkOk_by (own := [(("sign" : Str), 1)]) (by show blkC [("run" : Str), ("sign" : Str)] (defScope s_3) _ _ = true; decide +kernel)) (fun _ _ _ _ _ => (pg_name (i := 1) sc_3.nd rfl (Or.inl rfl))) (fun _ _ _ _ _ => dt_yes) (fun _ _ _ _ _ => (de_cmp op_inG (os_in false) (de_var 1) (de_cst Z.c_FIGURES) rfl))) da_nil))))))
theorem ok_4 (Z : Fx K w mg) (L : Lv P w K mg base k G) : FnOk P w K mg base (L2.CX P w) (k + 2) (fAd K ("is_numeral", none)) (fdAt K ("is_numeral", none)) [("run" : Str)] (SpD (su K) (c_4 G)) :=
  fn_D (S := su K) (N := [("run" : Str)]) (b := b_4 G) Z.f_4 sc_4 fun cdv A outer s H E hr => by
  exact (dss_one (ds_ret (de_and (de_callQ L.o_3 (hr.mono (Nat.le_succ _)) Z.g_3 Z.f_3.kp Z.b_3 (takes_of rfl rfl rfl rfl) (da_cons (de_var 0) da_nil)) (de_and (de_cmp op_le os_cmp (de_callB call_len cs_len Z.n_len (da_cons (de_var 0) da_nil)) (de_cst Z.c_MOST_FIGURES) (nomark _)) (de_one (de_or (de_cmp (op_eqG hr.units) os_eq (de_var 0) (de_str [48]) (nomark _)) (de_one (de_cmp (op_neG hr.units) os_ne (de_ix rfl (de_var 0) de_int) (de_str [48]) (nomark _)))))))))
theorem ok_5 (Z : Fx K w mg) (L : Lv P w K mg base k G) : FnOk P w K mg base (L2.CX P w) (k + 2) (fAd K ("kind_of_run", none)) (fdAt K ("kind_of_run", none)) [("run" : Str)] (SpD (su K) (c_5 G)) :=
  fn_D (S := su K) (N := [("run" : Str)]) (b := b_5 G) Z.f_5 sc_5 fun cdv A outer s H E hr => by
  exact (dss_cons (ds_if (dt_cmp op_inG (os_in false) (de_ix rfl (de_var 0) de_int) (de_cst Z.c_FIGURES) rfl)
    (dss_one (ds_ret (de_if (dt_val rfl (de_callQ L.o_4 (hr.mono (Nat.le_succ _)) Z.g_4 Z.f_4.kp Z.b_4 (takes_of rfl rfl rfl rfl) (da_cons (de_var 0) da_nil))) (de_str [110, 117, 109, 101, 114, 97, 108]) (de_str [119, 114, 111, 110, 103]))))
    dss_nil)
    (dss_cons (ds_if (dt_cmp op_gt os_cmp (de_callB call_len cs_len Z.n_len (da_cons (de_var 0) da_nil)) (de_cst Z.c_MOST_SIGNS) (nomark _))
    (dss_one (ds_ret (de_str [119, 114, 111, 110, 103])))
    dss_nil)
    (dss_one (ds_ret (de_if (dt_cmp op_inG (os_in false) (de_var 0) (de_cst Z.c_WORDS) rfl) (de_str [119, 111, 114, 100]) (de_str [110, 97, 109, 101]))))))
theorem ok_6 (Z : Fx K w mg) (L : Lv P w K mg base k G) : FnOk P w K mg base (L2.CX P w) (k + 2) (fAd K ("is_run", none)) (fdAt K ("is_run", none)) [("text" : Str)] (SpD (su K) (c_6 G)) :=
  fn_D (S := su K) (N := [("text" : Str), ("sign" : Str)]) (b := b_6 G) Z.f_6 sc_6 fun cdv A outer s H E hr => by
  exact (dss_one (ds_ret (de_and (de_cmp (op_neG hr.units) os_ne (de_var 0) (de_str []) (nomark _)) (de_one (de_callB (cr_all rfl) cs_all Z.n_all (da_cons (de_lc (t := (.nm 1)) rfl rfl sc_6.nd (di_seq rfl (de_var 0)) (blkOk_by (own := [(("sign" : Str), 1)]) (by show blkC [("text" : Str), ("sign" : Str)] (defScope s_6) _ _ = true; decide +kernel)) (fun _ _ _ _ _ => (pg_name (i := 1) sc_6.nd rfl (Or.inl rfl))) (fun _ _ _ _ _ => dt_yes) (fun _ _ _ _ _ => (de_cmp op_inG (os_in false) (de_var 1) (de_cst Z.c_RUN_SIGNS) rfl))) da_nil))))))
theorem ok_7 (Z : Fx K w mg) (L : Lv P w K mg base k G) : FnOk P w K mg base (L2.CX P w) (k + 2) (fAd K ("is_name", none)) (fdAt K ("is_name", none)) [("value" : Str)] (SpD (su K) (c_7 G)) :=
  fn_D (S := su K) (N := [("value" : Str)]) (b := b_7 G) Z.f_7 sc_7 fun cdv A outer s H E hr => by
  exact (dss_one (ds_ret (de_and (de_isi 3 rfl Z.n_isinstance (de_var 0) Z.n_str) (de_and (de_callQ L.o_6 (hr.mono (Nat.le_succ _)) Z.g_6 Z.f_6.kp Z.b_6 (takes_of rfl rfl rfl rfl) (da_cons (de_var 0) da_nil)) (de_one (de_cmp (op_eqG hr.units) os_eq (de_callQ L.o_5 (hr.mono (Nat.le_succ _)) Z.g_5 Z.f_5.kp Z.b_5 (takes_of rfl rfl rfl rfl) (da_cons (de_var 0) da_nil)) (de_str [110, 97, 109, 101]) (nomark _)))))))
theorem ok_8 (Z : Fx K w mg) (L : Lv P w K mg base k G) : FnOk P w K mg base (L2.CX P w) (k + 2) (fAd K ("kind_of_sign", none)) (fdAt K ("kind_of_sign", none)) [("sign" : Str)] (SpD (su K) (c_8 G)) :=
  fn_D (S := su K) (N := [("sign" : Str)]) (b := b_8 G) Z.f_8 sc_8 fun cdv A outer s H E hr => by
  exact (dss_cons (ds_if (dt_cmp (op_eqG hr.units) os_eq (de_var 0) (de_cst Z.c_LINE_END) (nomark _))
    (dss_one (ds_ret (de_str [101, 110, 100])))
    dss_nil)
    (dss_one (ds_ret (de_if (dt_cmp op_inG (os_in false) (de_var 0) (de_cst Z.c_SIGNS) rfl) (de_str [115, 105, 103, 110]) (de_str [119, 114, 111, 110, 103])))))
theorem ok_9 (Z : Fx K w mg) (L : Lv P w K mg base k G) : FnOk P w K mg base (L2.CX P w) (k + 2) (fAd K ("run_end", none)) (fdAt K ("run_end", none)) [("text" : Str), ("start" : Str)] (SpD (su K) (c_9 G)) :=
  fn_D (S := su K) (N := [("text" : Str), ("start" : Str), ("at" : Str)]) (b := b_9 G) Z.f_9 sc_9 fun cdv A outer s H E hr => by
  exact (dss_cons (ds_set 2 sc_9.nd (de_var 1))
    (dss_cons (ds_while (passes_of rfl) (dw_and (dt_cmp op_lt os_cmp (de_var 2) (de_callB call_len cs_len Z.n_len (da_cons (de_var 0) da_nil)) (nomark _)) (dw_and1 (dt_cmp op_inG (os_in false) (de_ix rfl (de_var 0) (de_var 2)) (de_cst Z.c_RUN_SIGNS) rfl))).pt
    (dss_one (ds_set 2 sc_9.nd (de_bin op_addG os_add (de_var 2) de_int))))
    (dss_one (ds_ret (de_var 2)))))
theorem ok_10 (Z : Fx K w mg) (L : Lv P w K mg base k G) : FnOk P w K mg base (L2.CX P w) (k + 2) (fAd K ("piece_at", none)) (fdAt K ("piece_at", none)) [("text" : Str), ("start" : Str)] (SpD (su K) (c_10 G)) :=
  fn_D (S := su K) (N := [("text" : Str), ("start" : Str), ("run" : Str)]) (b := b_10 G) Z.f_10 sc_10 fun cdv A outer s H E hr => by
  exact (dss_cons (ds_if (dt_cmp op_notInG (os_in true) (de_ix rfl (de_var 0) (de_var 1)) (de_cst Z.c_RUN_SIGNS) rfl)
    (dss_one (ds_ret (de_tup (da_cons (de_var 1) (da_cons (de_call L.o_8 (hr.mono (Nat.le_succ _)) Z.g_8 Z.f_8.kp Z.b_8 (takes_of rfl rfl rfl rfl) (da_cons (de_ix rfl (de_var 0) (de_var 1)) da_nil)) (da_cons (de_ix rfl (de_var 0) (de_var 1)) da_nil))))))
    dss_nil)
    (dss_cons (ds_set 2 sc_10.nd (de_cut rfl (de_var 0) (do_some (de_var 1)) (do_some (de_callQ L.o_9 (hr.mono (Nat.le_succ _)) Z.g_9 Z.f_9.kp Z.b_9 (takes_of rfl rfl rfl rfl) (da_cons (de_var 0) (da_cons (de_var 1) da_nil))))))
    (dss_one (ds_ret (de_tup (da_cons (de_var 1) (da_cons (de_callQ L.o_5 (hr.mono (Nat.le_succ _)) Z.g_5 Z.f_5.kp Z.b_5 (takes_of rfl rfl rfl rfl) (da_cons (de_var 2) da_nil)) (da_cons (de_var 2) da_nil))))))))
theorem ok_11 (Z : Fx K w mg) (L : Lv P w K mg base k G) : FnOk P w K mg base (L2.CX P w) (k + 2) (fAd K ("pieces_by", none)) (fdAt K ("pieces_by", none)) [("text" : Str)] (SpD (su K) (c_11 G)) :=
  fn_D (S := su K) (N := [("text" : Str), ("found" : Str), ("at" : Str), ("piece" : Str)]) (b := b_11 G) Z.f_11 sc_11 fun cdv A outer s H E hr => by
  exact (dss_cons (ds_par 1 2 rfl sc_11.nd (da_cons (de_lst da_nil) (da_cons de_int da_nil)))
    (dss_cons (ds_while (passes_of rfl) (dt_cmp op_lt os_cmp (de_var 2) (de_callB call_len cs_len Z.n_len (da_cons (de_var 0) da_nil)) (nomark _))
    (dss_one (ds_if (dt_cmp (op_eqG hr.units) os_eq (de_ix rfl (de_var 0) (de_var 2)) (de_cst Z.c_BLANK) (nomark _))
    (dss_one (ds_set 2 sc_11.nd (de_bin op_addG os_add (de_var 2) de_int)))
    (dss_cons (ds_set 3 sc_11.nd (de_callQ L.o_10 (hr.mono (Nat.le_succ _)) Z.g_10 Z.f_10.kp Z.b_10 (takes_of rfl rfl rfl rfl) (da_cons (de_var 0) (da_cons (de_var 2) da_nil))))
    (dss_cons (ds_exp (de_bm rfl PySem.F.slot_list_append PySem.F.type_list_append mt_append bs_app (de_var 1) (da_cons (de_var 3) da_nil)))
    (dss_one (ds_set 2 sc_11.nd (de_bin op_addG os_add (de_var 2) (de_callB call_len cs_len Z.n_len (da_cons (de_ix rfl (de_var 3) de_int) da_nil))))))))))
    (dss_one (ds_ret (de_var 1)))))
theorem ok_12 (Z : Fx K w mg) (L : Lv P w K mg base k G) : FnOk P w K mg base (L2.CX P w) (k + 2) (fAd K ("parts_of", none)) (fdAt K ("parts_of", none)) [("tree" : Str)] (SpD (su K) (c_12 G)) :=
  fn_D (S := su K) (N := [("tree" : Str), ("word" : Str)]) (b := b_12 G) Z.f_12 sc_12 fun cdv A outer s H E hr => by
  exact (dss_cons (ds_set 1 sc_12.nd (de_ix rfl (de_var 0) de_int))
    (dss_cons (ds_if (dt_cmp (op_eqG hr.units) os_eq (de_var 1) (de_str [114, 111, 111, 116]) (nomark _))
    (dss_one (ds_ret (de_callTy call_list_of cs_list Z.n_list (da_cons (de_ix rfl (de_var 0) de_int) da_nil))))
    dss_nil)
    (dss_cons (ds_if (dw_or (dt_inD rfl Z.d_TERM_SIGNS Z.gd_TERM_SIGNS (de_var 1)) (dw_or1 (dt_inD rfl Z.d_FACTOR_SIGNS Z.gd_FACTOR_SIGNS (de_var 1)))).pt
    (dss_one (ds_ret (de_lst (da_cons (de_ix rfl (de_var 0) de_int) (da_cons (de_ix rfl (de_var 0) de_int) da_nil)))))
    dss_nil)
    (dss_one (ds_ret (de_if (dt_cmp op_inG (os_in false) (de_var 1) (de_tup (da_cons (de_str [109, 105, 110, 117, 115]) (da_cons (de_str [115, 113, 114, 116]) da_nil))) rfl) (de_lst (da_cons (de_ix rfl (de_var 0) de_int) da_nil)) (de_lst da_nil)))))))
theorem ok_13 (Z : Fx K w mg) (L : Lv P w K mg base k G) : FnOk P w K mg base (L2.CX P w) (k + 2) (fAd K ("strength_of", none)) (fdAt K ("strength_of", none)) [("word" : Str)] (SpD (su K) (c_13 G)) :=
  fn_D (S := su K) (N := [("word" : Str)]) (b := b_13 G) Z.f_13 sc_13 fun cdv A outer s H E hr => by
  exact (dss_cons (ds_if (dt_inD rfl Z.d_TERM_SIGNS Z.gd_TERM_SIGNS (de_var 0))
    (dss_one (ds_ret de_int))
    dss_nil)
    (dss_one (ds_ret (de_if (dt_inD rfl Z.d_FACTOR_SIGNS Z.gd_FACTOR_SIGNS (de_var 0)) de_int de_int))))
theorem ok_14 (Z : Fx K w mg) (L : Lv P w K mg base k G) : FnOk P w K mg base (L2.CX P w) (k + 2) (fAd K ("count_in_row", none)) (fdAt K ("count_in_row", none)) [("tree" : Str), ("strength" : Str)] (SpD (su K) (c_14 G)) :=
  fn_D (S := su K) (N := [("tree" : Str), ("strength" : Str), ("many" : Str)]) (b := b_14 G) Z.f_14 sc_14 fun cdv A outer s H E hr => by
  exact (dss_cons (ds_set 2 sc_14.nd de_int)
    (dss_cons (ds_while (passes_of rfl) (dt_cmp (op_eqG hr.units) os_eq (de_call L.o_13 (hr.mono (Nat.le_succ _)) Z.g_13 Z.f_13.kp Z.b_13 (takes_of rfl rfl rfl rfl) (da_cons (de_ix rfl (de_var 0) de_int) da_nil)) (de_var 1) (nomark _))
    (dss_one (ds_par 0 2 rfl sc_14.nd (da_cons (de_ix rfl (de_var 0) de_int) (da_cons (de_bin op_addG os_add (de_var 2) de_int) da_nil)))))
    (dss_one (ds_ret (de_var 2)))))
theorem ok_15 (Z : Fx K w mg) (L : Lv P w K mg base k G) : FnOk P w K mg base (L2.CX P w) (k + 2) (fAd K ("needs_of", none)) (fdAt K ("needs_of", none)) [("tree" : Str)] (SpD (su K) (c_15 G)) :=
  fn_D (S := su K) (N := [("tree" : Str), ("parts" : Str), ("strength" : Str), ("need" : Str), ("part" : Str)]) (b := b_15 G) Z.f_15 sc_15 fun cdv A outer s H E hr => by
  exact (dss_cons (ds_par 1 2 rfl sc_15.nd (da_cons (de_callP L.o_12 (hr.mono (Nat.le_succ _)) Z.g_12 Z.f_12.kp Z.b_12 (takes_of rfl rfl rfl rfl) (da_cons (de_var 0) da_nil)) (da_cons (de_call L.o_13 (hr.mono (Nat.le_succ _)) Z.g_13 Z.f_13.kp Z.b_13 (takes_of rfl rfl rfl rfl) (da_cons (de_ix rfl (de_var 0) de_int) da_nil)) da_nil)))
    (dss_cons (ds_if (dt_cmp op_lt os_cmp (de_var 2) de_int (nomark _))
    (dss_one (ds_ret (de_lst (da_cons (de_tup (da_cons (de_ix rfl (de_var 1) de_int) (da_cons (de_var 2) da_nil))) (da_cons (de_tup (da_cons (de_ix rfl (de_var 1) de_int) (da_cons (de_bin op_addG os_add (de_var 2) de_int) da_nil))) da_nil)))))
    dss_nil)
    (dss_cons (ds_set 3 sc_15.nd (de_if (dt_cmp (op_eqG hr.units) os_eq (de_ix rfl (de_var 0) de_int) (de_str [109, 105, 110, 117, 115]) (nomark _)) de_int de_int))
    (dss_one (ds_ret (de_lc (t := (.nm 4)) rfl rfl sc_15.nd (di_seq rfl (de_var 1)) (blkOk_by (own := [(("part" : Str), 4)]) (by show blkC [("tree" : Str), ("parts" : Str), ("strength" : Str), ("need" : Str), ("part" : Str)] (defScope s_15) _ _ = true; decide +kernel)) (fun _ _ _ _ _ => (pg_name (i := 4) sc_15.nd rfl (Or.inl rfl))) (fun _ _ _ _ _ => dt_yes) (fun _ _ _ _ _ => (de_tup (da_cons (de_var 4) (da_cons (de_var 3) da_nil))))))))))
theorem ok_16 (Z : Fx K w mg) (L : Lv P w K mg base k G) : FnOk P w K mg base (L2.CX P w) (k + 2) (fAd K ("is_root_number", none)) (fdAt K ("is_root_number", none)) [("value" : Str)] (SpD (su K) (c_16 G)) :=
  fn_D (S := su K) (N := [("value" : Str)]) (b := b_16 G) Z.f_16 sc_16 fun cdv A outer s H E hr => by
  exact (dss_one (ds_ret (de_and (de_call L.o_1 (hr.mono (Nat.le_succ _)) Z.g_1 Z.f_1.kp Z.b_1 (takes_of rfl rfl rfl rfl) (da_cons (de_var 0) (da_cons (de_un un_neg us_neg (de_cst Z.c_MOST_ROOT)) (da_cons (de_cst Z.c_MOST_ROOT) da_nil)))) (de_one (de_cmp (op_neG hr.units) os_ne (de_var 0) de_int (nomark _))))))
theorem ok_17 (Z : Fx K w mg) (L : Lv P w K mg base k G) : FnOk P w K mg base (L2.CX P w) (k + 2) (fAd K ("are_coefs", none)) (fdAt K ("are_coefs", none)) [("value" : Str)] (SpD (su K) (c_17 G)) :=
  fn_D (S := su K) (N := [("value" : Str)]) (b := b_17 G) Z.f_17 sc_17 fun cdv A outer s H E hr => by
  exact (dss_one (ds_ret (de_and (de_isi 4 rfl Z.n_isinstance (de_var 0) Z.n_tuple) (de_one (de_chain op_le op_le os_cmp os_cmp (de_cst Z.c_LEAST_COEFS) (de_callB call_len cs_len Z.n_len (da_cons (de_var 0) da_nil)) (de_cst Z.c_MOST_COEFS))))))
theorem ok_18 (Z : Fx K w mg) (L : Lv P w K mg base k G) : FnOk P w K mg base (L2.CX P w) (k + 2) (fAd K ("is_node", none)) (fdAt K ("is_node", none)) [("value" : Str)] (SpD (su K) (c_18 G)) :=
  fn_D (S := su K) (N := [("value" : Str), ("word" : Str), ("part" : Str)]) (b := b_18 G) Z.f_18 sc_18 fun cdv A outer s H E hr => by
  exact (dss_cons (ds_if (dw_or (dt_not (dt_val rfl (de_isi 4 rfl Z.n_isinstance (de_var 0) Z.n_tuple))) (dw_or (dt_cmp (op_eqG hr.units) os_eq (de_var 0) (de_tup da_nil) (nomark _)) (dw_or1 (dt_not (dt_val rfl (de_isi 3 rfl Z.n_isinstance (de_ix rfl (de_var 0) de_int) Z.n_str)))))).pt
    (dss_one (ds_ret de_bl))
    dss_nil)
    (dss_cons (ds_set 1 sc_18.nd (de_ix rfl (de_var 0) de_int))
    (dss_cons (ds_if (dw_or (dt_ninD rfl Z.d_TREE_SIZES Z.gd_TREE_SIZES (de_var 1)) (dw_or1 (dt_cmp (op_neG hr.units) os_ne (de_callB call_len cs_len Z.n_len (da_cons (de_var 0) da_nil)) (de_getD rfl Z.d_TREE_SIZES Z.gd_TREE_SIZES (de_var 1)) (nomark _)))).pt
    (dss_one (ds_ret de_bl))
    dss_nil)
    (dss_cons (ds_if (dt_cmp (op_eqG hr.units) os_eq (de_var 1) (de_str [110, 117, 109, 101, 114, 97, 108]) (nomark _))
    (dss_one (ds_ret (de_call L.o_1 (hr.mono (Nat.le_succ _)) Z.g_1 Z.f_1.kp Z.b_1 (takes_of rfl rfl rfl rfl) (da_cons (de_ix rfl (de_var 0) de_int) (da_cons de_int (da_cons (de_cst Z.c_MOST_NUMERAL) da_nil))))))
    dss_nil)
    (dss_cons (ds_if (dt_cmp (op_eqG hr.units) os_eq (de_var 1) (de_str [114, 111, 111, 116]) (nomark _))
    (dss_one (ds_ret (de_and (de_call L.o_16 (hr.mono (Nat.le_succ _)) Z.g_16 Z.f_16.kp Z.b_16 (takes_of rfl rfl rfl rfl) (da_cons (de_ix rfl (de_var 0) de_int) da_nil)) (de_one (de_call L.o_17 (hr.mono (Nat.le_succ _)) Z.g_17 Z.f_17.kp Z.b_17 (takes_of rfl rfl rfl rfl) (da_cons (de_ix rfl (de_var 0) de_int) da_nil))))))
    dss_nil)
    (dss_cons (ds_if (dw_or (dt_cmp (op_eqG hr.units) os_eq (de_var 1) (de_str [110, 97, 109, 101]) (nomark _)) (dw_or1 (dt_inD rfl Z.d_POINT_WORDS Z.gd_POINT_WORDS (de_var 1)))).pt
    (dss_one (ds_ret (de_callB (cr_all rfl) cs_all Z.n_all (da_cons (de_lc (t := (.nm 2)) rfl rfl sc_18.nd (di_seq rfl (de_cut rfl (de_var 0) (do_some de_int) do_none)) (blkOk_by (own := [(("part" : Str), 2)]) (by show blkC [("value" : Str), ("word" : Str), ("part" : Str)] (defScope s_18) _ _ = true; decide +kernel)) (fun _ _ _ _ _ => (pg_name (i := 2) sc_18.nd rfl (Or.inl rfl))) (fun _ _ _ _ _ => dt_yes) (fun _ _ _ _ _ => (de_callQ L.o_7 (hr.mono (Nat.le_succ _)) Z.g_7 Z.f_7.kp Z.b_7 takes0 (da_cons (de_var 2) da_nil)))) da_nil))))
    dss_nil)
    (dss_one (ds_ret de_bl))))))))
theorem ok_19 (Z : Fx K w mg) (L : Lv P w K mg base k G) : FnOk P w K mg base (L2.CX P w) (k + 2) (fAd K ("Place", (some "__init__"))) (fdAt K ("Place", (some "__init__"))) [("self" : Str), ("value" : Str), ("depth" : Str), ("need" : Str), ("right" : Str)] (SpD (su K) (c_19 G)) :=
  fn_D (S := su K) (N := [("self" : Str), ("value" : Str), ("depth" : Str), ("need" : Str), ("right" : Str)]) (b := b_19 G) Z.f_19 sc_19 fun cdv A outer s H E hr => by
  exact (dss_cons (ds_fld rfl Z.t_value (de_var 0) (de_var 1))
    (dss_cons (ds_fld rfl Z.t_depth (de_var 0) (de_var 2))
    (dss_cons (ds_fld rfl Z.t_need (de_var 0) (de_var 3))
    (dss_one (ds_fld rfl Z.t_right (de_var 0) (de_var 4))))))
theorem ok_20 (Z : Fx K w mg) (L : Lv P w K mg base k G) : FnOk P w K mg base (L2.CX P w) (k + 2) (fAd K ("most_in_row", none)) (fdAt K ("most_in_row", none)) [("need" : Str)] (SpD (su K) (c_20 G)) :=
  fn_D (S := su K) (N := [("need" : Str)]) (b := b_20 G) Z.f_20 sc_20 fun cdv A outer s H E hr => by
  exact (dss_one (ds_ret (de_if (dt_cmp (op_eqG hr.units) os_eq (de_var 0) de_int (nomark _)) (de_cst Z.c_MOST_TERMS) (de_cst Z.c_MOST_FACTORS))))
theorem ok_21 (Z : Fx K w mg) (L : Lv P w K mg base k G) : FnOk P w K mg base (L2.CX P w) (k + 2) (fAd K ("is_too_long", none)) (fdAt K ("is_too_long", none)) [("place" : Str)] (SpD (su K) (c_21 G)) :=
  fn_D (S := su K) (N := [("place" : Str)]) (b := b_21 G) Z.f_21 sc_21 fun cdv A outer s H E hr => by
  exact (dss_one (ds_ret (de_and (de_cmp op_lt os_cmp (de_fld rfl Z.t_need (de_var 0)) de_int (nomark _)) (de_one (de_cmp op_ge os_cmp (de_fld rfl Z.t_right (de_var 0)) (de_call L.o_20 (hr.mono (Nat.le_succ _)) Z.g_20 Z.f_20.kp Z.b_20 (takes_of rfl rfl rfl rfl) (da_cons (de_fld rfl Z.t_need (de_var 0)) da_nil)) (nomark _))))))
theorem ok_22 (Z : Fx K w mg) (L : Lv P w K mg base k G) : FnOk P w K mg base (L2.CX P w) (k + 2) (fAd K ("opens_one", none)) (fdAt K ("opens_one", none)) [("word" : Str)] (SpD (su K) (c_22 G)) :=
  fn_D (S := su K) (N := [("word" : Str)]) (b := b_22 G) Z.f_22 sc_22 fun cdv A outer s H E hr => by
  exact (dss_one (ds_ret (de_or (de_cmp op_inG (os_in false) (de_var 0) (de_tup (da_cons (de_str [109, 105, 110, 117, 115]) (da_cons (de_str [115, 113, 114, 116]) (da_cons (de_str [114, 111, 111, 116]) da_nil)))) rfl) (de_one (de_inD rfl Z.d_POINT_WORDS Z.gd_POINT_WORDS (de_var 0))))))
theorem ok_23 (Z : Fx K w mg) (L : Lv P w K mg base k G) : FnOk P w K mg base (L2.CX P w) (k + 2) (fAd K ("places_below", none)) (fdAt K ("places_below", none)) [("place" : Str)] (SpD (su K) (c_23 G)) :=
  fn_D (S := su K) (N := [("place" : Str), ("word" : Str), ("tree" : Str), ("strength" : Str), ("depth" : Str), ("found" : Str), ("part" : Str), ("need" : Str)]) (b := b_23 G) Z.f_23 sc_23 fun cdv A outer s H E hr => by
  exact (dss_cons (ds_par 1 2 rfl sc_23.nd (da_cons (de_ix rfl (de_fld rfl Z.t_value (de_var 0)) de_int) (da_cons (de_fld rfl Z.t_value (de_var 0)) da_nil)))
    (dss_cons (ds_asg (de_tup (da_cons (de_call L.o_13 (hr.mono (Nat.le_succ _)) Z.g_13 Z.f_13.kp Z.b_13 (takes_of rfl rfl rfl rfl) (da_cons (de_var 1) da_nil)) (da_cons (de_fld rfl Z.t_depth (de_var 0)) da_nil))) (dg_tup rfl rfl (dgs_cons (dg_name 3 sc_23.nd) (dgs_cons (dg_name 4 sc_23.nd) dgs_nil)) (gl1 (gl1 gl0))))
    (dss_cons (ds_if (dw_or (dt_cmp op_lt os_cmp (de_var 3) (de_fld rfl Z.t_need (de_var 0)) (nomark _)) (dw_or1 (dt_val rfl (de_call L.o_22 (hr.mono (Nat.le_succ _)) Z.g_22 Z.f_22.kp Z.b_22 (takes_of rfl rfl rfl rfl) (da_cons (de_var 1) da_nil))))).pt
    (dss_one (ds_set 4 sc_23.nd (de_bin op_addG os_add (de_var 4) de_int)))
    dss_nil)
    (dss_cons (ds_if (dt_cmp op_gt os_cmp (de_var 4) (de_cst Z.c_MOST_DEPTH) (nomark _))
    (dss_one (ds_ret de_non))
    dss_nil)
    (dss_cons (ds_setLc 5 (t := (.tp [6, 7])) rfl rfl sc_23.nd (di_seq rfl (de_callP L.o_15 (hr.mono (Nat.le_succ _)) Z.g_15 Z.f_15.kp Z.b_15 (takes_of rfl rfl rfl rfl) (da_cons (de_var 2) da_nil))) (blkOk_by (own := [(("part" : Str), 6), (("need" : Str), 7)]) (by show blkC [("place" : Str), ("word" : Str), ("tree" : Str), ("strength" : Str), ("depth" : Str), ("found" : Str), ("part" : Str), ("need" : Str)] (defScope s_23) _ _ = true; decide +kernel)) (fun _ _ _ _ _ => (pg_tup rfl (pgs_cons (pg_name (i := 6) sc_23.nd rfl (Or.inl rfl)) (pgs_cons (pg_name (i := 7) sc_23.nd rfl (Or.inl rfl)) pgs_nil)))) (fun _ _ _ _ _ => dt_yes) (fun _ _ _ _ _ => (de_make (c := 0) rfl Z.mk_Place L.o_19 hr Z.gc_Place Z.b_19 takes0 (da_cons (de_var 6) (da_cons (de_var 4) (da_cons (de_var 7) (da_cons de_int da_nil)))))) (sw_true rfl rfl rfl rfl))
    (dss_cons (ds_if (dt_cmp op_lt os_cmp (de_var 3) de_int (nomark _))
    (dss_one (ds_fld rfl Z.t_right (de_ix rfl (de_var 5) de_int) (de_if (dt_cmp (op_eqG hr.units) os_eq (de_var 3) (de_fld rfl Z.t_need (de_var 0)) (nomark _)) (de_bin op_addG os_add (de_fld rfl Z.t_right (de_var 0)) de_int) de_int)))
    dss_nil)
    (dss_one (ds_ret (de_var 5)))))))))
theorem ok_24 (Z : Fx K w mg) (L : Lv P w K mg base k G) : FnOk P w K mg base (L2.CX P w) (k + 2) (fAd K ("is_tree", none)) (fdAt K ("is_tree", none)) [("value" : Str), ("depth" : Str)] (SpD (su K) (c_24 G)) :=
  fn_D (S := su K) (N := [("value" : Str), ("depth" : Str), ("left" : Str), ("place" : Str), ("below" : Str)]) (b := b_24 G) Z.f_24 sc_24 fun cdv A outer s H E hr => by
  exact (dss_cons (ds_set 2 sc_24.nd (de_lst (da_cons (de_make (c := 0) rfl Z.mk_Place L.o_19 hr Z.gc_Place Z.b_19 (takes_of rfl rfl rfl rfl) (da_cons (de_var 0) (da_cons (de_var 1) (da_cons de_int (da_cons de_int da_nil))))) da_nil)))
    (dss_cons (ds_while (passes_of rfl) (dt_cmp (op_neG hr.units) os_ne (de_var 2) (de_lst da_nil) (nomark _))
    (dss_cons (ds_set 3 sc_24.nd (de_bm0 rfl PySem.F.slot_list_pop PySem.F.type_list_pop mt_pop bs_pop (de_var 2)))
    (dss_cons (ds_if (dw_or (dt_val rfl (de_call L.o_21 (hr.mono (Nat.le_succ _)) Z.g_21 Z.f_21.kp Z.b_21 (takes_of rfl rfl rfl rfl) (da_cons (de_var 3) da_nil))) (dw_or1 (dt_not (dt_val rfl (de_callQ L.o_18 (hr.mono (Nat.le_succ _)) Z.g_18 Z.f_18.kp Z.b_18 (takes_of rfl rfl rfl rfl) (da_cons (de_fld rfl Z.t_value (de_var 3)) da_nil)))))).pt
    (dss_one (ds_ret de_bl))
    dss_nil)
    (dss_cons (ds_set 4 sc_24.nd (de_call L.o_23 (hr.mono (Nat.le_succ _)) Z.g_23 Z.f_23.kp Z.b_23 (takes_of rfl rfl rfl rfl) (da_cons (de_var 3) da_nil)))
    (dss_cons (ds_if (dt_isN (de_var 4))
    (dss_one (ds_ret de_bl))
    dss_nil)
    (dss_one (ds_exp (de_bm rfl PySem.F.slot_list_extend PySem.F.type_list_extend mt_extend bs_ext (de_var 2) (da_cons (de_var 4) da_nil)))))))))
    (dss_one (ds_ret de_bl))))
theorem ok_25 (Z : Fx K w mg) (L : Lv P w K mg base k G) : FnOk P w K mg base (L2.CX P w) (k + 2) (fAd K ("is_part", none)) (fdAt K ("is_part", none)) [("value" : Str), ("kind" : Str)] (SpD (su K) (c_25 G)) :=
  fn_D (S := su K) (N := [("value" : Str), ("kind" : Str)]) (b := b_25 G) Z.f_25 sc_25 fun cdv A outer s H E hr => by
  exact (dss_cons (ds_if (dt_cmp (op_eqG hr.units) os_eq (de_var 1) (de_str [110, 117, 109, 98, 101, 114]) (nomark _))
    (dss_one (ds_ret (de_callQ L.o_24 (hr.mono (Nat.le_succ _)) Z.g_24 Z.f_24.kp Z.b_24 (takes_of rfl rfl rfl rfl) (da_cons (de_var 0) (da_cons de_int da_nil)))))
    dss_nil)
    (dss_cons (ds_if (dt_cmp (op_eqG hr.units) os_eq (de_var 1) (de_str [116, 117, 114, 110]) (nomark _))
    (dss_one (ds_ret (de_call L.o_1 (hr.mono (Nat.le_succ _)) Z.g_1 Z.f_1.kp Z.b_1 (takes_of rfl rfl rfl rfl) (da_cons (de_var 0) (da_cons de_int (da_cons (de_cst Z.c_MOST_TURN) da_nil))))))
    dss_nil)
    (dss_one (ds_ret (de_callQ L.o_7 (hr.mono (Nat.le_succ _)) Z.g_7 Z.f_7.kp Z.b_7 (takes_of rfl rfl rfl rfl) (da_cons (de_var 0) da_nil))))))
theorem ok_26 (Z : Fx K w mg) (L : Lv P w K mg base k G) : FnOk P w K mg base (L2.CX P w) (k + 2) (fAd K ("are_parts", none)) (fdAt K ("are_parts", none)) [("values" : Str), ("kinds" : Str)] (SpD (su K) (c_26 G)) :=
  fn_D (S := su K) (N := [("values" : Str), ("kinds" : Str), ("value" : Str), ("kind" : Str)]) (b := b_26 G) Z.f_26 sc_26 fun cdv A outer s H E hr => by
  exact (dss_one (ds_ret (de_and (de_cmp (op_eqG hr.units) os_eq (de_callB call_len cs_len Z.n_len (da_cons (de_var 0) da_nil)) (de_callB call_len cs_len Z.n_len (da_cons (de_var 1) da_nil)) (nomark _)) (de_one (de_callB (cr_all rfl) cs_all Z.n_all (da_cons (de_lc (t := (.tp [2, 3])) rfl rfl sc_26.nd (di_zip rfl (da_cons (de_var 0) (da_cons (de_var 1) da_nil)) Z.n_zip) (blkOk_by (own := [(("value" : Str), 2), (("kind" : Str), 3)]) (by show blkC [("values" : Str), ("kinds" : Str), ("value" : Str), ("kind" : Str)] (defScope s_26) _ _ = true; decide +kernel)) (fun _ _ _ _ _ => (pg_tup rfl (pgs_cons (pg_name (i := 2) sc_26.nd rfl (Or.inl rfl)) (pgs_cons (pg_name (i := 3) sc_26.nd rfl (Or.inl rfl)) pgs_nil)))) (fun _ _ _ _ _ => dt_yes) (fun _ _ _ _ _ => (de_callQ L.o_25 (hr.mono (Nat.le_succ _)) Z.g_25 Z.f_25.kp Z.b_25 takes0 (da_cons (de_var 2) (da_cons (de_var 3) da_nil))))) da_nil))))))
theorem ok_27 (Z : Fx K w mg) (L : Lv P w K mg base k G) : FnOk P w K mg base (L2.CX P w) (k + 2) (fAd K ("is_ask", none)) (fdAt K ("is_ask", none)) [("value" : Str)] (SpD (su K) (c_27 G)) :=
  fn_D (S := su K) (N := [("value" : Str)]) (b := b_27 G) Z.f_27 sc_27 fun cdv A outer s H E hr => by
  exact (dss_cons (ds_if (dw_or (dt_not (dt_val rfl (de_isi 4 rfl Z.n_isinstance (de_var 0) Z.n_tuple))) (dw_or (dt_cmp (op_eqG hr.units) os_eq (de_var 0) (de_tup da_nil) (nomark _)) (dw_or1 (dt_not (dt_val rfl (de_isi 3 rfl Z.n_isinstance (de_ix rfl (de_var 0) de_int) Z.n_str)))))).pt
    (dss_one (ds_ret de_bl))
    dss_nil)
    (dss_cons (ds_if (dt_inD rfl Z.d_ASK_SIGNS Z.gd_ASK_SIGNS (de_ix rfl (de_var 0) de_int))
    (dss_one (ds_ret (de_and (de_cmp (op_eqG hr.units) os_eq (de_callB call_len cs_len Z.n_len (da_cons (de_var 0) da_nil)) de_int (nomark _)) (de_and (de_callQ L.o_24 (hr.mono (Nat.le_succ _)) Z.g_24 Z.f_24.kp Z.b_24 (takes_of rfl rfl rfl rfl) (da_cons (de_ix rfl (de_var 0) de_int) (da_cons de_int da_nil))) (de_one (de_callQ L.o_24 (hr.mono (Nat.le_succ _)) Z.g_24 Z.f_24.kp Z.b_24 (takes_of rfl rfl rfl rfl) (da_cons (de_ix rfl (de_var 0) de_int) (da_cons de_int da_nil))))))))
    dss_nil)
    (dss_one (ds_ret (de_and (de_inD rfl Z.d_ASK_PARTS Z.gd_ASK_PARTS (de_ix rfl (de_var 0) de_int)) (de_one (de_callQ L.o_26 (hr.mono (Nat.le_succ _)) Z.g_26 Z.f_26.kp Z.b_26 (takes_of rfl rfl rfl rfl) (da_cons (de_cut rfl (de_var 0) (do_some de_int) do_none) (da_cons (de_getD rfl Z.d_ASK_PARTS Z.gd_ASK_PARTS (de_ix rfl (de_var 0) de_int)) da_nil)))))))))
theorem ok_28 (Z : Fx K w mg) (L : Lv P w K mg base k G) : FnOk P w K mg base (L2.CX P w) (k + 2) (fAd K ("is_row", none)) (fdAt K ("is_row", none)) [("value" : Str)] (SpD (su K) (c_28 G)) :=
  fn_D (S := su K) (N := [("value" : Str), ("word" : Str)]) (b := b_28 G) Z.f_28 sc_28 fun cdv A outer s H E hr => by
  exact (dss_cons (ds_if (dw_or (dt_not (dt_val rfl (de_isi 4 rfl Z.n_isinstance (de_var 0) Z.n_tuple))) (dw_or (dt_cmp (op_eqG hr.units) os_eq (de_var 0) (de_tup da_nil) (nomark _)) (dw_or1 (dt_not (dt_val rfl (de_isi 3 rfl Z.n_isinstance (de_ix rfl (de_var 0) de_int) Z.n_str)))))).pt
    (dss_one (ds_ret de_bl))
    dss_nil)
    (dss_cons (ds_set 1 sc_28.nd (de_ix rfl (de_var 0) de_int))
    (dss_cons (ds_if (dt_cmp (op_eqG hr.units) os_eq (de_var 1) (de_str [110, 117, 109, 98, 101, 114]) (nomark _))
    (dss_one (ds_ret (de_and (de_call L.o_2 (hr.mono (Nat.le_succ _)) Z.g_2 Z.f_2.kp Z.b_2 (takes_of rfl rfl rfl rfl) (da_cons (de_var 0) (da_cons de_int da_nil))) (de_and (de_callQ L.o_7 (hr.mono (Nat.le_succ _)) Z.g_7 Z.f_7.kp Z.b_7 (takes_of rfl rfl rfl rfl) (da_cons (de_ix rfl (de_var 0) de_int) da_nil)) (de_one (de_callQ L.o_24 (hr.mono (Nat.le_succ _)) Z.g_24 Z.f_24.kp Z.b_24 (takes_of rfl rfl rfl rfl) (da_cons (de_ix rfl (de_var 0) de_int) (da_cons de_int da_nil))))))))
    dss_nil)
    (dss_cons (ds_if (dt_cmp (op_eqG hr.units) os_eq (de_var 1) (de_str [97, 115, 107]) (nomark _))
    (dss_one (ds_ret (de_and (de_call L.o_2 (hr.mono (Nat.le_succ _)) Z.g_2 Z.f_2.kp Z.b_2 (takes_of rfl rfl rfl rfl) (da_cons (de_var 0) (da_cons de_int da_nil))) (de_one (de_callQ L.o_27 (hr.mono (Nat.le_succ _)) Z.g_27 Z.f_27.kp Z.b_27 (takes_of rfl rfl rfl rfl) (da_cons (de_ix rfl (de_var 0) de_int) da_nil))))))
    dss_nil)
    (dss_cons (ds_if (dt_cmp (op_eqG hr.units) os_eq (de_var 1) (de_str [116, 101, 108, 108]) (nomark _))
    (dss_one (ds_ret (de_and (de_call L.o_2 (hr.mono (Nat.le_succ _)) Z.g_2 Z.f_2.kp Z.b_2 (takes_of rfl rfl rfl rfl) (da_cons (de_var 0) (da_cons de_int da_nil))) (de_and (de_callQ L.o_24 (hr.mono (Nat.le_succ _)) Z.g_24 Z.f_24.kp Z.b_24 (takes_of rfl rfl rfl rfl) (da_cons (de_ix rfl (de_var 0) de_int) (da_cons de_int da_nil))) (de_one (de_call L.o_1 (hr.mono (Nat.le_succ _)) Z.g_1 Z.f_1.kp Z.b_1 (takes_of rfl rfl rfl rfl) (da_cons (de_ix rfl (de_var 0) de_int) (da_cons de_int (da_cons (de_cst Z.c_MOST_PLACES) da_nil)))))))))
    dss_nil)
    (dss_cons (ds_if (dt_cmp (op_eqG hr.units) os_eq (de_var 1) (de_str [112, 111, 108, 121]) (nomark _))
    (dss_one (ds_ret (de_and (de_call L.o_2 (hr.mono (Nat.le_succ _)) Z.g_2 Z.f_2.kp Z.b_2 (takes_of rfl rfl rfl rfl) (da_cons (de_var 0) (da_cons de_int da_nil))) (de_one (de_callQ L.o_24 (hr.mono (Nat.le_succ _)) Z.g_24 Z.f_24.kp Z.b_24 (takes_of rfl rfl rfl rfl) (da_cons (de_ix rfl (de_var 0) de_int) (da_cons de_int da_nil)))))))
    dss_nil)
    (dss_cons (ds_if (dw_or (dt_ninD rfl Z.d_FIGURE_PARTS Z.gd_FIGURE_PARTS (de_var 1)) (dw_or (dt_cmp op_lt os_cmp (de_callB call_len cs_len Z.n_len (da_cons (de_var 0) da_nil)) de_int (nomark _)) (dw_or1 (dt_not (dt_val rfl (de_callQ L.o_7 (hr.mono (Nat.le_succ _)) Z.g_7 Z.f_7.kp Z.b_7 (takes_of rfl rfl rfl rfl) (da_cons (de_ix rfl (de_var 0) de_int) da_nil))))))).pt
    (dss_one (ds_ret de_bl))
    dss_nil)
    (dss_one (ds_ret (de_callQ L.o_26 (hr.mono (Nat.le_succ _)) Z.g_26 Z.f_26.kp Z.b_26 (takes_of rfl rfl rfl rfl) (da_cons (de_cut rfl (de_var 0) (do_some de_int) do_none) (da_cons (de_getD rfl Z.d_FIGURE_PARTS Z.gd_FIGURE_PARTS (de_var 1)) da_nil))))))))))))
theorem ok_29 (Z : Fx K w mg) (L : Lv P w K mg base k G) : FnOk P w K mg base (L2.CX P w) (k + 2) (fAd K ("plan_wrong_by", none)) (fdAt K ("plan_wrong_by", none)) [("value" : Str)] (SpD (su K) (c_29 G)) :=
  fn_D (S := su K) (N := [("value" : Str), ("index" : Str), ("row" : Str)]) (b := b_29 G) Z.f_29 sc_29 fun cdv A outer s H E hr => by
  exact (dss_cons (ds_if (dw_or (dt_not (dt_val rfl (de_isi 4 rfl Z.n_isinstance (de_var 0) Z.n_tuple))) (dw_or1 (dt_cmp op_gt os_cmp (de_callB call_len cs_len Z.n_len (da_cons (de_var 0) da_nil)) (de_cst Z.c_MOST_ROWS) (nomark _)))).pt
    (dss_one (ds_ret (de_tup (da_cons de_non da_nil))))
    dss_nil)
    (dss_cons (ds_for (passes_of rfl) rfl (di_enmA rfl (da_cons (de_var 0) da_nil) Z.n_enumerate) (dg_tup rfl rfl (dgs_cons (dg_name 1 sc_29.nd) (dgs_cons (dg_name 2 sc_29.nd) dgs_nil)) (gl1 (gl1 gl0)))
    (dss_one (ds_if (dt_not (dt_val rfl (de_callQ L.o_28 (hr.mono (Nat.le_succ _)) Z.g_28 Z.f_28.kp Z.b_28 (takes_of rfl rfl rfl rfl) (da_cons (de_var 2) da_nil))))
    (dss_one (ds_ret (de_tup (da_cons (de_var 1) da_nil))))
    dss_nil)))
    (dss_one (ds_ret de_non))))
theorem ok_30 (Z : Fx K w mg) (L : Lv P w K mg base k G) : FnOk P w K mg base (L2.CX P w) (k + 2) (fAd K ("Reader", (some "__init__"))) (fdAt K ("Reader", (some "__init__"))) [("self" : Str), ("source" : Str)] (SpD (su K) (c_30 G)) :=
  fn_D (S := su K) (N := [("self" : Str), ("source" : Str)]) (b := b_30 G) Z.f_30 sc_30 fun cdv A outer s H E hr => by
  exact (dss_cons (ds_fld rfl Z.t_pieces (de_var 0) (de_callP L.o_11 (hr.mono (Nat.le_succ _)) Z.g_11 Z.f_11.kp Z.b_11 (takes_of rfl rfl rfl rfl) (da_cons (de_var 1) da_nil)))
    (dss_cons (ds_fld rfl Z.t_size (de_var 0) (de_callB call_len cs_len Z.n_len (da_cons (de_var 1) da_nil)))
    (dss_one (ds_fld rfl Z.t_at (de_var 0) de_int))))
theorem ok_31 (Z : Fx K w mg) (L : Lv P w K mg base k G) : FnOk P w K mg base (L2.CX P w) (k + 2) (fAd K ("Reader", (some "is_done"))) (fdAt K ("Reader", (some "is_done"))) [("self" : Str)] (SpD (su K) (c_31 G)) :=
  fn_D (S := su K) (N := [("self" : Str)]) (b := b_31 G) Z.f_31 sc_31 fun cdv A outer s H E hr => by
  exact (dss_one (ds_ret (de_cmp (op_eqG hr.units) os_eq (de_fld rfl Z.t_at (de_var 0)) (de_callB call_len cs_len Z.n_len (da_cons (de_fld rfl Z.t_pieces (de_var 0)) da_nil)) (nomark _))))
theorem ok_32 (Z : Fx K w mg) (L : Lv P w K mg base k G) : FnOk P w K mg base (L2.CX P w) (k + 2) (fAd K ("Reader", (some "place"))) (fdAt K ("Reader", (some "place"))) [("self" : Str)] (SpD (su K) (c_32 G)) :=
  fn_D (S := su K) (N := [("self" : Str)]) (b := b_32 G) Z.f_32 sc_32 fun cdv A outer s H E hr => by
  exact (dss_one (ds_ret (de_if (dt_val rfl (de_meth0 (c := 1) rfl rfl (by show _ ∉ cFl 1; decide +kernel) (de_var 0) Z.cl_Reader Z.m_31 L.o_31 (hr.mono (Nat.le_succ _)) Z.b_31 (takes_of rfl rfl rfl rfl))) (de_fld rfl Z.t_size (de_var 0)) (de_ix rfl (de_ix rfl (de_fld rfl Z.t_pieces (de_var 0)) (de_fld rfl Z.t_at (de_var 0))) de_int))))
theorem ok_33 (Z : Fx K w mg) (L : Lv P w K mg base k G) : FnOk P w K mg base (L2.CX P w) (k + 2) (fAd K ("Reader", (some "next_kind"))) (fdAt K ("Reader", (some "next_kind"))) [("self" : Str)] (SpD (su K) (c_33 G)) :=
  fn_D (S := su K) (N := [("self" : Str)]) (b := b_33 G) Z.f_33 sc_33 fun cdv A outer s H E hr => by
  exact (dss_one (ds_ret (de_if (dt_val rfl (de_meth0 (c := 1) rfl rfl (by show _ ∉ cFl 1; decide +kernel) (de_var 0) Z.cl_Reader Z.m_31 L.o_31 (hr.mono (Nat.le_succ _)) Z.b_31 (takes_of rfl rfl rfl rfl))) (de_str [110, 111, 110, 101]) (de_ix rfl (de_ix rfl (de_fld rfl Z.t_pieces (de_var 0)) (de_fld rfl Z.t_at (de_var 0))) de_int))))
theorem ok_34 (Z : Fx K w mg) (L : Lv P w K mg base k G) : FnOk P w K mg base (L2.CX P w) (k + 2) (fAd K ("Reader", (some "next_part"))) (fdAt K ("Reader", (some "next_part"))) [("self" : Str)] (SpD (su K) (c_34 G)) :=
  fn_D (S := su K) (N := [("self" : Str)]) (b := b_34 G) Z.f_34 sc_34 fun cdv A outer s H E hr => by
  exact (dss_one (ds_ret (de_if (dt_val rfl (de_meth0 (c := 1) rfl rfl (by show _ ∉ cFl 1; decide +kernel) (de_var 0) Z.cl_Reader Z.m_31 L.o_31 (hr.mono (Nat.le_succ _)) Z.b_31 (takes_of rfl rfl rfl rfl))) (de_str []) (de_ix rfl (de_ix rfl (de_fld rfl Z.t_pieces (de_var 0)) (de_fld rfl Z.t_at (de_var 0))) de_int))))
theorem ok_35 (Z : Fx K w mg) (L : Lv P w K mg base k G) : FnOk P w K mg base (L2.CX P w) (k + 2) (fAd K ("Reader", (some "sees"))) (fdAt K ("Reader", (some "sees"))) [("self" : Str), ("part" : Str)] (SpD (su K) (c_35 G)) :=
  fn_D (S := su K) (N := [("self" : Str), ("part" : Str)]) (b := b_35 G) Z.f_35 sc_35 fun cdv A outer s H E hr => by
  exact (dss_one (ds_ret (de_and (de_cmp op_inG (os_in false) (de_meth0 (c := 1) rfl rfl (by show _ ∉ cFl 1; decide +kernel) (de_var 0) Z.cl_Reader Z.m_33 L.o_33 (hr.mono (Nat.le_succ _)) Z.b_33 (takes_of rfl rfl rfl rfl)) (de_tup (da_cons (de_str [115, 105, 103, 110]) (da_cons (de_str [119, 111, 114, 100]) da_nil))) rfl) (de_one (de_cmp (op_eqG hr.units) os_eq (de_meth0 (c := 1) rfl rfl (by show _ ∉ cFl 1; decide +kernel) (de_var 0) Z.cl_Reader Z.m_34 L.o_34 (hr.mono (Nat.le_succ _)) Z.b_34 (takes_of rfl rfl rfl rfl)) (de_var 1) (nomark _))))))
theorem ok_36 (Z : Fx K w mg) (L : Lv P w K mg base k G) : FnOk P w K mg base (L2.CX P w) (k + 2) (fAd K ("Reader", (some "took"))) (fdAt K ("Reader", (some "took"))) [("self" : Str)] (SpD (su K) (c_36 G)) :=
  fn_D (S := su K) (N := [("self" : Str), ("part" : Str)]) (b := b_36 G) Z.f_36 sc_36 fun cdv A outer s H E hr => by
  exact (dss_cons (ds_set 1 sc_36.nd (de_meth0 (c := 1) rfl rfl (by show _ ∉ cFl 1; decide +kernel) (de_var 0) Z.cl_Reader Z.m_34 L.o_34 (hr.mono (Nat.le_succ _)) Z.b_34 (takes_of rfl rfl rfl rfl)))
    (dss_cons (ds_fld rfl Z.t_at (de_var 0) (de_bin op_addG os_add (de_fld rfl Z.t_at (de_var 0)) de_int))
    (dss_one (ds_ret (de_var 1)))))
theorem ok_37 (Z : Fx K w mg) (L : Lv P w K mg base k G) : FnOk P w K mg base (L2.CX P w) (k + 2) (fAd K ("Reader", (some "need"))) (fdAt K ("Reader", (some "need"))) [("self" : Str), ("part" : Str)] (SpD (su K) (c_37 G)) :=
  fn_D (S := su K) (N := [("self" : Str), ("part" : Str)]) (b := b_37 G) Z.f_37 sc_37 fun cdv A outer s H E hr => by
  exact (dss_cons (ds_if (dt_not (dt_val rfl (de_meth (c := 1) rfl rfl (by show _ ∉ cFl 1; decide +kernel) (de_var 0) Z.cl_Reader Z.m_35 L.o_35 (hr.mono (Nat.le_succ _)) Z.b_35 (takes_of rfl rfl rfl rfl) (da_cons (de_var 1) da_nil))))
    (dss_one (ds_raise (c := 3) rfl rfl rfl tailEX PySem.F.excBase_Exception Z.x_Halt hr (takes_of rfl rfl rfl rfl) (da_cons (de_meth0 (c := 1) rfl rfl (by show _ ∉ cFl 1; decide +kernel) (de_var 0) Z.cl_Reader Z.m_32 L.o_32 (hr.mono (Nat.le_succ _)) Z.b_32 (takes_of rfl rfl rfl rfl)) da_nil)))
    dss_nil)
    (dss_one (ds_fld rfl Z.t_at (de_var 0) (de_bin op_addG os_add (de_fld rfl Z.t_at (de_var 0)) de_int))))
theorem ok_38 (Z : Fx K w mg) (L : Lv P w K mg base k G) : FnOk P w K mg base (L2.CX P w) (k + 2) (fAd K ("Reader", (some "need_end"))) (fdAt K ("Reader", (some "need_end"))) [("self" : Str)] (SpD (su K) (c_38 G)) :=
  fn_D (S := su K) (N := [("self" : Str)]) (b := b_38 G) Z.f_38 sc_38 fun cdv A outer s H E hr => by
  exact (dss_cons (ds_if (dt_cmp (op_neG hr.units) os_ne (de_meth0 (c := 1) rfl rfl (by show _ ∉ cFl 1; decide +kernel) (de_var 0) Z.cl_Reader Z.m_33 L.o_33 (hr.mono (Nat.le_succ _)) Z.b_33 (takes_of rfl rfl rfl rfl)) (de_str [101, 110, 100]) (nomark _))
    (dss_one (ds_raise (c := 3) rfl rfl rfl tailEX PySem.F.excBase_Exception Z.x_Halt hr (takes_of rfl rfl rfl rfl) (da_cons (de_meth0 (c := 1) rfl rfl (by show _ ∉ cFl 1; decide +kernel) (de_var 0) Z.cl_Reader Z.m_32 L.o_32 (hr.mono (Nat.le_succ _)) Z.b_32 (takes_of rfl rfl rfl rfl)) da_nil)))
    dss_nil)
    (dss_one (ds_fld rfl Z.t_at (de_var 0) (de_bin op_addG os_add (de_fld rfl Z.t_at (de_var 0)) de_int))))
theorem ok_39 (Z : Fx K w mg) (L : Lv P w K mg base k G) : FnOk P w K mg base (L2.CX P w) (k + 2) (fAd K ("Reader", (some "name"))) (fdAt K ("Reader", (some "name"))) [("self" : Str)] (SpD (su K) (c_39 G)) :=
  fn_D (S := su K) (N := [("self" : Str)]) (b := b_39 G) Z.f_39 sc_39 fun cdv A outer s H E hr => by
  exact (dss_cons (ds_if (dt_cmp (op_neG hr.units) os_ne (de_meth0 (c := 1) rfl rfl (by show _ ∉ cFl 1; decide +kernel) (de_var 0) Z.cl_Reader Z.m_33 L.o_33 (hr.mono (Nat.le_succ _)) Z.b_33 (takes_of rfl rfl rfl rfl)) (de_str [110, 97, 109, 101]) (nomark _))
    (dss_one (ds_raise (c := 3) rfl rfl rfl tailEX PySem.F.excBase_Exception Z.x_Halt hr (takes_of rfl rfl rfl rfl) (da_cons (de_meth0 (c := 1) rfl rfl (by show _ ∉ cFl 1; decide +kernel) (de_var 0) Z.cl_Reader Z.m_32 L.o_32 (hr.mono (Nat.le_succ _)) Z.b_32 (takes_of rfl rfl rfl rfl)) da_nil)))
    dss_nil)
    (dss_one (ds_ret (de_meth0 (c := 1) rfl rfl (by show _ ∉ cFl 1; decide +kernel) (de_var 0) Z.cl_Reader Z.m_36 L.o_36 (hr.mono (Nat.le_succ _)) Z.b_36 (takes_of rfl rfl rfl rfl)))))
theorem ok_40 (Z : Fx K w mg) (L : Lv P w K mg base k G) : FnOk P w K mg base (L2.CX P w) (k + 2) (fAd K ("Reader", (some "numeral"))) (fdAt K ("Reader", (some "numeral"))) [("self" : Str), ("low" : Str), ("high" : Str)] (SpD (su K) (c_40 G)) :=
  fn_D (S := su K) (N := [("self" : Str), ("low" : Str), ("high" : Str)]) (b := b_40 G) Z.f_40 sc_40 fun cdv A outer s H E hr => by
  exact (dss_cons (ds_if (dw_or (dt_cmp (op_neG hr.units) os_ne (de_meth0 (c := 1) rfl rfl (by show _ ∉ cFl 1; decide +kernel) (de_var 0) Z.cl_Reader Z.m_33 L.o_33 (hr.mono (Nat.le_succ _)) Z.b_33 (takes_of rfl rfl rfl rfl)) (de_str [110, 117, 109, 101, 114, 97, 108]) (nomark _)) (dw_or1 (dt_not (dt_chain op_le op_le os_cmp os_cmp (de_var 1) (de_callTy call_intG cs_int Z.n_int (da_cons (de_meth0 (c := 1) rfl rfl (by show _ ∉ cFl 1; decide +kernel) (de_var 0) Z.cl_Reader Z.m_34 L.o_34 (hr.mono (Nat.le_succ _)) Z.b_34 (takes_of rfl rfl rfl rfl)) da_nil)) (de_var 2))))).pt
    (dss_one (ds_raise (c := 3) rfl rfl rfl tailEX PySem.F.excBase_Exception Z.x_Halt hr (takes_of rfl rfl rfl rfl) (da_cons (de_meth0 (c := 1) rfl rfl (by show _ ∉ cFl 1; decide +kernel) (de_var 0) Z.cl_Reader Z.m_32 L.o_32 (hr.mono (Nat.le_succ _)) Z.b_32 (takes_of rfl rfl rfl rfl)) da_nil)))
    dss_nil)
    (dss_one (ds_ret (de_callTy call_intG cs_int Z.n_int (da_cons (de_meth0 (c := 1) rfl rfl (by show _ ∉ cFl 1; decide +kernel) (de_var 0) Z.cl_Reader Z.m_36 L.o_36 (hr.mono (Nat.le_succ _)) Z.b_36 (takes_of rfl rfl rfl rfl)) da_nil)))))
theorem ok_41 (Z : Fx K w mg) (L : Lv P w K mg base k G) : FnOk P w K mg base (L2.CX P w) (k + 2) (fAd K ("sum_at", none)) (fdAt K ("sum_at", none)) [("reader" : Str), ("depth" : Str)] (SpD (su K) (c_41 G)) :=
  fn_D (S := su K) (N := [("reader" : Str), ("depth" : Str), ("tree" : Str), ("many" : Str), ("word" : Str)]) (b := b_41 G) Z.f_41 sc_41 fun cdv A outer s H E hr => by
  exact (dss_cons (ds_set 2 sc_41.nd (de_call L.o_42 (hr.mono (Nat.le_succ _)) Z.g_42 Z.f_42.kp Z.b_42 (takes_of rfl rfl rfl rfl) (da_cons (de_var 0) (da_cons (de_var 1) da_nil))))
    (dss_cons (ds_set 3 sc_41.nd (de_callQ L.o_14 (hr.mono (Nat.le_succ _)) Z.g_14 Z.f_14.kp Z.b_14 (takes_of rfl rfl rfl rfl) (da_cons (de_var 2) (da_cons (de_cst Z.c_TERMS) da_nil))))
    (dss_cons (ds_while (passes_of rfl) (dw_and (dt_cmp op_lt os_cmp (de_var 3) (de_cst Z.c_MOST_TERMS) (nomark _)) (dw_and1 (dw_or (dt_val rfl (de_meth (c := 1) rfl rfl (by show _ ∉ cFl 1; decide +kernel) (de_var 0) Z.cl_Reader Z.m_35 L.o_35 (hr.mono (Nat.le_succ _)) Z.b_35 (takes_of rfl rfl rfl rfl) (da_cons (de_str [43]) da_nil))) (dw_or1 (dt_val rfl (de_meth (c := 1) rfl rfl (by show _ ∉ cFl 1; decide +kernel) (de_var 0) Z.cl_Reader Z.m_35 L.o_35 (hr.mono (Nat.le_succ _)) Z.b_35 (takes_of rfl rfl rfl rfl) (da_cons (de_str [45]) da_nil))))).pt)).pt
    (dss_cons (ds_set 4 sc_41.nd (de_getD rfl Z.d_TERM_WORDS Z.gd_TERM_WORDS (de_meth0 (c := 1) rfl rfl (by show _ ∉ cFl 1; decide +kernel) (de_var 0) Z.cl_Reader Z.m_36 L.o_36 (hr.mono (Nat.le_succ _)) Z.b_36 (takes_of rfl rfl rfl rfl))))
    (dss_cons (ds_set 2 sc_41.nd (de_tup (da_cons (de_var 4) (da_cons (de_var 2) (da_cons (de_call L.o_42 (hr.mono (Nat.le_succ _)) Z.g_42 Z.f_42.kp Z.b_42 (takes_of rfl rfl rfl rfl) (da_cons (de_var 0) (da_cons (de_var 1) da_nil))) da_nil)))))
    (dss_one (ds_set 3 sc_41.nd (de_bin op_addG os_add (de_var 3) de_int))))))
    (dss_one (ds_ret (de_var 2))))))
theorem ok_42 (Z : Fx K w mg) (L : Lv P w K mg base k G) : FnOk P w K mg base (L2.CX P w) (k + 2) (fAd K ("product_at", none)) (fdAt K ("product_at", none)) [("reader" : Str), ("depth" : Str)] (SpD (su K) (c_42 G)) :=
  fn_D (S := su K) (N := [("reader" : Str), ("depth" : Str), ("tree" : Str), ("many" : Str), ("word" : Str)]) (b := b_42 G) Z.f_42 sc_42 fun cdv A outer s H E hr => by
  exact (dss_cons (ds_set 2 sc_42.nd (de_call L.o_43 (hr.mono (Nat.le_succ _)) Z.g_43 Z.f_43.kp Z.b_43 (takes_of rfl rfl rfl rfl) (da_cons (de_var 0) (da_cons (de_var 1) da_nil))))
    (dss_cons (ds_set 3 sc_42.nd (de_callQ L.o_14 (hr.mono (Nat.le_succ _)) Z.g_14 Z.f_14.kp Z.b_14 (takes_of rfl rfl rfl rfl) (da_cons (de_var 2) (da_cons (de_cst Z.c_FACTORS) da_nil))))
    (dss_cons (ds_while (passes_of rfl) (dw_and (dt_cmp op_lt os_cmp (de_var 3) (de_cst Z.c_MOST_FACTORS) (nomark _)) (dw_and1 (dw_or (dt_val rfl (de_meth (c := 1) rfl rfl (by show _ ∉ cFl 1; decide +kernel) (de_var 0) Z.cl_Reader Z.m_35 L.o_35 (hr.mono (Nat.le_succ _)) Z.b_35 (takes_of rfl rfl rfl rfl) (da_cons (de_str [42]) da_nil))) (dw_or1 (dt_val rfl (de_meth (c := 1) rfl rfl (by show _ ∉ cFl 1; decide +kernel) (de_var 0) Z.cl_Reader Z.m_35 L.o_35 (hr.mono (Nat.le_succ _)) Z.b_35 (takes_of rfl rfl rfl rfl) (da_cons (de_str [47]) da_nil))))).pt)).pt
    (dss_cons (ds_set 4 sc_42.nd (de_getD rfl Z.d_FACTOR_WORDS Z.gd_FACTOR_WORDS (de_meth0 (c := 1) rfl rfl (by show _ ∉ cFl 1; decide +kernel) (de_var 0) Z.cl_Reader Z.m_36 L.o_36 (hr.mono (Nat.le_succ _)) Z.b_36 (takes_of rfl rfl rfl rfl))))
    (dss_cons (ds_set 2 sc_42.nd (de_tup (da_cons (de_var 4) (da_cons (de_var 2) (da_cons (de_call L.o_43 (hr.mono (Nat.le_succ _)) Z.g_43 Z.f_43.kp Z.b_43 (takes_of rfl rfl rfl rfl) (da_cons (de_var 0) (da_cons (de_var 1) da_nil))) da_nil)))))
    (dss_one (ds_set 3 sc_42.nd (de_bin op_addG os_add (de_var 3) de_int))))))
    (dss_one (ds_ret (de_var 2))))))
theorem ok_43 (Z : Fx K w mg) (L : Lv P w K mg base k G) : FnOk P w K mg base (L2.CX P w) (k + 2) (fAd K ("factor_at", none)) (fdAt K ("factor_at", none)) [("reader" : Str), ("depth" : Str)] (SpD (su K) (c_43 G)) :=
  fn_D (S := su K) (N := [("reader" : Str), ("depth" : Str), ("kind" : Str)]) (b := b_43 G) Z.f_43 sc_43 fun cdv A outer s H E hr => by
  exact (dss_cons (ds_set 2 sc_43.nd (de_meth0 (c := 1) rfl rfl (by show _ ∉ cFl 1; decide +kernel) (de_var 0) Z.cl_Reader Z.m_33 L.o_33 (hr.mono (Nat.le_succ _)) Z.b_33 (takes_of rfl rfl rfl rfl)))
    (dss_cons (ds_if (dt_cmp (op_eqG hr.units) os_eq (de_var 2) (de_str [110, 117, 109, 101, 114, 97, 108]) (nomark _))
    (dss_one (ds_ret (de_tup (da_cons (de_str [110, 117, 109, 101, 114, 97, 108]) (da_cons (de_callTy call_intG cs_int Z.n_int (da_cons (de_meth0 (c := 1) rfl rfl (by show _ ∉ cFl 1; decide +kernel) (de_var 0) Z.cl_Reader Z.m_36 L.o_36 (hr.mono (Nat.le_succ _)) Z.b_36 (takes_of rfl rfl rfl rfl)) da_nil)) da_nil)))))
    dss_nil)
    (dss_cons (ds_if (dt_cmp (op_eqG hr.units) os_eq (de_var 2) (de_str [110, 97, 109, 101]) (nomark _))
    (dss_one (ds_ret (de_tup (da_cons (de_str [110, 97, 109, 101]) (da_cons (de_meth0 (c := 1) rfl rfl (by show _ ∉ cFl 1; decide +kernel) (de_var 0) Z.cl_Reader Z.m_36 L.o_36 (hr.mono (Nat.le_succ _)) Z.b_36 (takes_of rfl rfl rfl rfl)) da_nil)))))
    dss_nil)
    (dss_cons (ds_if (dt_cmp (op_eqG hr.units) os_eq (de_var 1) (de_cst Z.c_MOST_DEPTH) (nomark _))
    (dss_one (ds_raise (c := 3) rfl rfl rfl tailEX PySem.F.excBase_Exception Z.x_Halt hr (takes_of rfl rfl rfl rfl) (da_cons (de_meth0 (c := 1) rfl rfl (by show _ ∉ cFl 1; decide +kernel) (de_var 0) Z.cl_Reader Z.m_32 L.o_32 (hr.mono (Nat.le_succ _)) Z.b_32 (takes_of rfl rfl rfl rfl)) da_nil)))
    dss_nil)
    (dss_one (ds_ret (de_call L.o_44 (hr.mono (Nat.le_succ _)) Z.g_44 Z.f_44.kp Z.b_44 (takes_of rfl rfl rfl rfl) (da_cons (de_var 0) (da_cons (de_bin op_addG os_add (de_var 1) de_int) da_nil)))))))))
theorem ok_44 (Z : Fx K w mg) (L : Lv P w K mg base k G) : FnOk P w K mg base (L2.CX P w) (k + 2) (fAd K ("deeper_at", none)) (fdAt K ("deeper_at", none)) [("reader" : Str), ("depth" : Str)] (SpD (su K) (c_44 G)) :=
  fn_D (S := su K) (N := [("reader" : Str), ("depth" : Str)]) (b := b_44 G) Z.f_44 sc_44 fun cdv A outer s H E hr => by
  exact (dss_cons (ds_if (dt_val rfl (de_meth (c := 1) rfl rfl (by show _ ∉ cFl 1; decide +kernel) (de_var 0) Z.cl_Reader Z.m_35 L.o_35 (hr.mono (Nat.le_succ _)) Z.b_35 (takes_of rfl rfl rfl rfl) (da_cons (de_str [45]) da_nil)))
    (dss_cons (ds_exp (de_meth0 (c := 1) rfl rfl (by show _ ∉ cFl 1; decide +kernel) (de_var 0) Z.cl_Reader Z.m_36 L.o_36 (hr.mono (Nat.le_succ _)) Z.b_36 (takes_of rfl rfl rfl rfl)))
    (dss_one (ds_ret (de_tup (da_cons (de_str [109, 105, 110, 117, 115]) (da_cons (de_call L.o_43 (hr.mono (Nat.le_succ _)) Z.g_43 Z.f_43.kp Z.b_43 (takes_of rfl rfl rfl rfl) (da_cons (de_var 0) (da_cons (de_var 1) da_nil))) da_nil))))))
    dss_nil)
    (dss_cons (ds_if (dt_val rfl (de_meth (c := 1) rfl rfl (by show _ ∉ cFl 1; decide +kernel) (de_var 0) Z.cl_Reader Z.m_35 L.o_35 (hr.mono (Nat.le_succ _)) Z.b_35 (takes_of rfl rfl rfl rfl) (da_cons (de_str [40]) da_nil)))
    (dss_one (ds_ret (de_call L.o_45 (hr.mono (Nat.le_succ _)) Z.g_45 Z.f_45.kp Z.b_45 (takes_of rfl rfl rfl rfl) (da_cons (de_var 0) (da_cons (de_var 1) da_nil)))))
    dss_nil)
    (dss_cons (ds_if (dt_val rfl (de_meth (c := 1) rfl rfl (by show _ ∉ cFl 1; decide +kernel) (de_var 0) Z.cl_Reader Z.m_35 L.o_35 (hr.mono (Nat.le_succ _)) Z.b_35 (takes_of rfl rfl rfl rfl) (da_cons (de_str [115, 113, 114, 116]) da_nil)))
    (dss_cons (ds_exp (de_meth0 (c := 1) rfl rfl (by show _ ∉ cFl 1; decide +kernel) (de_var 0) Z.cl_Reader Z.m_36 L.o_36 (hr.mono (Nat.le_succ _)) Z.b_36 (takes_of rfl rfl rfl rfl)))
    (dss_one (ds_ret (de_tup (da_cons (de_str [115, 113, 114, 116]) (da_cons (de_call L.o_45 (hr.mono (Nat.le_succ _)) Z.g_45 Z.f_45.kp Z.b_45 (takes_of rfl rfl rfl rfl) (da_cons (de_var 0) (da_cons (de_var 1) da_nil))) da_nil))))))
    dss_nil)
    (dss_cons (ds_if (dt_val rfl (de_meth (c := 1) rfl rfl (by show _ ∉ cFl 1; decide +kernel) (de_var 0) Z.cl_Reader Z.m_35 L.o_35 (hr.mono (Nat.le_succ _)) Z.b_35 (takes_of rfl rfl rfl rfl) (da_cons (de_str [114, 111, 111, 116]) da_nil)))
    (dss_one (ds_ret (de_call L.o_48 (hr.mono (Nat.le_succ _)) Z.g_48 Z.f_48.kp Z.b_48 (takes_of rfl rfl rfl rfl) (da_cons (de_var 0) (da_cons (de_var 1) da_nil)))))
    dss_nil)
    (dss_cons (ds_if (dw_and (dt_cmp (op_eqG hr.units) os_eq (de_meth0 (c := 1) rfl rfl (by show _ ∉ cFl 1; decide +kernel) (de_var 0) Z.cl_Reader Z.m_33 L.o_33 (hr.mono (Nat.le_succ _)) Z.b_33 (takes_of rfl rfl rfl rfl)) (de_str [119, 111, 114, 100]) (nomark _)) (dw_and1 (dt_inD rfl Z.d_POINT_WORDS Z.gd_POINT_WORDS (de_meth0 (c := 1) rfl rfl (by show _ ∉ cFl 1; decide +kernel) (de_var 0) Z.cl_Reader Z.m_34 L.o_34 (hr.mono (Nat.le_succ _)) Z.b_34 (takes_of rfl rfl rfl rfl))))).pt
    (dss_one (ds_ret (de_call L.o_46 (hr.mono (Nat.le_succ _)) Z.g_46 Z.f_46.kp Z.b_46 (takes_of rfl rfl rfl rfl) (da_cons (de_var 0) da_nil))))
    dss_nil)
    (dss_one (ds_raise (c := 3) rfl rfl rfl tailEX PySem.F.excBase_Exception Z.x_Halt hr (takes_of rfl rfl rfl rfl) (da_cons (de_meth0 (c := 1) rfl rfl (by show _ ∉ cFl 1; decide +kernel) (de_var 0) Z.cl_Reader Z.m_32 L.o_32 (hr.mono (Nat.le_succ _)) Z.b_32 (takes_of rfl rfl rfl rfl)) da_nil))))))))
theorem ok_45 (Z : Fx K w mg) (L : Lv P w K mg base k G) : FnOk P w K mg base (L2.CX P w) (k + 2) (fAd K ("within", none)) (fdAt K ("within", none)) [("reader" : Str), ("depth" : Str)] (SpD (su K) (c_45 G)) :=
  fn_D (S := su K) (N := [("reader" : Str), ("depth" : Str), ("tree" : Str)]) (b := b_45 G) Z.f_45 sc_45 fun cdv A outer s H E hr => by
  exact (dss_cons (ds_exp (de_meth (c := 1) rfl rfl (by show _ ∉ cFl 1; decide +kernel) (de_var 0) Z.cl_Reader Z.m_37 L.o_37 (hr.mono (Nat.le_succ _)) Z.b_37 (takes_of rfl rfl rfl rfl) (da_cons (de_str [40]) da_nil)))
    (dss_cons (ds_set 2 sc_45.nd (de_call L.o_41 (hr.mono (Nat.le_succ _)) Z.g_41 Z.f_41.kp Z.b_41 (takes_of rfl rfl rfl rfl) (da_cons (de_var 0) (da_cons (de_var 1) da_nil))))
    (dss_cons (ds_exp (de_meth (c := 1) rfl rfl (by show _ ∉ cFl 1; decide +kernel) (de_var 0) Z.cl_Reader Z.m_37 L.o_37 (hr.mono (Nat.le_succ _)) Z.b_37 (takes_of rfl rfl rfl rfl) (da_cons (de_str [41]) da_nil)))
    (dss_one (ds_ret (de_var 2))))))
theorem ok_46 (Z : Fx K w mg) (L : Lv P w K mg base k G) : FnOk P w K mg base (L2.CX P w) (k + 2) (fAd K ("of_points", none)) (fdAt K ("of_points", none)) [("reader" : Str)] (SpD (su K) (c_46 G)) :=
  fn_D (S := su K) (N := [("reader" : Str), ("word" : Str), ("parts" : Str)]) (b := b_46 G) Z.f_46 sc_46 fun cdv A outer s H E hr => by
  exact (dss_cons (ds_set 1 sc_46.nd (de_meth0 (c := 1) rfl rfl (by show _ ∉ cFl 1; decide +kernel) (de_var 0) Z.cl_Reader Z.m_36 L.o_36 (hr.mono (Nat.le_succ _)) Z.b_36 (takes_of rfl rfl rfl rfl)))
    (dss_cons (ds_exp (de_meth (c := 1) rfl rfl (by show _ ∉ cFl 1; decide +kernel) (de_var 0) Z.cl_Reader Z.m_37 L.o_37 (hr.mono (Nat.le_succ _)) Z.b_37 (takes_of rfl rfl rfl rfl) (da_cons (de_str [40]) da_nil)))
    (dss_cons (ds_set 2 sc_46.nd (de_lst (da_cons (de_meth0 (c := 1) rfl rfl (by show _ ∉ cFl 1; decide +kernel) (de_var 0) Z.cl_Reader Z.m_39 L.o_39 (hr.mono (Nat.le_succ _)) Z.b_39 (takes_of rfl rfl rfl rfl)) da_nil)))
    (dss_cons (ds_while (passes_of rfl) (dt_cmp op_lt os_cmp (de_callB call_len cs_len Z.n_len (da_cons (de_var 2) da_nil)) (de_getD rfl Z.d_POINT_WORDS Z.gd_POINT_WORDS (de_var 1)) (nomark _))
    (dss_cons (ds_exp (de_meth (c := 1) rfl rfl (by show _ ∉ cFl 1; decide +kernel) (de_var 0) Z.cl_Reader Z.m_37 L.o_37 (hr.mono (Nat.le_succ _)) Z.b_37 (takes_of rfl rfl rfl rfl) (da_cons (de_str [44]) da_nil)))
    (dss_one (ds_exp (de_bm rfl PySem.F.slot_list_append PySem.F.type_list_append mt_append bs_app (de_var 2) (da_cons (de_meth0 (c := 1) rfl rfl (by show _ ∉ cFl 1; decide +kernel) (de_var 0) Z.cl_Reader Z.m_39 L.o_39 (hr.mono (Nat.le_succ _)) Z.b_39 (takes_of rfl rfl rfl rfl)) da_nil))))))
    (dss_cons (ds_exp (de_meth (c := 1) rfl rfl (by show _ ∉ cFl 1; decide +kernel) (de_var 0) Z.cl_Reader Z.m_37 L.o_37 (hr.mono (Nat.le_succ _)) Z.b_37 (takes_of rfl rfl rfl rfl) (da_cons (de_str [41]) da_nil)))
    (dss_one (ds_ret (de_tup (da_cons (de_var 1) (da_star rfl (de_var 2) da_nil))))))))))
theorem ok_47 (Z : Fx K w mg) (L : Lv P w K mg base k G) : FnOk P w K mg base (L2.CX P w) (k + 2) (fAd K ("root_number", none)) (fdAt K ("root_number", none)) [("reader" : Str)] (SpD (su K) (c_47 G)) :=
  fn_D (S := su K) (N := [("reader" : Str)]) (b := b_47 G) Z.f_47 sc_47 fun cdv A outer s H E hr => by
  exact (dss_cons (ds_if (dt_val rfl (de_meth (c := 1) rfl rfl (by show _ ∉ cFl 1; decide +kernel) (de_var 0) Z.cl_Reader Z.m_35 L.o_35 (hr.mono (Nat.le_succ _)) Z.b_35 (takes_of rfl rfl rfl rfl) (da_cons (de_str [45]) da_nil)))
    (dss_cons (ds_exp (de_meth0 (c := 1) rfl rfl (by show _ ∉ cFl 1; decide +kernel) (de_var 0) Z.cl_Reader Z.m_36 L.o_36 (hr.mono (Nat.le_succ _)) Z.b_36 (takes_of rfl rfl rfl rfl)))
    (dss_one (ds_ret (de_un un_neg us_neg (de_meth (c := 1) rfl rfl (by show _ ∉ cFl 1; decide +kernel) (de_var 0) Z.cl_Reader Z.m_40 L.o_40 (hr.mono (Nat.le_succ _)) Z.b_40 (takes_of rfl rfl rfl rfl) (da_cons de_int (da_cons (de_cst Z.c_MOST_ROOT) da_nil)))))))
    dss_nil)
    (dss_one (ds_ret (de_meth (c := 1) rfl rfl (by show _ ∉ cFl 1; decide +kernel) (de_var 0) Z.cl_Reader Z.m_40 L.o_40 (hr.mono (Nat.le_succ _)) Z.b_40 (takes_of rfl rfl rfl rfl) (da_cons de_int (da_cons (de_cst Z.c_MOST_ROOT) da_nil))))))
theorem ok_48 (Z : Fx K w mg) (L : Lv P w K mg base k G) : FnOk P w K mg base (L2.CX P w) (k + 2) (fAd K ("root_at", none)) (fdAt K ("root_at", none)) [("reader" : Str), ("depth" : Str)] (SpD (su K) (c_48 G)) :=
  fn_D (S := su K) (N := [("reader" : Str), ("depth" : Str), ("number" : Str), ("coefs" : Str)]) (b := b_48 G) Z.f_48 sc_48 fun cdv A outer s H E hr => by
  exact (dss_cons (ds_exp (de_meth (c := 1) rfl rfl (by show _ ∉ cFl 1; decide +kernel) (de_var 0) Z.cl_Reader Z.m_37 L.o_37 (hr.mono (Nat.le_succ _)) Z.b_37 (takes_of rfl rfl rfl rfl) (da_cons (de_str [114, 111, 111, 116]) da_nil)))
    (dss_cons (ds_set 2 sc_48.nd (de_call L.o_47 (hr.mono (Nat.le_succ _)) Z.g_47 Z.f_47.kp Z.b_47 (takes_of rfl rfl rfl rfl) (da_cons (de_var 0) da_nil)))
    (dss_cons (ds_exp (de_meth (c := 1) rfl rfl (by show _ ∉ cFl 1; decide +kernel) (de_var 0) Z.cl_Reader Z.m_37 L.o_37 (hr.mono (Nat.le_succ _)) Z.b_37 (takes_of rfl rfl rfl rfl) (da_cons (de_str [40]) da_nil)))
    (dss_cons (ds_set 3 sc_48.nd (de_lst (da_cons (de_call L.o_41 (hr.mono (Nat.le_succ _)) Z.g_41 Z.f_41.kp Z.b_41 (takes_of rfl rfl rfl rfl) (da_cons (de_var 0) (da_cons (de_var 1) da_nil))) da_nil)))
    (dss_cons (ds_while (passes_of rfl) (dw_or (dt_cmp op_lt os_cmp (de_callB call_len cs_len Z.n_len (da_cons (de_var 3) da_nil)) (de_cst Z.c_LEAST_COEFS) (nomark _)) (dw_or1 (dw_and (dt_cmp op_lt os_cmp (de_callB call_len cs_len Z.n_len (da_cons (de_var 3) da_nil)) (de_cst Z.c_MOST_COEFS) (nomark _)) (dw_and1 (dt_val rfl (de_meth (c := 1) rfl rfl (by show _ ∉ cFl 1; decide +kernel) (de_var 0) Z.cl_Reader Z.m_35 L.o_35 (hr.mono (Nat.le_succ _)) Z.b_35 (takes_of rfl rfl rfl rfl) (da_cons (de_str [44]) da_nil))))).pt)).pt
    (dss_cons (ds_exp (de_meth (c := 1) rfl rfl (by show _ ∉ cFl 1; decide +kernel) (de_var 0) Z.cl_Reader Z.m_37 L.o_37 (hr.mono (Nat.le_succ _)) Z.b_37 (takes_of rfl rfl rfl rfl) (da_cons (de_str [44]) da_nil)))
    (dss_one (ds_exp (de_bm rfl PySem.F.slot_list_append PySem.F.type_list_append mt_append bs_app (de_var 3) (da_cons (de_call L.o_41 (hr.mono (Nat.le_succ _)) Z.g_41 Z.f_41.kp Z.b_41 (takes_of rfl rfl rfl rfl) (da_cons (de_var 0) (da_cons (de_var 1) da_nil))) da_nil))))))
    (dss_cons (ds_exp (de_meth (c := 1) rfl rfl (by show _ ∉ cFl 1; decide +kernel) (de_var 0) Z.cl_Reader Z.m_37 L.o_37 (hr.mono (Nat.le_succ _)) Z.b_37 (takes_of rfl rfl rfl rfl) (da_cons (de_str [41]) da_nil)))
    (dss_one (ds_ret (de_tup (da_cons (de_str [114, 111, 111, 116]) (da_cons (de_var 2) (da_cons (de_callTy call_tuple_of cs_tup Z.n_tuple (da_cons (de_var 3) da_nil)) da_nil))))))))))))
theorem ok_49 (Z : Fx K w mg) (L : Lv P w K mg base k G) : FnOk P w K mg base (L2.CX P w) (k + 2) (fAd K ("part_at", none)) (fdAt K ("part_at", none)) [("reader" : Str), ("kind" : Str)] (SpD (su K) (c_49 G)) :=
  fn_D (S := su K) (N := [("reader" : Str), ("kind" : Str)]) (b := b_49 G) Z.f_49 sc_49 fun cdv A outer s H E hr => by
  exact (dss_cons (ds_if (dt_cmp (op_eqG hr.units) os_eq (de_var 1) (de_str [110, 117, 109, 98, 101, 114]) (nomark _))
    (dss_one (ds_ret (de_call L.o_41 (hr.mono (Nat.le_succ _)) Z.g_41 Z.f_41.kp Z.b_41 (takes_of rfl rfl rfl rfl) (da_cons (de_var 0) (da_cons de_int da_nil)))))
    dss_nil)
    (dss_cons (ds_if (dt_cmp (op_eqG hr.units) os_eq (de_var 1) (de_str [116, 117, 114, 110]) (nomark _))
    (dss_one (ds_ret (de_meth (c := 1) rfl rfl (by show _ ∉ cFl 1; decide +kernel) (de_var 0) Z.cl_Reader Z.m_40 L.o_40 (hr.mono (Nat.le_succ _)) Z.b_40 (takes_of rfl rfl rfl rfl) (da_cons de_int (da_cons (de_cst Z.c_MOST_TURN) da_nil)))))
    dss_nil)
    (dss_one (ds_ret (de_meth0 (c := 1) rfl rfl (by show _ ∉ cFl 1; decide +kernel) (de_var 0) Z.cl_Reader Z.m_39 L.o_39 (hr.mono (Nat.le_succ _)) Z.b_39 (takes_of rfl rfl rfl rfl))))))
theorem ok_50 (Z : Fx K w mg) (L : Lv P w K mg base k G) : FnOk P w K mg base (L2.CX P w) (k + 2) (fAd K ("parts_at", none)) (fdAt K ("parts_at", none)) [("reader" : Str), ("kinds" : Str)] (SpD (su K) (c_50 G)) :=
  fn_D (S := su K) (N := [("reader" : Str), ("kinds" : Str), ("found" : Str), ("kind" : Str)]) (b := b_50 G) Z.f_50 sc_50 fun cdv A outer s H E hr => by
  exact (dss_cons (ds_set 2 sc_50.nd (de_lst da_nil))
    (dss_cons (ds_for (passes_of rfl) rfl (di_seq rfl (de_var 1)) (dg_name 3 sc_50.nd)
    (dss_cons (ds_exp (de_meth (c := 1) rfl rfl (by show _ ∉ cFl 1; decide +kernel) (de_var 0) Z.cl_Reader Z.m_37 L.o_37 (hr.mono (Nat.le_succ _)) Z.b_37 (takes_of rfl rfl rfl rfl) (da_cons (de_if (dt_cmp (op_eqG hr.units) os_eq (de_var 2) (de_lst da_nil) (nomark _)) (de_str [40]) (de_str [44])) da_nil)))
    (dss_one (ds_exp (de_bm rfl PySem.F.slot_list_append PySem.F.type_list_append mt_append bs_app (de_var 2) (da_cons (de_call L.o_49 (hr.mono (Nat.le_succ _)) Z.g_49 Z.f_49.kp Z.b_49 (takes_of rfl rfl rfl rfl) (da_cons (de_var 0) (da_cons (de_var 3) da_nil))) da_nil))))))
    (dss_cons (ds_exp (de_meth (c := 1) rfl rfl (by show _ ∉ cFl 1; decide +kernel) (de_var 0) Z.cl_Reader Z.m_37 L.o_37 (hr.mono (Nat.le_succ _)) Z.b_37 (takes_of rfl rfl rfl rfl) (da_cons (de_str [41]) da_nil)))
    (dss_one (ds_ret (de_var 2))))))
theorem ok_51 (Z : Fx K w mg) (L : Lv P w K mg base k G) : FnOk P w K mg base (L2.CX P w) (k + 2) (fAd K ("made_row", none)) (fdAt K ("made_row", none)) [("reader" : Str)] (SpD (su K) (c_51 G)) :=
  fn_D (S := su K) (N := [("reader" : Str), ("name" : Str), ("word" : Str)]) (b := b_51 G) Z.f_51 sc_51 fun cdv A outer s H E hr => by
  exact (dss_cons (ds_set 1 sc_51.nd (de_meth0 (c := 1) rfl rfl (by show _ ∉ cFl 1; decide +kernel) (de_var 0) Z.cl_Reader Z.m_39 L.o_39 (hr.mono (Nat.le_succ _)) Z.b_39 (takes_of rfl rfl rfl rfl)))
    (dss_cons (ds_exp (de_meth (c := 1) rfl rfl (by show _ ∉ cFl 1; decide +kernel) (de_var 0) Z.cl_Reader Z.m_37 L.o_37 (hr.mono (Nat.le_succ _)) Z.b_37 (takes_of rfl rfl rfl rfl) (da_cons (de_str [61]) da_nil)))
    (dss_cons (ds_set 2 sc_51.nd (de_meth0 (c := 1) rfl rfl (by show _ ∉ cFl 1; decide +kernel) (de_var 0) Z.cl_Reader Z.m_34 L.o_34 (hr.mono (Nat.le_succ _)) Z.b_34 (takes_of rfl rfl rfl rfl)))
    (dss_cons (ds_if (dw_or (dt_cmp (op_neG hr.units) os_ne (de_meth0 (c := 1) rfl rfl (by show _ ∉ cFl 1; decide +kernel) (de_var 0) Z.cl_Reader Z.m_33 L.o_33 (hr.mono (Nat.le_succ _)) Z.b_33 (takes_of rfl rfl rfl rfl)) (de_str [119, 111, 114, 100]) (nomark _)) (dw_or1 (dt_ninD rfl Z.d_FIGURE_PARTS Z.gd_FIGURE_PARTS (de_var 2)))).pt
    (dss_one (ds_ret (de_tup (da_cons (de_str [110, 117, 109, 98, 101, 114]) (da_cons (de_var 1) (da_cons (de_call L.o_41 (hr.mono (Nat.le_succ _)) Z.g_41 Z.f_41.kp Z.b_41 (takes_of rfl rfl rfl rfl) (da_cons (de_var 0) (da_cons de_int da_nil))) da_nil))))))
    dss_nil)
    (dss_cons (ds_exp (de_meth0 (c := 1) rfl rfl (by show _ ∉ cFl 1; decide +kernel) (de_var 0) Z.cl_Reader Z.m_36 L.o_36 (hr.mono (Nat.le_succ _)) Z.b_36 (takes_of rfl rfl rfl rfl)))
    (dss_one (ds_ret (de_tup (da_cons (de_var 2) (da_cons (de_var 1) (da_star rfl (de_call L.o_50 (hr.mono (Nat.le_succ _)) Z.g_50 Z.f_50.kp Z.b_50 (takes_of rfl rfl rfl rfl) (da_cons (de_var 0) (da_cons (de_getD rfl Z.d_FIGURE_PARTS Z.gd_FIGURE_PARTS (de_var 2)) da_nil))) da_nil)))))))))))
theorem ok_52 (Z : Fx K w mg) (L : Lv P w K mg base k G) : FnOk P w K mg base (L2.CX P w) (k + 2) (fAd K ("ask_of_numbers", none)) (fdAt K ("ask_of_numbers", none)) [("reader" : Str)] (SpD (su K) (c_52 G)) :=
  fn_D (S := su K) (N := [("reader" : Str), ("one" : Str), ("sign" : Str)]) (b := b_52 G) Z.f_52 sc_52 fun cdv A outer s H E hr => by
  exact (dss_cons (ds_set 1 sc_52.nd (de_call L.o_41 (hr.mono (Nat.le_succ _)) Z.g_41 Z.f_41.kp Z.b_41 (takes_of rfl rfl rfl rfl) (da_cons (de_var 0) (da_cons de_int da_nil))))
    (dss_cons (ds_if (dw_or (dt_cmp (op_neG hr.units) os_ne (de_meth0 (c := 1) rfl rfl (by show _ ∉ cFl 1; decide +kernel) (de_var 0) Z.cl_Reader Z.m_33 L.o_33 (hr.mono (Nat.le_succ _)) Z.b_33 (takes_of rfl rfl rfl rfl)) (de_str [115, 105, 103, 110]) (nomark _)) (dw_or1 (dt_ninD rfl Z.d_ASK_SIGNS Z.gd_ASK_SIGNS (de_meth0 (c := 1) rfl rfl (by show _ ∉ cFl 1; decide +kernel) (de_var 0) Z.cl_Reader Z.m_34 L.o_34 (hr.mono (Nat.le_succ _)) Z.b_34 (takes_of rfl rfl rfl rfl))))).pt
    (dss_one (ds_raise (c := 3) rfl rfl rfl tailEX PySem.F.excBase_Exception Z.x_Halt hr (takes_of rfl rfl rfl rfl) (da_cons (de_meth0 (c := 1) rfl rfl (by show _ ∉ cFl 1; decide +kernel) (de_var 0) Z.cl_Reader Z.m_32 L.o_32 (hr.mono (Nat.le_succ _)) Z.b_32 (takes_of rfl rfl rfl rfl)) da_nil)))
    dss_nil)
    (dss_cons (ds_set 2 sc_52.nd (de_meth0 (c := 1) rfl rfl (by show _ ∉ cFl 1; decide +kernel) (de_var 0) Z.cl_Reader Z.m_36 L.o_36 (hr.mono (Nat.le_succ _)) Z.b_36 (takes_of rfl rfl rfl rfl)))
    (dss_one (ds_ret (de_tup (da_cons (de_str [97, 115, 107]) (da_cons (de_tup (da_cons (de_var 2) (da_cons (de_var 1) (da_cons (de_call L.o_41 (hr.mono (Nat.le_succ _)) Z.g_41 Z.f_41.kp Z.b_41 (takes_of rfl rfl rfl rfl) (da_cons (de_var 0) (da_cons de_int da_nil))) da_nil)))) da_nil))))))))
theorem ok_53 (Z : Fx K w mg) (L : Lv P w K mg base k G) : FnOk P w K mg base (L2.CX P w) (k + 2) (fAd K ("ask_row", none)) (fdAt K ("ask_row", none)) [("reader" : Str)] (SpD (su K) (c_53 G)) :=
  fn_D (S := su K) (N := [("reader" : Str), ("word" : Str), ("parts" : Str)]) (b := b_53 G) Z.f_53 sc_53 fun cdv A outer s H E hr => by
  exact (dss_cons (ds_exp (de_meth (c := 1) rfl rfl (by show _ ∉ cFl 1; decide +kernel) (de_var 0) Z.cl_Reader Z.m_37 L.o_37 (hr.mono (Nat.le_succ _)) Z.b_37 (takes_of rfl rfl rfl rfl) (da_cons (de_str [97, 115, 107]) da_nil)))
    (dss_cons (ds_set 1 sc_53.nd (de_meth0 (c := 1) rfl rfl (by show _ ∉ cFl 1; decide +kernel) (de_var 0) Z.cl_Reader Z.m_34 L.o_34 (hr.mono (Nat.le_succ _)) Z.b_34 (takes_of rfl rfl rfl rfl)))
    (dss_cons (ds_if (dw_or (dt_cmp (op_neG hr.units) os_ne (de_meth0 (c := 1) rfl rfl (by show _ ∉ cFl 1; decide +kernel) (de_var 0) Z.cl_Reader Z.m_33 L.o_33 (hr.mono (Nat.le_succ _)) Z.b_33 (takes_of rfl rfl rfl rfl)) (de_str [119, 111, 114, 100]) (nomark _)) (dw_or1 (dt_ninD rfl Z.d_ASK_PARTS Z.gd_ASK_PARTS (de_var 1)))).pt
    (dss_one (ds_ret (de_call L.o_52 (hr.mono (Nat.le_succ _)) Z.g_52 Z.f_52.kp Z.b_52 (takes_of rfl rfl rfl rfl) (da_cons (de_var 0) da_nil))))
    dss_nil)
    (dss_cons (ds_exp (de_meth0 (c := 1) rfl rfl (by show _ ∉ cFl 1; decide +kernel) (de_var 0) Z.cl_Reader Z.m_36 L.o_36 (hr.mono (Nat.le_succ _)) Z.b_36 (takes_of rfl rfl rfl rfl)))
    (dss_cons (ds_set 2 sc_53.nd (de_call L.o_50 (hr.mono (Nat.le_succ _)) Z.g_50 Z.f_50.kp Z.b_50 (takes_of rfl rfl rfl rfl) (da_cons (de_var 0) (da_cons (de_getD rfl Z.d_ASK_PARTS Z.gd_ASK_PARTS (de_var 1)) da_nil))))
    (dss_one (ds_ret (de_tup (da_cons (de_str [97, 115, 107]) (da_cons (de_tup (da_cons (de_var 1) (da_star rfl (de_var 2) da_nil))) da_nil))))))))))
theorem ok_54 (Z : Fx K w mg) (L : Lv P w K mg base k G) : FnOk P w K mg base (L2.CX P w) (k + 2) (fAd K ("tell_row", none)) (fdAt K ("tell_row", none)) [("reader" : Str)] (SpD (su K) (c_54 G)) :=
  fn_D (S := su K) (N := [("reader" : Str), ("tree" : Str)]) (b := b_54 G) Z.f_54 sc_54 fun cdv A outer s H E hr => by
  exact (dss_cons (ds_exp (de_meth (c := 1) rfl rfl (by show _ ∉ cFl 1; decide +kernel) (de_var 0) Z.cl_Reader Z.m_37 L.o_37 (hr.mono (Nat.le_succ _)) Z.b_37 (takes_of rfl rfl rfl rfl) (da_cons (de_str [116, 101, 108, 108]) da_nil)))
    (dss_cons (ds_if (dt_val rfl (de_meth (c := 1) rfl rfl (by show _ ∉ cFl 1; decide +kernel) (de_var 0) Z.cl_Reader Z.m_35 L.o_35 (hr.mono (Nat.le_succ _)) Z.b_35 (takes_of rfl rfl rfl rfl) (da_cons (de_str [112, 111, 108, 121]) da_nil)))
    (dss_cons (ds_exp (de_meth0 (c := 1) rfl rfl (by show _ ∉ cFl 1; decide +kernel) (de_var 0) Z.cl_Reader Z.m_36 L.o_36 (hr.mono (Nat.le_succ _)) Z.b_36 (takes_of rfl rfl rfl rfl)))
    (dss_one (ds_ret (de_tup (da_cons (de_str [112, 111, 108, 121]) (da_cons (de_call L.o_41 (hr.mono (Nat.le_succ _)) Z.g_41 Z.f_41.kp Z.b_41 (takes_of rfl rfl rfl rfl) (da_cons (de_var 0) (da_cons de_int da_nil))) da_nil))))))
    dss_nil)
    (dss_cons (ds_set 1 sc_54.nd (de_call L.o_41 (hr.mono (Nat.le_succ _)) Z.g_41 Z.f_41.kp Z.b_41 (takes_of rfl rfl rfl rfl) (da_cons (de_var 0) (da_cons de_int da_nil))))
    (dss_cons (ds_exp (de_meth (c := 1) rfl rfl (by show _ ∉ cFl 1; decide +kernel) (de_var 0) Z.cl_Reader Z.m_37 L.o_37 (hr.mono (Nat.le_succ _)) Z.b_37 (takes_of rfl rfl rfl rfl) (da_cons (de_str [98, 121]) da_nil)))
    (dss_one (ds_ret (de_tup (da_cons (de_str [116, 101, 108, 108]) (da_cons (de_var 1) (da_cons (de_meth (c := 1) rfl rfl (by show _ ∉ cFl 1; decide +kernel) (de_var 0) Z.cl_Reader Z.m_40 L.o_40 (hr.mono (Nat.le_succ _)) Z.b_40 (takes_of rfl rfl rfl rfl) (da_cons de_int (da_cons (de_cst Z.c_MOST_PLACES) da_nil))) da_nil))))))))))
theorem ok_55 (Z : Fx K w mg) (L : Lv P w K mg base k G) : FnOk P w K mg base (L2.CX P w) (k + 2) (fAd K ("row_at", none)) (fdAt K ("row_at", none)) [("reader" : Str)] (SpD (su K) (c_55 G)) :=
  fn_D (S := su K) (N := [("reader" : Str), ("row" : Str)]) (b := b_55 G) Z.f_55 sc_55 fun cdv A outer s H E hr => by
  exact (dss_cons (ds_if (dt_val rfl (de_meth (c := 1) rfl rfl (by show _ ∉ cFl 1; decide +kernel) (de_var 0) Z.cl_Reader Z.m_35 L.o_35 (hr.mono (Nat.le_succ _)) Z.b_35 (takes_of rfl rfl rfl rfl) (da_cons (de_str [97, 115, 107]) da_nil)))
    (dss_one (ds_set 1 sc_55.nd (de_call L.o_53 (hr.mono (Nat.le_succ _)) Z.g_53 Z.f_53.kp Z.b_53 (takes_of rfl rfl rfl rfl) (da_cons (de_var 0) da_nil))))
    (dss_one (ds_if (dt_val rfl (de_meth (c := 1) rfl rfl (by show _ ∉ cFl 1; decide +kernel) (de_var 0) Z.cl_Reader Z.m_35 L.o_35 (hr.mono (Nat.le_succ _)) Z.b_35 (takes_of rfl rfl rfl rfl) (da_cons (de_str [116, 101, 108, 108]) da_nil)))
    (dss_one (ds_set 1 sc_55.nd (de_call L.o_54 (hr.mono (Nat.le_succ _)) Z.g_54 Z.f_54.kp Z.b_54 (takes_of rfl rfl rfl rfl) (da_cons (de_var 0) da_nil))))
    (dss_one (ds_set 1 sc_55.nd (de_call L.o_51 (hr.mono (Nat.le_succ _)) Z.g_51 Z.f_51.kp Z.b_51 (takes_of rfl rfl rfl rfl) (da_cons (de_var 0) da_nil)))))))
    (dss_cons (ds_exp (de_meth0 (c := 1) rfl rfl (by show _ ∉ cFl 1; decide +kernel) (de_var 0) Z.cl_Reader Z.m_38 L.o_38 (hr.mono (Nat.le_succ _)) Z.b_38 (takes_of rfl rfl rfl rfl)))
    (dss_one (ds_ret (de_var 1)))))
theorem ok_56 (Z : Fx K w mg) (L : Lv P w K mg base k G) : FnOk P w K mg base (L2.CX P w) (k + 2) (fAd K ("rows_at", none)) (fdAt K ("rows_at", none)) [("reader" : Str)] (SpD (su K) (c_56 G)) :=
  fn_D (S := su K) (N := [("reader" : Str), ("found" : Str)]) (b := b_56 G) Z.f_56 sc_56 fun cdv A outer s H E hr => by
  exact (dss_cons (ds_set 1 sc_56.nd (de_lst da_nil))
    (dss_cons (ds_while (passes_of rfl) (dt_not (dt_val rfl (de_meth0 (c := 1) rfl rfl (by show _ ∉ cFl 1; decide +kernel) (de_var 0) Z.cl_Reader Z.m_31 L.o_31 (hr.mono (Nat.le_succ _)) Z.b_31 (takes_of rfl rfl rfl rfl))))
    (dss_cons (ds_if (dt_cmp (op_eqG hr.units) os_eq (de_callB call_len cs_len Z.n_len (da_cons (de_var 1) da_nil)) (de_cst Z.c_MOST_ROWS) (nomark _))
    (dss_one (ds_raise (c := 3) rfl rfl rfl tailEX PySem.F.excBase_Exception Z.x_Halt hr (takes_of rfl rfl rfl rfl) (da_cons (de_meth0 (c := 1) rfl rfl (by show _ ∉ cFl 1; decide +kernel) (de_var 0) Z.cl_Reader Z.m_32 L.o_32 (hr.mono (Nat.le_succ _)) Z.b_32 (takes_of rfl rfl rfl rfl)) da_nil)))
    dss_nil)
    (dss_one (ds_exp (de_bm rfl PySem.F.slot_list_append PySem.F.type_list_append mt_append bs_app (de_var 1) (da_cons (de_call L.o_55 (hr.mono (Nat.le_succ _)) Z.g_55 Z.f_55.kp Z.b_55 (takes_of rfl rfl rfl rfl) (da_cons (de_var 0) da_nil)) da_nil))))))
    (dss_one (ds_ret (de_var 1)))))
theorem ok_57 (Z : Fx K w mg) (L : Lv P w K mg base k G) : FnOk P w K mg base (L2.CX P w) (k + 2) (fAd K ("read_by", none)) (fdAt K ("read_by", none)) [("text" : Str)] (SpD (su K) (c_57 G)) :=
  fn_D (S := su K) (N := [("text" : Str), ("found" : Str), ("halt" : Str)]) (b := b_57 G) Z.f_57 sc_57 fun cdv A outer s H E hr => by
  exact (dss_cons (ds_try (c := 3) (i := 2) rfl rfl rfl rfl rfl sc_57.nd rfl rfl Z.x_Halt (takes_of rfl rfl rfl rfl) (fun _ _ _ tk2 ps2 => (dss_one (ds_set 1 sc_57.nd (de_call L.o_56 (hr.mono (Nat.le_succ _)) Z.g_56 Z.f_56.kp Z.b_56 tk2 (da_cons (de_make (c := 1) rfl Z.mk_Reader L.o_30 hr Z.gc_Reader Z.b_30 tk2 (da_cons (de_var 0) da_nil)) da_nil))))) (Or.inl rfl))
    (dss_cons (ds_if (dw_and (dt_cmp (op_neG hr.units) os_ne (de_var 0) (de_str []) (nomark _)) (dw_and1 (dt_cmp (op_neG hr.units) os_ne (de_ix rfl (de_var 0) (de_un un_neg us_neg de_int)) (de_cst Z.c_LINE_END) (nomark _)))).pt
    (dss_one (ds_ret (de_tup (da_cons de_non (da_cons (de_callB call_len cs_len Z.n_len (da_cons (de_var 0) da_nil)) da_nil)))))
    dss_nil)
    (dss_one (ds_ret (de_tup (da_cons (de_callTy call_tuple_of cs_tup Z.n_tuple (da_cons (de_var 1) da_nil)) (da_cons de_non da_nil)))))))
theorem ok_58 (Z : Fx K w mg) (L : Lv P w K mg base k G) : FnOk P w K mg base (L2.CX P w) (k + 2) (fAd K ("check_text", none)) (fdAt K ("check_text", none)) [("value" : Str)] (SpD (su K) (c_58 G)) :=
  fn_D (S := su K) (N := [("value" : Str), ("plan" : Str), ("index" : Str)]) (b := b_58 G) Z.f_58 sc_58 fun cdv A outer s H E hr => by
  exact (dss_cons (ds_if (dt_not (dt_val rfl (de_isi 3 rfl Z.n_isinstance (de_var 0) Z.n_str)))
    (dss_one (ds_raise (c := 2) rfl rfl rfl tailVE PySem.F.excBase_ValueError Z.x_InvalidText hr (takes_of rfl rfl rfl rfl) (da_cons de_non da_nil)))
    dss_nil)
    (dss_cons (ds_asg (de_callQ L.o_57 (hr.mono (Nat.le_succ _)) Z.g_57 Z.f_57.kp Z.b_57 (takes_of rfl rfl rfl rfl) (da_cons (de_var 0) da_nil)) (dg_tup rfl rfl (dgs_cons (dg_name 1 sc_58.nd) (dgs_cons (dg_name 2 sc_58.nd) dgs_nil)) (gl1 (gl1 gl0))))
    (dss_cons (ds_if (dt_isN (de_var 1))
    (dss_one (ds_raise (c := 2) rfl rfl rfl tailVE PySem.F.excBase_ValueError Z.x_InvalidText hr (takes_of rfl rfl rfl rfl) (da_cons (de_var 2) da_nil)))
    dss_nil)
    (dss_one (ds_ret (de_var 1))))))
theorem ok_59 (Z : Fx K w mg) (L : Lv P w K mg base k G) : FnOk P w K mg base (L2.CX P w) (k + 2) (fAd K ("parted", none)) (fdAt K ("parted", none)) [("things" : Str), ("between" : Str)] (SpD (su K) (c_59 G)) :=
  fn_D (S := su K) (N := [("things" : Str), ("between" : Str), ("found" : Str), ("thing" : Str)]) (b := b_59 G) Z.f_59 sc_59 fun cdv A outer s H E hr => by
  exact (dss_cons (ds_set 2 sc_59.nd (de_lst da_nil))
    (dss_cons (ds_for (passes_of rfl) rfl (di_seq rfl (de_var 0)) (dg_name 3 sc_59.nd)
    (dss_cons (ds_if (dt_cmp (op_neG hr.units) os_ne (de_var 2) (de_lst da_nil) (nomark _))
    (dss_one (ds_exp (de_bm rfl PySem.F.slot_list_append PySem.F.type_list_append mt_append bs_app (de_var 2) (da_cons (de_var 1) da_nil))))
    dss_nil)
    (dss_one (ds_exp (de_bm rfl PySem.F.slot_list_append PySem.F.type_list_append mt_append bs_app (de_var 2) (da_cons (de_var 3) da_nil))))))
    (dss_one (ds_ret (de_var 2)))))
theorem ok_60 (Z : Fx K w mg) (L : Lv P w K mg base k G) : FnOk P w K mg base (L2.CX P w) (k + 2) (fAd K ("print_of", none)) (fdAt K ("print_of", none)) [("tree" : Str)] (SpD (su K) (c_60 G)) :=
  fn_D (S := su K) (N := [("tree" : Str), ("word" : Str), ("below" : Str), ("head" : Str)]) (b := b_60 G) Z.f_60 sc_60 fun cdv A outer s H E hr => by
  exact (dss_cons (ds_par 1 2 rfl sc_60.nd (da_cons (de_ix rfl (de_var 0) de_int) (da_cons (de_callP L.o_15 (hr.mono (Nat.le_succ _)) Z.g_15 Z.f_15.kp Z.b_15 (takes_of rfl rfl rfl rfl) (da_cons (de_var 0) da_nil)) da_nil)))
    (dss_cons (ds_if (dt_cmp (op_eqG hr.units) os_eq (de_var 1) (de_str [110, 117, 109, 101, 114, 97, 108]) (nomark _))
    (dss_one (ds_ret (de_lst (da_cons (de_callTy call_str_int cs_str Z.n_str (da_cons (de_ix rfl (de_var 0) de_int) da_nil)) da_nil))))
    dss_nil)
    (dss_cons (ds_if (dt_cmp (op_eqG hr.units) os_eq (de_var 1) (de_str [110, 97, 109, 101]) (nomark _))
    (dss_one (ds_ret (de_lst (da_cons (de_ix rfl (de_var 0) de_int) da_nil))))
    dss_nil)
    (dss_cons (ds_if (dt_cmp (op_eqG hr.units) os_eq (de_var 1) (de_str [109, 105, 110, 117, 115]) (nomark _))
    (dss_one (ds_ret (de_bin op_addG os_add (de_lst (da_cons (de_str [45]) da_nil)) (de_var 2))))
    dss_nil)
    (dss_cons (ds_if (dt_inD rfl Z.d_TERM_SIGNS Z.gd_TERM_SIGNS (de_var 1))
    (dss_one (ds_ret (de_call L.o_59 (hr.mono (Nat.le_succ _)) Z.g_59 Z.f_59.kp Z.b_59 (takes_of rfl rfl rfl rfl) (da_cons (de_var 2) (da_cons (de_joined (dj_cons (de_str [32]) (dj_cons (de_fmt (de_getD rfl Z.d_TERM_SIGNS Z.gd_TERM_SIGNS (de_var 1))) (dj_cons (de_str [32]) dj_nil)))) da_nil)))))
    dss_nil)
    (dss_cons (ds_if (dt_inD rfl Z.d_FACTOR_SIGNS Z.gd_FACTOR_SIGNS (de_var 1))
    (dss_one (ds_ret (de_call L.o_59 (hr.mono (Nat.le_succ _)) Z.g_59 Z.f_59.kp Z.b_59 (takes_of rfl rfl rfl rfl) (da_cons (de_var 2) (da_cons (de_joined (dj_cons (de_str [32]) (dj_cons (de_fmt (de_getD rfl Z.d_FACTOR_SIGNS Z.gd_FACTOR_SIGNS (de_var 1))) (dj_cons (de_str [32]) dj_nil)))) da_nil)))))
    dss_nil)
    (dss_cons (ds_if (dt_inD rfl Z.d_POINT_WORDS Z.gd_POINT_WORDS (de_var 1))
    (dss_one (ds_ret (de_lst (da_cons (de_var 1) (da_cons (de_str [40]) (da_cons (de_join rfl (de_str [44, 32]) (de_cut rfl (de_var 0) (do_some de_int) do_none)) (da_cons (de_str [41]) da_nil)))))))
    dss_nil)
    (dss_cons (ds_set 3 sc_60.nd (de_if (dt_cmp (op_eqG hr.units) os_eq (de_var 1) (de_str [114, 111, 111, 116]) (nomark _)) (de_joined (dj_cons (de_str [114, 111, 111, 116, 32]) (dj_cons (de_fmt (de_ix rfl (de_var 0) de_int)) (dj_cons (de_str [32, 40]) dj_nil)))) (de_str [115, 113, 114, 116, 40])))
    (dss_one (ds_ret (de_bin op_addG os_add (de_bin op_addG os_add (de_lst (da_cons (de_var 3) da_nil)) (de_call L.o_59 (hr.mono (Nat.le_succ _)) Z.g_59 Z.f_59.kp Z.b_59 (takes_of rfl rfl rfl rfl) (da_cons (de_var 2) (da_cons (de_str [44, 32]) da_nil)))) (de_lst (da_cons (de_str [41]) da_nil)))))))))))))
theorem ok_61 (Z : Fx K w mg) (L : Lv P w K mg base k G) : FnOk P w K mg base (L2.CX P w) (k + 2) (fAd K ("needed_print", none)) (fdAt K ("needed_print", none)) [("tree" : Str), ("need" : Str)] (SpD (su K) (c_61 G)) :=
  fn_D (S := su K) (N := [("tree" : Str), ("need" : Str), ("found" : Str)]) (b := b_61 G) Z.f_61 sc_61 fun cdv A outer s H E hr => by
  exact (dss_cons (ds_set 2 sc_61.nd (de_callP L.o_60 (hr.mono (Nat.le_succ _)) Z.g_60 Z.f_60.kp Z.b_60 (takes_of rfl rfl rfl rfl) (da_cons (de_var 0) da_nil)))
    (dss_one (ds_ret (de_if (dt_cmp op_lt os_cmp (de_call L.o_13 (hr.mono (Nat.le_succ _)) Z.g_13 Z.f_13.kp Z.b_13 (takes_of rfl rfl rfl rfl) (da_cons (de_ix rfl (de_var 0) de_int) da_nil)) (de_var 1) (nomark _)) (de_bin op_addG os_add (de_bin op_addG os_add (de_lst (da_cons (de_str [40]) da_nil)) (de_var 2)) (de_lst (da_cons (de_str [41]) da_nil))) (de_var 2)))))
theorem ok_62 (Z : Fx K w mg) (L : Lv P w K mg base k G) : FnOk P w K mg base (L2.CX P w) (k + 2) (fAd K ("tree_text", none)) (fdAt K ("tree_text", none)) [("tree" : Str)] (SpD (su K) (c_62 G)) :=
  fn_D (S := su K) (N := [("tree" : Str), ("found" : Str), ("left" : Str), ("thing" : Str)]) (b := b_62 G) Z.f_62 sc_62 fun cdv A outer s H E hr => by
  exact (dss_cons (ds_par 1 2 rfl sc_62.nd (da_cons (de_lst da_nil) (da_cons (de_lst (da_cons (de_tup (da_cons (de_var 0) (da_cons de_int da_nil))) da_nil)) da_nil)))
    (dss_cons (ds_while (passes_of rfl) (dt_cmp (op_neG hr.units) os_ne (de_var 2) (de_lst da_nil) (nomark _))
    (dss_cons (ds_set 3 sc_62.nd (de_bm0 rfl PySem.F.slot_list_pop PySem.F.type_list_pop mt_pop bs_pop (de_var 2)))
    (dss_one (ds_if (dt_val rfl (de_isi 3 rfl Z.n_isinstance (de_var 3) Z.n_str))
    (dss_one (ds_exp (de_bm rfl PySem.F.slot_list_append PySem.F.type_list_append mt_append bs_app (de_var 1) (da_cons (de_var 3) da_nil))))
    (dss_one (ds_exp (de_bm rfl PySem.F.slot_list_extend PySem.F.type_list_extend mt_extend bs_ext (de_var 2) (da_cons (de_lstRev rfl rfl Z.n_list Z.n_reversed (de_callP L.o_61 (hr.mono (Nat.le_succ _)) Z.g_61 Z.f_61.kp Z.b_61 (takes_of rfl rfl rfl rfl) (da_cons (de_ix rfl (de_var 3) de_int) (da_cons (de_ix rfl (de_var 3) de_int) da_nil)))) da_nil))))))))
    (dss_one (ds_ret (de_join rfl (de_str []) (de_var 1))))))
theorem ok_63 (Z : Fx K w mg) (L : Lv P w K mg base k G) : FnOk P w K mg base (L2.CX P w) (k + 2) (fAd K ("part_text", none)) (fdAt K ("part_text", none)) [("part" : Str)] (SpD (su K) (c_63 G)) :=
  fn_D (S := su K) (N := [("part" : Str)]) (b := b_63 G) Z.f_63 sc_63 fun cdv A outer s H E hr => by
  exact (dss_cons (ds_if (dt_val rfl (de_isi 4 rfl Z.n_isinstance (de_var 0) Z.n_tuple))
    (dss_one (ds_ret (de_callQ L.o_62 (hr.mono (Nat.le_succ _)) Z.g_62 Z.f_62.kp Z.b_62 (takes_of rfl rfl rfl rfl) (da_cons (de_var 0) da_nil))))
    dss_nil)
    (dss_one (ds_ret (de_callTy call_str_int cs_str Z.n_str (da_cons (de_var 0) da_nil)))))
theorem ok_64 (Z : Fx K w mg) (L : Lv P w K mg base k G) : FnOk P w K mg base (L2.CX P w) (k + 2) (fAd K ("parts_text", none)) (fdAt K ("parts_text", none)) [("word" : Str), ("parts" : Str)] (SpD (su K) (c_64 G)) :=
  fn_D (S := su K) (N := [("word" : Str), ("parts" : Str), ("told" : Str), ("part" : Str)]) (b := b_64 G) Z.f_64 sc_64 fun cdv A outer s H E hr => by
  exact (dss_cons (ds_set 2 sc_64.nd (de_join rfl (de_str [44, 32]) (de_lc (t := (.nm 3)) rfl rfl sc_64.nd (di_seq rfl (de_var 1)) (blkOk_by (own := [(("part" : Str), 3)]) (by show blkC [("word" : Str), ("parts" : Str), ("told" : Str), ("part" : Str)] (defScope s_64) _ _ = true; decide +kernel)) (fun _ _ _ _ _ => (pg_name (i := 3) sc_64.nd rfl (Or.inl rfl))) (fun _ _ _ _ _ => dt_yes) (fun _ _ _ _ _ => (de_callQ L.o_63 (hr.mono (Nat.le_succ _)) Z.g_63 Z.f_63.kp Z.b_63 takes0 (da_cons (de_var 3) da_nil))))))
    (dss_one (ds_ret (de_joined (dj_cons (de_fmt (de_var 0)) (dj_cons (de_str [40]) (dj_cons (de_fmt (de_var 2)) (dj_cons (de_str [41]) dj_nil))))))))
theorem ok_65 (Z : Fx K w mg) (L : Lv P w K mg base k G) : FnOk P w K mg base (L2.CX P w) (k + 2) (fAd K ("ask_text", none)) (fdAt K ("ask_text", none)) [("thing" : Str)] (SpD (su K) (c_65 G)) :=
  fn_D (S := su K) (N := [("thing" : Str)]) (b := b_65 G) Z.f_65 sc_65 fun cdv A outer s H E hr => by
  exact (dss_cons (ds_if (dt_inD rfl Z.d_ASK_SIGNS Z.gd_ASK_SIGNS (de_ix rfl (de_var 0) de_int))
    (dss_one (ds_ret (de_joined (dj_cons (de_fmt (de_callQ L.o_62 (hr.mono (Nat.le_succ _)) Z.g_62 Z.f_62.kp Z.b_62 (takes_of rfl rfl rfl rfl) (da_cons (de_ix rfl (de_var 0) de_int) da_nil))) (dj_cons (de_str [32]) (dj_cons (de_fmt (de_ix rfl (de_var 0) de_int)) (dj_cons (de_str [32]) (dj_cons (de_fmt (de_callQ L.o_62 (hr.mono (Nat.le_succ _)) Z.g_62 Z.f_62.kp Z.b_62 (takes_of rfl rfl rfl rfl) (da_cons (de_ix rfl (de_var 0) de_int) da_nil))) dj_nil))))))))
    dss_nil)
    (dss_one (ds_ret (de_callQ L.o_64 (hr.mono (Nat.le_succ _)) Z.g_64 Z.f_64.kp Z.b_64 (takes_of rfl rfl rfl rfl) (da_cons (de_ix rfl (de_var 0) de_int) (da_cons (de_cut rfl (de_var 0) (do_some de_int) do_none) da_nil))))))
theorem ok_66 (Z : Fx K w mg) (L : Lv P w K mg base k G) : FnOk P w K mg base (L2.CX P w) (k + 2) (fAd K ("row_text", none)) (fdAt K ("row_text", none)) [("row" : Str)] (SpD (su K) (c_66 G)) :=
  fn_D (S := su K) (N := [("row" : Str)]) (b := b_66 G) Z.f_66 sc_66 fun cdv A outer s H E hr => by
  exact (dss_cons (ds_if (dt_cmp (op_eqG hr.units) os_eq (de_ix rfl (de_var 0) de_int) (de_str [110, 117, 109, 98, 101, 114]) (nomark _))
    (dss_one (ds_ret (de_joined (dj_cons (de_fmt (de_ix rfl (de_var 0) de_int)) (dj_cons (de_str [32, 61, 32]) (dj_cons (de_fmt (de_callQ L.o_62 (hr.mono (Nat.le_succ _)) Z.g_62 Z.f_62.kp Z.b_62 (takes_of rfl rfl rfl rfl) (da_cons (de_ix rfl (de_var 0) de_int) da_nil))) dj_nil))))))
    dss_nil)
    (dss_cons (ds_if (dt_cmp (op_eqG hr.units) os_eq (de_ix rfl (de_var 0) de_int) (de_str [97, 115, 107]) (nomark _))
    (dss_one (ds_ret (de_joined (dj_cons (de_str [97, 115, 107, 32]) (dj_cons (de_fmt (de_callQ L.o_65 (hr.mono (Nat.le_succ _)) Z.g_65 Z.f_65.kp Z.b_65 (takes_of rfl rfl rfl rfl) (da_cons (de_ix rfl (de_var 0) de_int) da_nil))) dj_nil)))))
    dss_nil)
    (dss_cons (ds_if (dt_cmp (op_eqG hr.units) os_eq (de_ix rfl (de_var 0) de_int) (de_str [116, 101, 108, 108]) (nomark _))
    (dss_one (ds_ret (de_joined (dj_cons (de_str [116, 101, 108, 108, 32]) (dj_cons (de_fmt (de_callQ L.o_62 (hr.mono (Nat.le_succ _)) Z.g_62 Z.f_62.kp Z.b_62 (takes_of rfl rfl rfl rfl) (da_cons (de_ix rfl (de_var 0) de_int) da_nil))) (dj_cons (de_str [32, 98, 121, 32]) (dj_cons (de_fmt (de_ix rfl (de_var 0) de_int)) dj_nil)))))))
    dss_nil)
    (dss_cons (ds_if (dt_cmp (op_eqG hr.units) os_eq (de_ix rfl (de_var 0) de_int) (de_str [112, 111, 108, 121]) (nomark _))
    (dss_one (ds_ret (de_joined (dj_cons (de_str [116, 101, 108, 108, 32, 112, 111, 108, 121, 32]) (dj_cons (de_fmt (de_callQ L.o_62 (hr.mono (Nat.le_succ _)) Z.g_62 Z.f_62.kp Z.b_62 (takes_of rfl rfl rfl rfl) (da_cons (de_ix rfl (de_var 0) de_int) da_nil))) dj_nil)))))
    dss_nil)
    (dss_one (ds_ret (de_joined (dj_cons (de_fmt (de_ix rfl (de_var 0) de_int)) (dj_cons (de_str [32, 61, 32]) (dj_cons (de_fmt (de_callQ L.o_64 (hr.mono (Nat.le_succ _)) Z.g_64 Z.f_64.kp Z.b_64 (takes_of rfl rfl rfl rfl) (da_cons (de_ix rfl (de_var 0) de_int) (da_cons (de_cut rfl (de_var 0) (do_some de_int) do_none) da_nil)))) dj_nil))))))))))
theorem ok_67 (Z : Fx K w mg) (L : Lv P w K mg base k G) : FnOk P w K mg base (L2.CX P w) (k + 2) (fAd K ("written_by", none)) (fdAt K ("written_by", none)) [("plan" : Str)] (SpD (su K) (c_67 G)) :=
  fn_D (S := su K) (N := [("plan" : Str), ("row" : Str)]) (b := b_67 G) Z.f_67 sc_67 fun cdv A outer s H E hr => by
  exact (dss_one (ds_ret (de_join rfl (de_str []) (de_lc (t := (.nm 1)) rfl rfl sc_67.nd (di_seq rfl (de_var 0)) (blkOk_by (own := [(("row" : Str), 1)]) (by show blkC [("plan" : Str), ("row" : Str)] (defScope s_67) _ _ = true; decide +kernel)) (fun _ _ _ _ _ => (pg_name (i := 1) sc_67.nd rfl (Or.inl rfl))) (fun _ _ _ _ _ => dt_yes) (fun _ _ _ _ _ => (de_joined (dj_cons (de_fmt (de_callQ L.o_66 (hr.mono (Nat.le_succ _)) Z.g_66 Z.f_66.kp Z.b_66 takes0 (da_cons (de_var 1) da_nil))) (dj_cons (de_fmt (de_cst Z.c_LINE_END)) dj_nil))))))))
theorem ok_68 (Z : Fx K w mg) (L : Lv P w K mg base k G) : FnOk P w K mg base (L2.CX P w) (k + 2) (fAd K ("check_string", none)) (fdAt K ("check_string", none)) [("value" : Str)] (SpD (su K) (c_68 G)) :=
  fn_D (S := su K) (N := [("value" : Str)]) (b := b_68 G) Z.f_68 sc_68 fun cdv A outer s H E hr => by
  exact (dss_one (ds_if (dt_not (dt_val rfl (de_isi 3 rfl Z.n_isinstance (de_var 0) Z.n_str)))
    (dss_one (ds_raise (c := 2) rfl rfl rfl tailVE PySem.F.excBase_ValueError Z.x_InvalidText hr (takes_of rfl rfl rfl rfl) (da_cons de_non da_nil)))
    dss_nil))
theorem ok_69 (Z : Fx K w mg) (L : Lv P w K mg base k G) : FnOk P w K mg base (L2.CX P w) (k + 2) (fAd K ("first_place", none)) (fdAt K ("first_place", none)) [("text" : Str)] (SpD (su K) (c_69 G)) :=
  fn_D (S := su K) (N := [("text" : Str)]) (b := b_69 G) Z.f_69 sc_69 fun cdv A outer s H E hr => by
  exact (dss_cons (ds_exp (de_callQ L.o_68 (hr.mono (Nat.le_succ _)) Z.g_68 Z.f_68.kp Z.b_68 (takes_of rfl rfl rfl rfl) (da_cons (de_var 0) da_nil)))
    (dss_one (ds_ret (de_ix rfl (de_callQ L.o_57 (hr.mono (Nat.le_succ _)) Z.g_57 Z.f_57.kp Z.b_57 (takes_of rfl rfl rfl rfl) (da_cons (de_var 0) da_nil)) de_int))))
theorem ok_70 (Z : Fx K w mg) (L : Lv P w K mg base k G) : FnOk P w K mg base (L2.CX P w) (k + 2) (fAd K ("read", none)) (fdAt K ("read", none)) [("text" : Str)] (SpD (su K) (c_70 G)) :=
  fn_D (S := su K) (N := [("text" : Str)]) (b := b_70 G) Z.f_70 sc_70 fun cdv A outer s H E hr => by
  exact (dss_one (ds_ret (de_callQ L.o_58 (hr.mono (Nat.le_succ _)) Z.g_58 Z.f_58.kp Z.b_58 (takes_of rfl rfl rfl rfl) (da_cons (de_var 0) da_nil))))
theorem ok_71 (Z : Fx K w mg) (L : Lv P w K mg base k G) : FnOk P w K mg base (L2.CX P w) (k + 2) (fAd K ("is_plan", none)) (fdAt K ("is_plan", none)) [("value" : Str)] (SpD (su K) (c_71 G)) :=
  fn_D (S := su K) (N := [("value" : Str)]) (b := b_71 G) Z.f_71 sc_71 fun cdv A outer s H E hr => by
  exact (dss_one (ds_ret (de_isN (de_callQ L.o_29 (hr.mono (Nat.le_succ _)) Z.g_29 Z.f_29.kp Z.b_29 (takes_of rfl rfl rfl rfl) (da_cons (de_var 0) da_nil)))))
theorem ok_72 (Z : Fx K w mg) (L : Lv P w K mg base k G) : FnOk P w K mg base (L2.CX P w) (k + 2) (fAd K ("tidy", none)) (fdAt K ("tidy", none)) [("text" : Str)] (SpD (su K) (c_72 G)) :=
  fn_D (S := su K) (N := [("text" : Str)]) (b := b_72 G) Z.f_72 sc_72 fun cdv A outer s H E hr => by
  exact (dss_one (ds_ret (de_callQ L.o_67 (hr.mono (Nat.le_succ _)) Z.g_67 Z.f_67.kp Z.b_67 (takes_of rfl rfl rfl rfl) (da_cons (de_callQ L.o_58 (hr.mono (Nat.le_succ _)) Z.g_58 Z.f_58.kp Z.b_58 (takes_of rfl rfl rfl rfl) (da_cons (de_var 0) da_nil)) da_nil))))
theorem ok_73 (Z : Fx K w mg) (L : Lv P w K mg base k G) : FnOk P w K mg base (L2.CX P w) (k + 2) (fAd K ("_law_forge", none)) (fdAt K ("_law_forge", none)) [("script" : Str), ("lap" : Str)] (SpD (su K) (c_73 G)) :=
  fn_D (S := su K) (N := [("script" : Str), ("lap" : Str), ("own" : Str), ("deep" : Str), ("place" : Str), ("cell" : Str)]) (b := b_73 G) Z.f_73 sc_73 fun cdv A outer s H E hr => by
  exact (dss_cons (ds_set 2 sc_73.nd (de_if (dt_cmp op_lt os_cmp (de_var 1) (de_callB call_len cs_len Z.n_len (da_cons (de_var 0) da_nil)) (nomark _)) (de_callTy call_intG cs_int Z.n_int (da_cons (de_ix rfl (de_var 0) (de_var 1)) da_nil)) (de_bin op_addG os_add de_int (de_bin op_mulG os_mul de_int (de_var 1)))))
    (dss_cons (ds_set 3 sc_73.nd (de_bin op_addG os_add de_int (de_bin op_mulG os_mul de_int (de_var 1))))
    (dss_cons (ds_for (passes_of rfl) rfl (di_enmA rfl (da_cons (de_cut rfl (de_var 0) do_none (do_some de_int)) da_nil) Z.n_enumerate) (dg_tup rfl rfl (dgs_cons (dg_name 4 sc_73.nd) (dgs_cons (dg_name 5 sc_73.nd) dgs_nil)) (gl1 (gl1 gl0)))
    (dss_one (ds_set 3 sc_73.nd (de_bin op_mod os_mod (de_callTy call_intG cs_int Z.n_int (da_cons (de_bin op_addG os_add (de_bin op_addG os_add (de_bin op_mulG os_mul (de_var 3) de_int) (de_bin op_mulG os_mul (de_bin op_mod os_mod (de_callTy call_intG cs_int Z.n_int (da_cons (de_var 5) da_nil)) de_int) (de_bin op_addG os_add (de_bin op_mulG os_mul de_int (de_var 4)) de_int))) de_int) da_nil)) de_int))))
    (dss_cons (ds_set 3 sc_73.nd (de_bin op_mod os_mod (de_callTy call_intG cs_int Z.n_int (da_cons (de_bin op_addG os_add (de_bin op_addG os_add (de_bin op_mulG os_mul (de_var 3) de_int) (de_bin op_mod os_mod (de_var 2) de_int)) de_int) da_nil)) de_int))
    (dss_one (ds_ret (de_lst (da_cons (de_if (dw_or (dt_cmp op_lt os_cmp (de_var 2) de_int (nomark _)) (dw_or1 (dt_cmp op_ge os_cmp (de_var 2) (de_bin op_pow os_pow de_int de_int) (nomark _)))).pt (de_bin op_mod os_mod (de_callTy call_intG cs_int Z.n_int (da_cons (de_callB call_abs cs_abs Z.n_abs (da_cons (de_var 2) da_nil)) da_nil)) (de_bin op_pow os_pow de_int de_int)) de_int) (da_cons (de_var 3) da_nil)))))))))
theorem ok_74 (Z : Fx K w mg) (L : Lv P w K mg base k G) : FnOk P w K mg base (L2.CX P w) (k + 2) (fAd K ("_law_strike", none)) (fdAt K ("_law_strike", none)) [("forge" : Str), ("many" : Str)] (SpD (su K) (c_74 G)) :=
  fn_D (S := su K) (N := [("forge" : Str), ("many" : Str), ("told" : Str)]) (b := b_74 G) Z.f_74 sc_74 fun cdv A outer s H E hr => by
  exact (dss_cons (ds_if (dt_cmp op_gt os_cmp (de_ix rfl (de_var 0) de_int) de_int (nomark _))
    (dss_cons (ds_asg (de_callB call_divmod cs_dm Z.n_divmod (da_cons (de_ix rfl (de_var 0) de_int) (da_cons (de_var 1) da_nil))) (dg_tup rfl rfl (dgs_cons (dg_sub (de_var 0) de_int) (dgs_cons (dg_name 2 sc_74.nd) dgs_nil)) (gl1 (gl1 gl0))))
    (dss_one (ds_ret (de_var 2))))
    dss_nil)
    (dss_cons (ds_asg (de_bin op_mod os_mod (de_callTy call_intG cs_int Z.n_int (da_cons (de_bin op_addG os_add (de_bin op_mulG os_mul (de_ix rfl (de_var 0) de_int) de_int) de_int) da_nil)) de_int) (dg_sub (de_var 0) de_int))
    (dss_one (ds_ret (de_bin op_mod os_mod (de_callTy call_intG cs_int Z.n_int (da_cons (de_bin op_fdivW os_div (de_ix rfl (de_var 0) de_int) de_int) da_nil)) (de_var 1))))))
theorem ok_75 (Z : Fx K w mg) (L : Lv P w K mg base k G) : FnOk P w K mg base (L2.CX P w) (k + 2) (fAd K ("_law_pick", none)) (fdAt K ("_law_pick", none)) [("forge" : Str), ("things" : Str)] (SpD (su K) (c_75 G)) :=
  fn_D (S := su K) (N := [("forge" : Str), ("things" : Str)]) (b := b_75 G) Z.f_75 sc_75 fun cdv A outer s H E hr => by
  exact (dss_one (ds_ret (de_ix rfl (de_var 1) (de_callL L.o_74 (hr.mono (Nat.le_succ _)) Z.g_74 Z.f_74.kp Z.b_74 (takes_of rfl rfl rfl rfl) (da_cons (de_var 0) (da_cons (de_callB call_len cs_len Z.n_len (da_cons (de_var 1) da_nil)) da_nil))))))
theorem ok_76 (Z : Fx K w mg) (L : Lv P w K mg base k G) : FnOk P w K mg base (L2.CX P w) (k + 2) (fAd K ("_law_are_same", none)) (fdAt K ("_law_are_same", none)) [("told" : Str), ("due" : Str)] (SpD (su K) (c_76 G)) :=
  fn_D (S := su K) (N := [("told" : Str), ("due" : Str), ("one" : Str), ("two" : Str)]) (b := b_76 G) Z.f_76 sc_76 fun cdv A outer s H E hr => by
  exact (dss_cons (ds_if (dw_or (dt_not (dt_val rfl (de_isi2 4 5 rfl Z.n_isinstance (de_var 0) Z.n_tuple Z.n_list))) (dw_or1 (dt_cmp (op_neG hr.units) os_ne (de_callB call_len cs_len Z.n_len (da_cons (de_var 0) da_nil)) (de_callB call_len cs_len Z.n_len (da_cons (de_var 1) da_nil)) (nomark _)))).pt
    (dss_one (ds_ret de_bl))
    dss_nil)
    (dss_one (ds_ret (de_cmp op_notInG (os_in true) de_bl (de_lc (t := (.tp [2, 3])) rfl rfl sc_76.nd (di_zip rfl (da_cons (de_var 0) (da_cons (de_var 1) da_nil)) Z.n_zip) (blkOk_by (own := [(("one" : Str), 2), (("two" : Str), 3)]) (by show blkC [("told" : Str), ("due" : Str), ("one" : Str), ("two" : Str)] (defScope s_76) _ _ = true; decide +kernel)) (fun _ _ _ _ _ => (pg_tup rfl (pgs_cons (pg_name (i := 2) sc_76.nd rfl (Or.inl rfl)) (pgs_cons (pg_name (i := 3) sc_76.nd rfl (Or.inl rfl)) pgs_nil)))) (fun _ _ _ _ _ => dt_yes) (fun _ _ _ _ _ => (de_callQ L.o_77 (hr.mono (Nat.le_succ _)) Z.g_77 Z.f_77.kp Z.b_77 takes0 (da_cons (de_var 2) (da_cons (de_var 3) da_nil))))) rfl))))
theorem ok_77 (Z : Fx K w mg) (L : Lv P w K mg base k G) : FnOk P w K mg base (L2.CX P w) (k + 2) (fAd K ("_law_same", none)) (fdAt K ("_law_same", none)) [("told" : Str), ("due" : Str)] (SpD (su K) (c_77 G)) :=
  fn_D (S := su K) (N := [("told" : Str), ("due" : Str)]) (b := b_77 G) Z.f_77 sc_77 fun cdv A outer s H E hr => by
  exact (dss_cons (ds_if (dt_val rfl (de_isi2 4 5 rfl Z.n_isinstance (de_var 1) Z.n_tuple Z.n_list))
    (dss_one (ds_ret (de_and (de_cmp (op_eqG hr.units) os_eq (de_isi 5 rfl Z.n_isinstance (de_var 0) Z.n_list) (de_isi 5 rfl Z.n_isinstance (de_var 1) Z.n_list) (nomark _)) (de_one (de_callQ L.o_76 (hr.mono (Nat.le_succ _)) Z.g_76 Z.f_76.kp Z.b_76 (takes_of rfl rfl rfl rfl) (da_cons (de_var 0) (da_cons (de_var 1) da_nil)))))))
    dss_nil)
    (dss_cons (ds_if (dw_or (dt_isN (de_var 1)) (dw_or1 (dt_val rfl (de_isi 1 rfl Z.n_isinstance (de_var 1) Z.n_bool)))).pt
    (dss_one (ds_ret (de_if (dt_isN (de_var 1)) (de_isN (de_var 0)) (de_and (de_isi 1 rfl Z.n_isinstance (de_var 0) Z.n_bool) (de_one (de_cmp (op_eqG hr.units) os_eq (de_var 0) (de_var 1) (nomark _)))))))
    dss_nil)
    (dss_cons (ds_if (dt_val rfl (de_isi 2 rfl Z.n_isinstance (de_var 1) Z.n_int))
    (dss_one (ds_ret (de_and (de_isi 2 rfl Z.n_isinstance (de_var 0) Z.n_int) (de_and (de_not (de_isi 1 rfl Z.n_isinstance (de_var 0) Z.n_bool)) (de_one (de_cmp (op_eqG hr.units) os_eq (de_var 0) (de_var 1) (nomark _)))))))
    dss_nil)
    (dss_one (ds_ret (de_and (de_isi 3 rfl Z.n_isinstance (de_var 0) Z.n_str) (de_and (de_isi 3 rfl Z.n_isinstance (de_var 1) Z.n_str) (de_one (de_cmp (op_eqG hr.units) os_eq (de_var 0) (de_var 1) (nomark _))))))))))
theorem ok_78 (Z : Fx K w mg) (L : Lv P w K mg base k G) : FnOk P w K mg base (L2.CX P w) (k + 2) (fAd K ("_law_place", none)) (fdAt K ("_law_place", none)) [("text" : Str)] (SpD (su K) (c_78 G)) :=
  fn_D (S := su K) (N := [("text" : Str)]) (b := b_78 G) Z.f_78 sc_78 fun cdv A outer s H E hr => by
  exact (dss_one (ds_ret (de_callQ L.o_69 (hr.mono (Nat.le_succ _)) Z.g_69 Z.f_69.kp Z.b_69 (takes_of rfl rfl rfl rfl) (da_cons (de_var 0) da_nil))))
theorem ok_79 (Z : Fx K w mg) (L : Lv P w K mg base k G) : FnOk P w K mg base (L2.CX P w) (k + 2) (fAd K ("_law_row", none)) (fdAt K ("_law_row", none)) [("tree" : Str)] (SpD (su K) (c_79 G)) :=
  fn_D (S := su K) (N := [("tree" : Str)]) (b := b_79 G) Z.f_79 sc_79 fun cdv A outer s H E hr => by
  exact (dss_one (ds_ret (de_bin op_addG os_add (de_bin op_addG os_add (de_str [113, 32, 61, 32]) (de_var 0)) (de_str [10]))))
theorem ok_80 (Z : Fx K w mg) (L : Lv P w K mg base k G) : FnOk P w K mg base (L2.CX P w) (k + 2) (fAd K ("_law_right", none)) (fdAt K ("_law_right", none)) [("forge" : Str)] (SpD (su K) (c_80 G)) :=
  fn_D (S := su K) (N := [("forge" : Str), ("lap" : Str), ("rows" : Str), ("text" : Str), ("sign" : Str), ("many" : Str), ("fine" : Str), ("long" : Str), ("last" : Str), ("front" : Str), ("behind" : Str), ("twelve" : Str), ("more" : Str), ("place" : Str), ("word" : Str), ("some" : Str), ("name" : Str), ("due" : Str), ("number" : Str), ("said" : Str), ("at" : Str)]) (b := b_80 G) Z.f_80 sc_80 fun cdv A outer s H E hr => by
  exact (dss_cons (ds_for (passes_of rfl) rfl (di_rng1 (da_cons de_int da_nil) Z.n_range) (dg_name 1 sc_80.nd)
    (dss_cons (ds_setLc 2 (t := (.nm 20)) rfl rfl sc_80.nd (di_rng1 (da_cons de_int da_nil) Z.n_range) (blkOk_by (own := [(("at" : Str), 20)]) (by show blkC [("forge" : Str), ("lap" : Str), ("rows" : Str), ("text" : Str), ("sign" : Str), ("many" : Str), ("fine" : Str), ("long" : Str), ("last" : Str), ("front" : Str), ("behind" : Str), ("twelve" : Str), ("more" : Str), ("place" : Str), ("word" : Str), ("some" : Str), ("name" : Str), ("due" : Str), ("number" : Str), ("said" : Str), ("at" : Str)] (defScope s_80) _ _ = true; decide +kernel)) (fun _ _ _ _ _ => (pg_name (i := 20) sc_80.nd rfl (Or.inl rfl))) (fun _ _ _ _ _ => dt_yes) (fun _ _ _ _ _ => (de_bin op_addG os_add (de_bin op_addG os_add (de_bin op_addG os_add (de_bin op_addG os_add (de_str [110]) (de_callTy call_str_int cs_str Z.n_str (da_cons (de_var 20) da_nil))) (de_str [32, 61, 32])) (de_callTy call_str_int cs_str Z.n_str (da_cons (de_var 20) da_nil))) (de_str [10]))) (sw_true rfl rfl rfl rfl))
    (dss_cons (ds_set 3 sc_80.nd (de_join rfl (de_str []) (de_cut rfl (de_var 2) do_none (do_some de_int))))
    (dss_cons (ds_if (dt_not (dt_val rfl (de_callQ L.o_77 (hr.mono (Nat.le_succ _)) Z.g_77 Z.f_77.kp Z.b_77 (takes_of rfl rfl rfl rfl) (da_cons (de_tup (da_cons (de_callQ L.o_78 (hr.mono (Nat.le_succ _)) Z.g_78 Z.f_78.kp Z.b_78 (takes_of rfl rfl rfl rfl) (da_cons (de_var 3) da_nil)) (da_cons (de_callB call_len cs_len Z.n_len (da_cons (de_callQ L.o_70 (hr.mono (Nat.le_succ _)) Z.g_70 Z.f_70.kp Z.b_70 (takes_of rfl rfl rfl rfl) (da_cons (de_var 3) da_nil)) da_nil)) (da_cons (de_callQ L.o_78 (hr.mono (Nat.le_succ _)) Z.g_78 Z.f_78.kp Z.b_78 (takes_of rfl rfl rfl rfl) (da_cons (de_bin op_addG os_add (de_var 3) (de_ix rfl (de_var 2) de_int)) da_nil)) (da_cons (de_callQ L.o_71 (hr.mono (Nat.le_succ _)) Z.g_71 Z.f_71.kp Z.b_71 (takes_of rfl rfl rfl rfl) (da_cons (de_callQ L.o_70 (hr.mono (Nat.le_succ _)) Z.g_70 Z.f_70.kp Z.b_70 (takes_of rfl rfl rfl rfl) (da_cons (de_var 3) da_nil)) da_nil)) da_nil))))) (da_cons (de_tup (da_cons de_non (da_cons de_int (da_cons (de_callB call_len cs_len Z.n_len (da_cons (de_var 3) da_nil)) (da_cons de_bl da_nil))))) da_nil)))))
    (dss_one (ds_ret de_bl))
    dss_nil)
    (dss_cons (ds_set 4 sc_80.nd (de_callL L.o_75 (hr.mono (Nat.le_succ _)) Z.g_75 Z.f_75.kp Z.b_75 (takes_of rfl rfl rfl rfl) (da_cons (de_var 0) (da_cons (de_tup (da_cons (de_tup (da_cons (de_str [32, 43, 32]) (da_cons (de_str [32, 45, 32]) da_nil))) (da_cons (de_tup (da_cons (de_str [32, 42, 32]) (da_cons (de_str [32, 47, 32]) da_nil))) da_nil))) da_nil))))
    (dss_cons (ds_setLc 5 (t := (.nm 20)) rfl rfl sc_80.nd (di_rng1 (da_cons de_int da_nil) Z.n_range) (blkOk_by (own := [(("at" : Str), 20)]) (by show blkC [("forge" : Str), ("lap" : Str), ("rows" : Str), ("text" : Str), ("sign" : Str), ("many" : Str), ("fine" : Str), ("long" : Str), ("last" : Str), ("front" : Str), ("behind" : Str), ("twelve" : Str), ("more" : Str), ("place" : Str), ("word" : Str), ("some" : Str), ("name" : Str), ("due" : Str), ("number" : Str), ("said" : Str), ("at" : Str)] (defScope s_80) _ _ = true; decide +kernel)) (fun _ _ _ _ _ => (pg_name (i := 20) sc_80.nd rfl (Or.inl rfl))) (fun _ _ _ _ _ => dt_yes) (fun _ _ _ _ _ => (de_bin op_addG os_add (de_callL L.o_75 (hr.mono (Nat.le_succ _)) Z.g_75 Z.f_75.kp Z.b_75 takes0 (da_cons (de_var 0) (da_cons (de_tup (da_cons (de_str [49]) (da_cons (de_str [110]) (da_cons (de_str [50]) da_nil)))) da_nil))) (de_callL L.o_75 (hr.mono (Nat.le_succ _)) Z.g_75 Z.f_75.kp Z.b_75 takes0 (da_cons (de_var 0) (da_cons (de_var 4) da_nil))))) (sw_true rfl rfl rfl rfl))
    (dss_cons (ds_set 6 sc_80.nd (de_bin op_addG os_add (de_join rfl (de_str []) (de_cut rfl (de_var 5) do_none (do_some de_int))) (de_str [51])))
    (dss_cons (ds_set 7 sc_80.nd (de_bin op_addG os_add (de_join rfl (de_str []) (de_var 5)) (de_str [51])))
    (dss_cons (ds_set 8 sc_80.nd (de_bin op_sub os_sub (de_bin op_addG os_add (de_callB call_len cs_len Z.n_len (da_cons (de_bin op_addG os_add (de_str [113, 32, 61, 32]) (de_join rfl (de_str []) (de_cut rfl (de_var 5) do_none (do_some de_int)))) da_nil)) (de_callB call_len cs_len Z.n_len (da_cons (de_ix rfl (de_var 5) de_int) da_nil))) de_int))
    (dss_cons (ds_if (dt_not (dt_val rfl (de_callQ L.o_77 (hr.mono (Nat.le_succ _)) Z.g_77 Z.f_77.kp Z.b_77 (takes_of rfl rfl rfl rfl) (da_cons (de_tup (da_cons (de_callQ L.o_78 (hr.mono (Nat.le_succ _)) Z.g_78 Z.f_78.kp Z.b_78 (takes_of rfl rfl rfl rfl) (da_cons (de_callQ L.o_79 (hr.mono (Nat.le_succ _)) Z.g_79 Z.f_79.kp Z.b_79 (takes_of rfl rfl rfl rfl) (da_cons (de_var 6) da_nil)) da_nil)) (da_cons (de_callQ L.o_78 (hr.mono (Nat.le_succ _)) Z.g_78 Z.f_78.kp Z.b_78 (takes_of rfl rfl rfl rfl) (da_cons (de_callQ L.o_79 (hr.mono (Nat.le_succ _)) Z.g_79 Z.f_79.kp Z.b_79 (takes_of rfl rfl rfl rfl) (da_cons (de_var 7) da_nil)) da_nil)) da_nil))) (da_cons (de_tup (da_cons de_non (da_cons (de_var 8) da_nil))) da_nil)))))
    (dss_one (ds_ret de_bl))
    dss_nil)
    (dss_cons (ds_for (passes_of rfl) rfl (di_seq rfl (de_tup (da_cons (de_tup (da_cons (de_str [40]) (da_cons (de_str [41]) da_nil))) (da_cons (de_tup (da_cons (de_str [115, 113, 114, 116, 40]) (da_cons (de_str [41]) da_nil))) (da_cons (de_tup (da_cons (de_str [45]) (da_cons (de_str []) da_nil))) (da_cons (de_tup (da_cons (de_str [114, 111, 111, 116, 32, 49, 32, 40, 49, 44, 32]) (da_cons (de_str [41]) da_nil))) da_nil)))))) (dg_tup rfl rfl (dgs_cons (dg_name 9 sc_80.nd) (dgs_cons (dg_name 10 sc_80.nd) dgs_nil)) (gl1 (gl1 gl0)))
    (dss_cons (ds_set 11 sc_80.nd (de_bin op_addG os_add (de_bin op_addG os_add (de_bin op_mulG os_mul (de_var 9) de_int) (de_str [49])) (de_bin op_mulG os_mul (de_var 10) de_int)))
    (dss_cons (ds_set 12 sc_80.nd (de_bin op_addG os_add (de_bin op_addG os_add (de_bin op_mulG os_mul (de_var 9) de_int) (de_str [49])) (de_bin op_mulG os_mul (de_var 10) de_int)))
    (dss_cons (ds_if (dt_cmp (op_eqG hr.units) os_eq (de_var 9) (de_str [40]) (nomark _))
    (dss_cons (ds_if (dt_not (dt_val rfl (de_callQ L.o_77 (hr.mono (Nat.le_succ _)) Z.g_77 Z.f_77.kp Z.b_77 (takes_of rfl rfl rfl rfl) (da_cons (de_tup (da_cons (de_callQ L.o_78 (hr.mono (Nat.le_succ _)) Z.g_78 Z.f_78.kp Z.b_78 (takes_of rfl rfl rfl rfl) (da_cons (de_callQ L.o_79 (hr.mono (Nat.le_succ _)) Z.g_79 Z.f_79.kp Z.b_79 (takes_of rfl rfl rfl rfl) (da_cons (de_var 11) da_nil)) da_nil)) (da_cons (de_callQ L.o_72 (hr.mono (Nat.le_succ _)) Z.g_72 Z.f_72.kp Z.b_72 (takes_of rfl rfl rfl rfl) (da_cons (de_callQ L.o_79 (hr.mono (Nat.le_succ _)) Z.g_79 Z.f_79.kp Z.b_79 (takes_of rfl rfl rfl rfl) (da_cons (de_var 11) da_nil)) da_nil)) da_nil))) (da_cons (de_tup (da_cons de_non (da_cons (de_callQ L.o_79 (hr.mono (Nat.le_succ _)) Z.g_79 Z.f_79.kp Z.b_79 (takes_of rfl rfl rfl rfl) (da_cons (de_str [49]) da_nil)) da_nil))) da_nil)))))
    (dss_one (ds_ret de_bl))
    dss_nil)
    (dss_one (ds_set 13 sc_80.nd (de_bin op_addG os_add (de_callB call_len cs_len Z.n_len (da_cons (de_str [113, 32, 61, 32]) da_nil)) de_int))))
    (dss_cons (ds_if (dw_or (dt_notN (de_callQ L.o_78 (hr.mono (Nat.le_succ _)) Z.g_78 Z.f_78.kp Z.b_78 (takes_of rfl rfl rfl rfl) (da_cons (de_callQ L.o_79 (hr.mono (Nat.le_succ _)) Z.g_79 Z.f_79.kp Z.b_79 (takes_of rfl rfl rfl rfl) (da_cons (de_var 11) da_nil)) da_nil))) (dw_or1 (dt_cmp (op_neG hr.units) os_ne (de_callQ L.o_72 (hr.mono (Nat.le_succ _)) Z.g_72 Z.f_72.kp Z.b_72 (takes_of rfl rfl rfl rfl) (da_cons (de_callQ L.o_79 (hr.mono (Nat.le_succ _)) Z.g_79 Z.f_79.kp Z.b_79 (takes_of rfl rfl rfl rfl) (da_cons (de_var 11) da_nil)) da_nil)) (de_callQ L.o_79 (hr.mono (Nat.le_succ _)) Z.g_79 Z.f_79.kp Z.b_79 (takes_of rfl rfl rfl rfl) (da_cons (de_var 11) da_nil)) (nomark _)))).pt
    (dss_one (ds_ret de_bl))
    dss_nil)
    (dss_one (ds_set 13 sc_80.nd (de_callB call_len cs_len Z.n_len (da_cons (de_bin op_addG os_add (de_str [113, 32, 61, 32]) (de_bin op_mulG os_mul (de_var 9) de_int)) da_nil))))))
    (dss_one (ds_if (dt_not (dt_val rfl (de_callQ L.o_77 (hr.mono (Nat.le_succ _)) Z.g_77 Z.f_77.kp Z.b_77 (takes_of rfl rfl rfl rfl) (da_cons (de_callQ L.o_78 (hr.mono (Nat.le_succ _)) Z.g_78 Z.f_78.kp Z.b_78 (takes_of rfl rfl rfl rfl) (da_cons (de_callQ L.o_79 (hr.mono (Nat.le_succ _)) Z.g_79 Z.f_79.kp Z.b_79 (takes_of rfl rfl rfl rfl) (da_cons (de_var 12) da_nil)) da_nil)) (da_cons (de_var 13) da_nil)))))
    (dss_one (ds_ret de_bl))
    dss_nil))))))
    (dss_cons (ds_set 14 sc_80.nd (de_str [97, 98, 99, 100, 101, 102, 103, 104, 105, 106, 107, 108]))
    (dss_cons (ds_set 15 sc_80.nd (de_tup (da_cons (de_tup (da_cons (de_var 14) (da_cons de_non da_nil))) (da_cons (de_tup (da_cons (de_bin op_addG os_add (de_var 14) (de_str [109])) (da_cons de_int da_nil))) (da_cons (de_tup (da_cons (de_bin op_addG os_add (de_str [122, 57]) (de_bin op_mulG os_mul (de_str [48]) de_int)) (da_cons de_non da_nil))) (da_cons (de_tup (da_cons (de_bin op_addG os_add (de_str [122, 57]) (de_bin op_mulG os_mul (de_str [48]) de_int)) (da_cons de_int da_nil))) (da_cons (de_tup (da_cons (de_bin op_mulG os_mul (de_str [57]) de_int) (da_cons de_non da_nil))) (da_cons (de_tup (da_cons (de_bin op_mulG os_mul (de_str [57]) de_int) (da_cons de_int da_nil))) (da_cons (de_tup (da_cons (de_str [48]) (da_cons de_non da_nil))) da_nil)))))))))
    (dss_cons (ds_for (passes_of rfl) rfl (di_seq rfl (de_bin op_addG os_add (de_var 15) (de_tup (da_cons (de_tup (da_cons (de_str [48, 48]) (da_cons de_int da_nil))) (da_cons (de_tup (da_cons (de_str [48, 55]) (da_cons de_int da_nil))) (da_cons (de_tup (da_cons (de_str [114, 111, 111, 116]) (da_cons de_int da_nil))) (da_cons (de_tup (da_cons (de_str [97, 115, 107, 107]) (da_cons de_non da_nil))) (da_cons (de_tup (da_cons (de_str [50, 97]) (da_cons de_int da_nil))) da_nil)))))))) (dg_tup rfl rfl (dgs_cons (dg_name 16 sc_80.nd) (dgs_cons (dg_name 17 sc_80.nd) dgs_nil)) (gl1 (gl1 gl0)))
    (dss_one (ds_if (dt_not (dt_val rfl (de_callQ L.o_77 (hr.mono (Nat.le_succ _)) Z.g_77 Z.f_77.kp Z.b_77 (takes_of rfl rfl rfl rfl) (da_cons (de_callQ L.o_78 (hr.mono (Nat.le_succ _)) Z.g_78 Z.f_78.kp Z.b_78 (takes_of rfl rfl rfl rfl) (da_cons (de_bin op_addG os_add (de_bin op_addG os_add (de_str [113, 32, 61, 32]) (de_var 16)) (de_str [10])) da_nil)) (da_cons (de_var 17) da_nil)))))
    (dss_one (ds_ret de_bl))
    dss_nil)))
    (dss_one (ds_for (passes_of rfl) rfl (di_seq rfl (de_tup (da_cons (de_tup (da_cons (de_str [49]) (da_cons de_bl da_nil))) (da_cons (de_tup (da_cons (de_str [56]) (da_cons de_bl da_nil))) (da_cons (de_tup (da_cons (de_str [45, 49]) (da_cons de_bl da_nil))) (da_cons (de_tup (da_cons (de_str [45, 56]) (da_cons de_bl da_nil))) (da_cons (de_tup (da_cons (de_str [45, 32, 51]) (da_cons de_bl da_nil))) (da_cons (de_tup (da_cons (de_str [57]) (da_cons de_bl da_nil))) (da_cons (de_tup (da_cons (de_str [48]) (da_cons de_bl da_nil))) (da_cons (de_tup (da_cons (de_str [45, 57]) (da_cons de_bl da_nil))) (da_cons (de_tup (da_cons (de_str [49, 48]) (da_cons de_bl da_nil))) da_nil))))))))))) (dg_tup rfl rfl (dgs_cons (dg_name 18 sc_80.nd) (dgs_cons (dg_name 6 sc_80.nd) dgs_nil)) (gl1 (gl1 gl0)))
    (dss_cons (ds_set 19 sc_80.nd (de_bin op_addG os_add (de_bin op_addG os_add (de_str [113, 32, 61, 32, 114, 111, 111, 116, 32]) (de_var 18)) (de_str [32, 40, 49, 44, 32, 50, 41, 10])))
    (dss_cons (ds_set 17 sc_80.nd (de_if (dt_val rfl (de_var 6)) de_non (de_bin op_addG os_add (de_callB call_len cs_len Z.n_len (da_cons (de_str [113, 32, 61, 32, 114, 111, 111, 116, 32]) da_nil)) (de_if (dt_cmp (op_eqG hr.units) os_eq (de_ix rfl (de_var 18) de_int) (de_str [45]) (nomark _)) de_int de_int))))
    (dss_one (ds_if (dt_not (dt_val rfl (de_callQ L.o_77 (hr.mono (Nat.le_succ _)) Z.g_77 Z.f_77.kp Z.b_77 (takes_of rfl rfl rfl rfl) (da_cons (de_callQ L.o_78 (hr.mono (Nat.le_succ _)) Z.g_78 Z.f_78.kp Z.b_78 (takes_of rfl rfl rfl rfl) (da_cons (de_var 19) da_nil)) (da_cons (de_var 17) da_nil)))))
    (dss_one (ds_ret de_bl))
    dss_nil))))))))))))))))))))
    (dss_one (ds_ret (de_and (de_callQ0 L.o_82 (hr.mono (Nat.le_succ _)) Z.g_82 Z.f_82.kp Z.b_82 (takes_of rfl rfl rfl rfl)) (de_and (de_callQ0 L.o_83 (hr.mono (Nat.le_succ _)) Z.g_83 Z.f_83.kp Z.b_83 (takes_of rfl rfl rfl rfl)) (de_one (de_callQ0 L.o_81 (hr.mono (Nat.le_succ _)) Z.g_81 Z.f_81.kp Z.b_81 (takes_of rfl rfl rfl rfl))))))))
theorem ok_81 (Z : Fx K w mg) (L : Lv P w K mg base k G) : FnOk P w K mg base (L2.CX P w) (k + 2) (fAd K ("_law_are_ends_right", none)) (fdAt K ("_law_are_ends_right", none)) [] (SpD (su K) (c_81 G)) :=
  fn_D (S := su K) (N := [("start" : Str), ("nine" : Str), ("number" : Str), ("fine" : Str), ("at" : Str)]) (b := b_81 G) Z.f_81 sc_81 fun cdv A outer s H E hr => by
  exact (dss_cons (ds_for (passes_of rfl) rfl (di_seq rfl (de_tup (da_cons de_int (da_cons de_int da_nil)))) (dg_name 0 sc_81.nd)
    (dss_cons (ds_set 1 sc_81.nd (de_bin op_addG os_add (de_str [113, 32, 61, 32, 114, 111, 111, 116, 32, 50, 32, 40]) (de_join rfl (de_str [44, 32]) (de_lc (t := (.nm 4)) rfl rfl sc_81.nd (di_rng2 (da_cons (de_var 0) (da_cons (de_bin op_addG os_add (de_var 0) de_int) da_nil)) Z.n_range) (blkOk_by (own := [(("at" : Str), 4)]) (by show blkC [("start" : Str), ("nine" : Str), ("number" : Str), ("fine" : Str), ("at" : Str)] (defScope s_81) _ _ = true; decide +kernel)) (fun _ _ _ _ _ => (pg_name (i := 4) sc_81.nd rfl (Or.inl rfl))) (fun _ _ _ _ _ => dt_yes) (fun _ _ _ _ _ => (de_callTy call_str_int cs_str Z.n_str (da_cons (de_var 4) da_nil)))))))
    (dss_cons (ds_if (dt_not (dt_val rfl (de_callQ L.o_77 (hr.mono (Nat.le_succ _)) Z.g_77 Z.f_77.kp Z.b_77 (takes_of rfl rfl rfl rfl) (da_cons (de_tup (da_cons (de_callQ L.o_78 (hr.mono (Nat.le_succ _)) Z.g_78 Z.f_78.kp Z.b_78 (takes_of rfl rfl rfl rfl) (da_cons (de_bin op_addG os_add (de_var 1) (de_str [41, 10])) da_nil)) (da_cons (de_callQ L.o_78 (hr.mono (Nat.le_succ _)) Z.g_78 Z.f_78.kp Z.b_78 (takes_of rfl rfl rfl rfl) (da_cons (de_bin op_addG os_add (de_var 1) (de_str [44, 32, 49, 41, 10])) da_nil)) (da_cons (de_callQ L.o_78 (hr.mono (Nat.le_succ _)) Z.g_78 Z.f_78.kp Z.b_78 (takes_of rfl rfl rfl rfl) (da_cons (de_str [113, 32, 61, 32, 114, 111, 111, 116, 32, 50, 32, 40, 49, 41, 10]) da_nil)) da_nil)))) (da_cons (de_tup (da_cons de_non (da_cons (de_callB call_len cs_len Z.n_len (da_cons (de_var 1) da_nil)) (da_cons de_int da_nil)))) da_nil)))))
    (dss_one (ds_ret de_bl))
    dss_nil)
    (dss_cons (ds_for (passes_of rfl) rfl (di_seq rfl (de_tup (da_cons (de_tup (da_cons (de_str [48]) (da_cons de_bl da_nil))) (da_cons (de_tup (da_cons (de_str [52, 48]) (da_cons de_bl da_nil))) (da_cons (de_tup (da_cons (de_str [52, 49]) (da_cons de_bl da_nil))) (da_cons (de_tup (da_cons (de_str [48, 52]) (da_cons de_bl da_nil))) (da_cons (de_tup (da_cons (de_str [45, 49]) (da_cons de_bl da_nil))) da_nil))))))) (dg_tup rfl rfl (dgs_cons (dg_name 2 sc_81.nd) (dgs_cons (dg_name 3 sc_81.nd) dgs_nil)) (gl1 (gl1 gl0)))
    (dss_one (ds_if (dt_not (dt_val rfl (de_callQ L.o_77 (hr.mono (Nat.le_succ _)) Z.g_77 Z.f_77.kp Z.b_77 (takes_of rfl rfl rfl rfl) (da_cons (de_callQ L.o_78 (hr.mono (Nat.le_succ _)) Z.g_78 Z.f_78.kp Z.b_78 (takes_of rfl rfl rfl rfl) (da_cons (de_bin op_addG os_add (de_bin op_addG os_add (de_str [116, 101, 108, 108, 32, 49, 32, 98, 121, 32]) (de_var 2)) (de_str [10])) da_nil)) (da_cons (de_if (dt_val rfl (de_var 3)) de_non de_int) da_nil)))))
    (dss_one (ds_ret de_bl))
    dss_nil)))
    (dss_one (ds_for (passes_of rfl) rfl (di_seq rfl (de_tup (da_cons (de_tup (da_cons (de_str [49]) (da_cons de_bl da_nil))) (da_cons (de_tup (da_cons (de_str [50]) (da_cons de_bl da_nil))) (da_cons (de_tup (da_cons (de_str [48]) (da_cons de_bl da_nil))) (da_cons (de_tup (da_cons (de_str [51]) (da_cons de_bl da_nil))) da_nil)))))) (dg_tup rfl rfl (dgs_cons (dg_name 2 sc_81.nd) (dgs_cons (dg_name 3 sc_81.nd) dgs_nil)) (gl1 (gl1 gl0)))
    (dss_one (ds_if (dt_not (dt_val rfl (de_callQ L.o_77 (hr.mono (Nat.le_succ _)) Z.g_77 Z.f_77.kp Z.b_77 (takes_of rfl rfl rfl rfl) (da_cons (de_callQ L.o_78 (hr.mono (Nat.le_succ _)) Z.g_78 Z.f_78.kp Z.b_78 (takes_of rfl rfl rfl rfl) (da_cons (de_bin op_addG os_add (de_bin op_addG os_add (de_str [113, 32, 61, 32, 109, 101, 101, 116, 40, 97, 44, 32, 98, 44, 32]) (de_var 2)) (de_str [41, 10])) da_nil)) (da_cons (de_if (dt_val rfl (de_var 3)) de_non de_int) da_nil)))))
    (dss_one (ds_ret de_bl))
    dss_nil))))))))
    (dss_one (ds_ret de_bl)))
theorem ok_82 (Z : Fx K w mg) (L : Lv P w K mg base k G) : FnOk P w K mg base (L2.CX P w) (k + 2) (fAd K ("_law_are_words_right", none)) (fdAt K ("_law_are_words_right", none)) [] (SpD (su K) (c_82 G)) :=
  fn_D (S := su K) (N := [("reserved" : Str)]) (b := b_82 G) Z.f_82 sc_82 fun cdv A outer s H E hr => by
  exact (dss_cons (ds_for (passes_of rfl) rfl (di_seq rfl (de_splitC [[97, 115, 107], [116, 101, 108, 108], [98, 121], [112, 111, 108, 121], [114, 111, 111, 116], [115, 113, 114, 116], [100, 105, 115, 116], [120], [121], [112, 111, 105, 110, 116], [108, 105, 110, 101], [99, 105, 114, 99, 108, 101], [114, 105, 110, 103], [109, 101, 101, 116], [109, 105, 100], [102, 111, 111, 116], [109, 105, 114, 114, 111, 114], [112, 97, 114, 97, 108, 108, 101, 108], [117, 112, 114, 105, 103, 104, 116], [111, 110], [105, 110, 115, 105, 100, 101], [108, 101, 102, 116], [115, 97, 109, 101], [98, 101, 116, 119, 101, 101, 110], [116, 111, 117, 99, 104]] (by decide +kernel) (by decide +kernel))) (dg_name 0 sc_82.nd)
    (dss_one (ds_if (dw_or (dt_isN (de_callQ L.o_69 (hr.mono (Nat.le_succ _)) Z.g_69 Z.f_69.kp Z.b_69 (takes_of rfl rfl rfl rfl) (da_cons (de_bin op_addG os_add (de_var 0) (de_str [32, 61, 32, 49, 10])) da_nil))) (dw_or (dt_cmp op_notBl os_notB (de_callQ L.o_71 (hr.mono (Nat.le_succ _)) Z.g_71 Z.f_71.kp Z.b_71 (takes_of rfl rfl rfl rfl) (da_cons (de_tup (da_cons (de_tup (da_cons (de_str [110, 117, 109, 98, 101, 114]) (da_cons (de_var 0) (da_cons (de_tup (da_cons (de_str [110, 117, 109, 101, 114, 97, 108]) (da_cons de_int da_nil))) da_nil)))) da_nil)) da_nil)) de_bl (nomark _)) (dw_or1 (dt_notN (de_callQ L.o_69 (hr.mono (Nat.le_succ _)) Z.g_69 Z.f_69.kp Z.b_69 (takes_of rfl rfl rfl rfl) (da_cons (de_bin op_addG os_add (de_var 0) (de_str [122, 32, 61, 32, 49, 10])) da_nil)))))).pt
    (dss_one (ds_ret de_bl))
    dss_nil)))
    (dss_one (ds_ret de_bl)))
theorem ok_83 (Z : Fx K w mg) (L : Lv P w K mg base k G) : FnOk P w K mg base (L2.CX P w) (k + 2) (fAd K ("_law_are_trees_right", none)) (fdAt K ("_law_are_trees_right", none)) [] (SpD (su K) (c_83 G)) :=
  fn_D (S := su K) (N := [("one" : Str), ("trees" : Str), ("word" : Str), ("wide" : Str), ("lap" : Str), ("deep" : Str), ("fine" : Str), ("more" : Str), ("told" : Str)]) (b := b_83 G) Z.f_83 sc_83 fun cdv A outer s H E hr => by
  exact (dss_cons (ds_set 0 sc_83.nd (de_tup (da_cons (de_str [110, 117, 109, 101, 114, 97, 108]) (da_cons de_int da_nil))))
    (dss_cons (ds_set 1 sc_83.nd (de_lst da_nil))
    (dss_cons (ds_for (passes_of rfl) rfl (di_seq rfl (de_tup (da_cons (de_str [112, 108, 117, 115]) (da_cons (de_str [116, 105, 109, 101, 115]) da_nil)))) (dg_name 2 sc_83.nd)
    (dss_cons (ds_set 3 sc_83.nd (de_var 0))
    (dss_cons (ds_for (passes_of rfl) rfl (di_rng1 (da_cons de_int da_nil) Z.n_range) (dg_name 4 sc_83.nd)
    (dss_one (ds_set 3 sc_83.nd (de_tup (da_cons (de_var 2) (da_cons (de_var 3) (da_cons (de_var 0) da_nil)))))))
    (dss_cons (ds_exp (de_bm rfl PySem.F.slot_list_append PySem.F.type_list_append mt_append bs_app (de_var 1) (da_cons (de_tup (da_cons (de_var 3) (da_cons (de_tup (da_cons (de_var 2) (da_cons (de_var 3) (da_cons (de_var 0) da_nil)))) da_nil))) da_nil)))
    (dss_one (ds_exp (de_bm rfl PySem.F.slot_list_append PySem.F.type_list_append mt_append bs_app (de_var 1) (da_cons (de_tup (da_cons (de_tup (da_cons (de_var 2) (da_cons (de_var 0) (da_cons (de_var 3) da_nil)))) (da_cons (de_tup (da_cons (de_var 2) (da_cons (de_var 0) (da_cons (de_tup (da_cons (de_var 2) (da_cons (de_var 3) (da_cons (de_var 0) da_nil)))) da_nil)))) da_nil))) da_nil))))))))
    (dss_cons (ds_set 5 sc_83.nd (de_var 0))
    (dss_cons (ds_for (passes_of rfl) rfl (di_rng1 (da_cons de_int da_nil) Z.n_range) (dg_name 4 sc_83.nd)
    (dss_one (ds_set 5 sc_83.nd (de_tup (da_cons (de_str [109, 105, 110, 117, 115]) (da_cons (de_var 5) da_nil))))))
    (dss_cons (ds_exp (de_bm rfl PySem.F.slot_list_append PySem.F.type_list_append mt_append bs_app (de_var 1) (da_cons (de_tup (da_cons (de_var 5) (da_cons (de_tup (da_cons (de_str [109, 105, 110, 117, 115]) (da_cons (de_var 5) da_nil))) da_nil))) da_nil)))
    (dss_cons (ds_exp (de_bm rfl PySem.F.slot_list_append PySem.F.type_list_append mt_append bs_app (de_var 1) (da_cons (de_tup (da_cons (de_tup (da_cons (de_str [114, 111, 111, 116]) (da_cons de_int (da_cons (de_bin op_mulG os_mul (de_tup (da_cons (de_var 0) da_nil)) de_int) da_nil)))) (da_cons (de_tup (da_cons (de_str [114, 111, 111, 116]) (da_cons de_int (da_cons (de_bin op_mulG os_mul (de_tup (da_cons (de_var 0) da_nil)) de_int) da_nil)))) da_nil))) da_nil)))
    (dss_cons (ds_for (passes_of rfl) rfl (di_seq rfl (de_var 1)) (dg_tup rfl rfl (dgs_cons (dg_name 6 sc_83.nd) (dgs_cons (dg_name 7 sc_83.nd) dgs_nil)) (gl1 (gl1 gl0)))
    (dss_one (ds_if (dt_not (dt_val rfl (de_callQ L.o_77 (hr.mono (Nat.le_succ _)) Z.g_77 Z.f_77.kp Z.b_77 (takes_of rfl rfl rfl rfl) (da_cons (de_tup (da_cons (de_callQ L.o_71 (hr.mono (Nat.le_succ _)) Z.g_71 Z.f_71.kp Z.b_71 (takes_of rfl rfl rfl rfl) (da_cons (de_tup (da_cons (de_tup (da_cons (de_str [110, 117, 109, 98, 101, 114]) (da_cons (de_str [113]) (da_cons (de_var 6) da_nil)))) da_nil)) da_nil)) (da_cons (de_callQ L.o_71 (hr.mono (Nat.le_succ _)) Z.g_71 Z.f_71.kp Z.b_71 (takes_of rfl rfl rfl rfl) (da_cons (de_tup (da_cons (de_tup (da_cons (de_str [110, 117, 109, 98, 101, 114]) (da_cons (de_str [113]) (da_cons (de_var 7) da_nil)))) da_nil)) da_nil)) (da_cons (de_callQ L.o_71 (hr.mono (Nat.le_succ _)) Z.g_71 Z.f_71.kp Z.b_71 (takes_of rfl rfl rfl rfl) (da_cons (de_tup (da_cons (de_tup (da_cons (de_str [112, 111, 105, 110, 116]) (da_cons (de_str [113]) (da_cons (de_var 0) (da_cons (de_var 7) da_nil))))) da_nil)) da_nil)) da_nil)))) (da_cons (de_tup (da_cons de_bl (da_cons de_bl (da_cons de_bl da_nil)))) da_nil)))))
    (dss_one (ds_ret de_bl))
    dss_nil)))
    (dss_cons (ds_set 8 sc_83.nd (de_tup (da_cons (de_callQ L.o_71 (hr.mono (Nat.le_succ _)) Z.g_71 Z.f_71.kp Z.b_71 (takes_of rfl rfl rfl rfl) (da_cons (de_tup (da_cons (de_tup (da_cons (de_str [112, 111, 105, 110, 116]) (da_cons (de_str [113]) (da_cons (de_var 5) (da_cons (de_var 0) da_nil))))) da_nil)) da_nil)) (da_cons (de_callQ L.o_71 (hr.mono (Nat.le_succ _)) Z.g_71 Z.f_71.kp Z.b_71 (takes_of rfl rfl rfl rfl) (da_cons (de_tup (da_cons (de_tup (da_cons (de_str [112, 111, 105, 110, 116]) (da_cons (de_str [113]) (da_cons (de_ix rfl (de_var 5) de_int) (da_cons (de_var 0) da_nil))))) da_nil)) da_nil)) (da_cons (de_callQ L.o_71 (hr.mono (Nat.le_succ _)) Z.g_71 Z.f_71.kp Z.b_71 (takes_of rfl rfl rfl rfl) (da_cons (de_tup (da_cons (de_tup (da_cons (de_str [99, 105, 114, 99, 108, 101]) (da_cons (de_str [113]) (da_cons (de_str [97]) (da_cons (de_var 5) da_nil))))) da_nil)) da_nil)) da_nil)))))
    (dss_one (ds_ret (de_callQ L.o_77 (hr.mono (Nat.le_succ _)) Z.g_77 Z.f_77.kp Z.b_77 (takes_of rfl rfl rfl rfl) (da_cons (de_bin op_addG os_add (de_var 8) (de_tup (da_cons (de_callQ L.o_71 (hr.mono (Nat.le_succ _)) Z.g_71 Z.f_71.kp Z.b_71 (takes_of rfl rfl rfl rfl) (da_cons (de_tup (da_cons (de_tup (da_cons (de_str [97, 115, 107]) (da_cons (de_tup (da_cons (de_str [60]) (da_cons (de_var 5) (da_cons (de_var 0) da_nil)))) da_nil))) da_nil)) da_nil)) da_nil))) (da_cons (de_tup (da_cons de_bl (da_cons de_bl (da_cons de_bl (da_cons de_bl da_nil))))) da_nil))))))))))))))
theorem ok_84 (Z : Fx K w mg) (L : Lv P w K mg base k G) : FnOk P w K mg base (L2.CX P w) (k + 2) (fAd K ("law", none)) (fdAt K ("law", none)) [("script" : Str)] (SpD (su K) (c_84 G)) :=
  fn_D (S := su K) (N := [("script" : Str), ("lap" : Str)]) (b := b_84 G) Z.f_84 sc_84 fun cdv A outer s H E hr => by
  exact (dss_one (ds_ret (de_cmp op_notInG (os_in true) de_bl (de_lc (t := (.nm 1)) rfl rfl sc_84.nd (di_rng1 (da_cons (de_callB (call_max2 rfl) cs_max Z.n_max (da_cons de_int (da_cons (de_callB (call_min2 rfl) cs_min Z.n_min (da_cons (de_callB call_len cs_len Z.n_len (da_cons (de_var 0) da_nil)) (da_cons de_int da_nil))) da_nil))) da_nil) Z.n_range) (blkOk_by (own := [(("lap" : Str), 1)]) (by show blkC [("script" : Str), ("lap" : Str)] (defScope s_84) _ _ = true; decide +kernel)) (fun _ _ _ _ _ => (pg_name (i := 1) sc_84.nd rfl (Or.inl rfl))) (fun _ _ _ _ _ => dt_yes) (fun _ _ _ _ _ => (de_callL L.o_80 (hr.mono (Nat.le_succ _)) Z.g_80 Z.f_80.kp Z.b_80 takes0 (da_cons (de_callP L.o_73 (hr.mono (Nat.le_succ _)) Z.g_73 Z.f_73.kp Z.b_73 takes0 (da_cons (de_var 0) (da_cons (de_var 1) da_nil))) da_nil)))) rfl)))
theorem lv_all (Z : Fx K w mg) : ∀ n, Lv P w K mg base (2 * n) (callF n)
  | 0 => ⟨fn_no (S := su K), fn_no (S := su K), fn_no (S := su K), fn_no (S := su K), fn_no (S := su K), fn_no (S := su K), fn_no (S := su K), fn_no (S := su K), fn_no (S := su K), fn_no (S := su K), fn_no (S := su K), fn_no (S := su K), fn_no (S := su K), fn_no (S := su K), fn_no (S := su K), fn_no (S := su K), fn_no (S := su K), fn_no (S := su K), fn_no (S := su K), fn_no (S := su K), fn_no (S := su K), fn_no (S := su K), fn_no (S := su K), fn_no (S := su K), fn_no (S := su K), fn_no (S := su K), fn_no (S := su K), fn_no (S := su K), fn_no (S := su K), fn_no (S := su K), fn_no (S := su K), fn_no (S := su K), fn_no (S := su K), fn_no (S := su K), fn_no (S := su K), fn_no (S := su K), fn_no (S := su K), fn_no (S := su K), fn_no (S := su K), fn_no (S := su K), fn_no (S := su K), fn_no (S := su K), fn_no (S := su K), fn_no (S := su K), fn_no (S := su K), fn_no (S := su K), fn_no (S := su K), fn_no (S := su K), fn_no (S := su K), fn_no (S := su K), fn_no (S := su K), fn_no (S := su K), fn_no (S := su K), fn_no (S := su K), fn_no (S := su K), fn_no (S := su K), fn_no (S := su K), fn_no (S := su K), fn_no (S := su K), fn_no (S := su K), fn_no (S := su K), fn_no (S := su K), fn_no (S := su K), fn_no (S := su K), fn_no (S := su K), fn_no (S := su K), fn_no (S := su K), fn_no (S := su K), fn_no (S := su K), fn_no (S := su K), fn_no (S := su K), fn_no (S := su K), fn_no (S := su K), fn_no (S := su K), fn_no (S := su K), fn_no (S := su K), fn_no (S := su K), fn_no (S := su K), fn_no (S := su K), fn_no (S := su K), fn_no (S := su K), fn_no (S := su K), fn_no (S := su K), fn_no (S := su K), fn_no (S := su K)⟩
  | n + 1 => by
    have L : Lv P w K mg base (2 * n) (callF n) := lv_all Z n
    exact ⟨ok_0 Z L, ok_1 Z L, ok_2 Z L, ok_3 Z L, ok_4 Z L, ok_5 Z L, ok_6 Z L, ok_7 Z L, ok_8 Z L, ok_9 Z L, ok_10 Z L, ok_11 Z L, ok_12 Z L, ok_13 Z L, ok_14 Z L, ok_15 Z L, ok_16 Z L, ok_17 Z L, ok_18 Z L, ok_19 Z L, ok_20 Z L, ok_21 Z L, ok_22 Z L, ok_23 Z L, ok_24 Z L, ok_25 Z L, ok_26 Z L, ok_27 Z L, ok_28 Z L, ok_29 Z L, ok_30 Z L, ok_31 Z L, ok_32 Z L, ok_33 Z L, ok_34 Z L, ok_35 Z L, ok_36 Z L, ok_37 Z L, ok_38 Z L, ok_39 Z L, ok_40 Z L, ok_41 Z L, ok_42 Z L, ok_43 Z L, ok_44 Z L, ok_45 Z L, ok_46 Z L, ok_47 Z L, ok_48 Z L, ok_49 Z L, ok_50 Z L, ok_51 Z L, ok_52 Z L, ok_53 Z L, ok_54 Z L, ok_55 Z L, ok_56 Z L, ok_57 Z L, ok_58 Z L, ok_59 Z L, ok_60 Z L, ok_61 Z L, ok_62 Z L, ok_63 Z L, ok_64 Z L, ok_65 Z L, ok_66 Z L, ok_67 Z L, ok_68 Z L, ok_69 Z L, ok_70 Z L, ok_71 Z L, ok_72 Z L, ok_73 Z L, ok_74 Z L, ok_75 Z L, ok_76 Z L, ok_77 Z L, ok_78 Z L, ok_79 Z L, ok_80 Z L, ok_81 Z L, ok_82 Z L, ok_83 Z L, ok_84 Z L⟩
end
end T

end

section
set_option Elab.async false
set_option linter.all false
set_option maxRecDepth 100000
set_option maxHeartbeats 4000000
namespace T
open PySem PySem.Spec PyProof.Rows L2 PySem.ExD He Sh
theorem all_at {α : Type} {l : List α} {f : α → Bool} {i : Nat} {a : α} (h : l.all f = true) (e : l[i]? = some a) : f a = true := List.all_eq_true.mp h a (List.mem_of_getElem? e)
theorem fx_of {K : PySem.W.Frag} {w : World} {mg : Str → Option Value} {h : Heap} (X : K.In h) (G : h.Ns mainGlobals mg) (c : SaysX faL fnL tsL [] exB w h K) : Fx K w mg := by
  obtain ⟨e1, e23⟩ := Bool.and_eq_true_iff.mp c.more
  obtain ⟨e2, e3⟩ := Bool.and_eq_true_iff.mp e23
  have F_0 := fun_at (c.t.d.def_ 0 (d := dd_0) rfl)
  have F_1 := fun_at (c.t.d.def_ 1 (d := dd_1) rfl)
  have F_2 := fun_at (c.t.d.def_ 2 (d := dd_2) rfl)
  have F_3 := fun_at (c.t.d.def_ 3 (d := dd_3) rfl)
  have F_4 := fun_at (c.t.d.def_ 4 (d := dd_4) rfl)
  have F_5 := fun_at (c.t.d.def_ 5 (d := dd_5) rfl)
  have F_6 := fun_at (c.t.d.def_ 6 (d := dd_6) rfl)
  have F_7 := fun_at (c.t.d.def_ 7 (d := dd_7) rfl)
  have F_8 := fun_at (c.t.d.def_ 8 (d := dd_8) rfl)
  have F_9 := fun_at (c.t.d.def_ 9 (d := dd_9) rfl)
  have F_10 := fun_at (c.t.d.def_ 10 (d := dd_10) rfl)
  have F_11 := fun_at (c.t.d.def_ 11 (d := dd_11) rfl)
  have F_12 := fun_at (c.t.d.def_ 12 (d := dd_12) rfl)
  have F_13 := fun_at (c.t.d.def_ 13 (d := dd_13) rfl)
  have F_14 := fun_at (c.t.d.def_ 14 (d := dd_14) rfl)
  have F_15 := fun_at (c.t.d.def_ 15 (d := dd_15) rfl)
  have F_16 := fun_at (c.t.d.def_ 16 (d := dd_16) rfl)
  have F_17 := fun_at (c.t.d.def_ 17 (d := dd_17) rfl)
  have F_18 := fun_at (c.t.d.def_ 18 (d := dd_18) rfl)
  have F_19 := fun_at (c.t.d.def_ 19 (d := dd_19) rfl)
  have F_20 := fun_at (c.t.d.def_ 20 (d := dd_20) rfl)
  have F_21 := fun_at (c.t.d.def_ 21 (d := dd_21) rfl)
  have F_22 := fun_at (c.t.d.def_ 22 (d := dd_22) rfl)
  have F_23 := fun_at (c.t.d.def_ 23 (d := dd_23) rfl)
  have F_24 := fun_at (c.t.d.def_ 24 (d := dd_24) rfl)
  have F_25 := fun_at (c.t.d.def_ 25 (d := dd_25) rfl)
  have F_26 := fun_at (c.t.d.def_ 26 (d := dd_26) rfl)
  have F_27 := fun_at (c.t.d.def_ 27 (d := dd_27) rfl)
  have F_28 := fun_at (c.t.d.def_ 28 (d := dd_28) rfl)
  have F_29 := fun_at (c.t.d.def_ 29 (d := dd_29) rfl)
  have F_30 := fun_at (c.t.d.def_ 30 (d := dd_30) rfl)
  have F_31 := fun_at (c.t.d.def_ 31 (d := dd_31) rfl)
  have F_32 := fun_at (c.t.d.def_ 32 (d := dd_32) rfl)
  have F_33 := fun_at (c.t.d.def_ 33 (d := dd_33) rfl)
  have F_34 := fun_at (c.t.d.def_ 34 (d := dd_34) rfl)
  have F_35 := fun_at (c.t.d.def_ 35 (d := dd_35) rfl)
  have F_36 := fun_at (c.t.d.def_ 36 (d := dd_36) rfl)
  have F_37 := fun_at (c.t.d.def_ 37 (d := dd_37) rfl)
  have F_38 := fun_at (c.t.d.def_ 38 (d := dd_38) rfl)
  have F_39 := fun_at (c.t.d.def_ 39 (d := dd_39) rfl)
  have F_40 := fun_at (c.t.d.def_ 40 (d := dd_40) rfl)
  have F_41 := fun_at (c.t.d.def_ 41 (d := dd_41) rfl)
  have F_42 := fun_at (c.t.d.def_ 42 (d := dd_42) rfl)
  have F_43 := fun_at (c.t.d.def_ 43 (d := dd_43) rfl)
  have F_44 := fun_at (c.t.d.def_ 44 (d := dd_44) rfl)
  have F_45 := fun_at (c.t.d.def_ 45 (d := dd_45) rfl)
  have F_46 := fun_at (c.t.d.def_ 46 (d := dd_46) rfl)
  have F_47 := fun_at (c.t.d.def_ 47 (d := dd_47) rfl)
  have F_48 := fun_at (c.t.d.def_ 48 (d := dd_48) rfl)
  have F_49 := fun_at (c.t.d.def_ 49 (d := dd_49) rfl)
  have F_50 := fun_at (c.t.d.def_ 50 (d := dd_50) rfl)
  have F_51 := fun_at (c.t.d.def_ 51 (d := dd_51) rfl)
  have F_52 := fun_at (c.t.d.def_ 52 (d := dd_52) rfl)
  have F_53 := fun_at (c.t.d.def_ 53 (d := dd_53) rfl)
  have F_54 := fun_at (c.t.d.def_ 54 (d := dd_54) rfl)
  have F_55 := fun_at (c.t.d.def_ 55 (d := dd_55) rfl)
  have F_56 := fun_at (c.t.d.def_ 56 (d := dd_56) rfl)
  have F_57 := fun_at (c.t.d.def_ 57 (d := dd_57) rfl)
  have F_58 := fun_at (c.t.d.def_ 58 (d := dd_58) rfl)
  have F_59 := fun_at (c.t.d.def_ 59 (d := dd_59) rfl)
  have F_60 := fun_at (c.t.d.def_ 60 (d := dd_60) rfl)
  have F_61 := fun_at (c.t.d.def_ 61 (d := dd_61) rfl)
  have F_62 := fun_at (c.t.d.def_ 62 (d := dd_62) rfl)
  have F_63 := fun_at (c.t.d.def_ 63 (d := dd_63) rfl)
  have F_64 := fun_at (c.t.d.def_ 64 (d := dd_64) rfl)
  have F_65 := fun_at (c.t.d.def_ 65 (d := dd_65) rfl)
  have F_66 := fun_at (c.t.d.def_ 66 (d := dd_66) rfl)
  have F_67 := fun_at (c.t.d.def_ 67 (d := dd_67) rfl)
  have F_68 := fun_at (c.t.d.def_ 68 (d := dd_68) rfl)
  have F_69 := fun_at (c.t.d.def_ 69 (d := dd_69) rfl)
  have F_70 := fun_at (c.t.d.def_ 70 (d := dd_70) rfl)
  have F_71 := fun_at (c.t.d.def_ 71 (d := dd_71) rfl)
  have F_72 := fun_at (c.t.d.def_ 72 (d := dd_72) rfl)
  have F_73 := fun_at (c.t.d.def_ 73 (d := dd_73) rfl)
  have F_74 := fun_at (c.t.d.def_ 74 (d := dd_74) rfl)
  have F_75 := fun_at (c.t.d.def_ 75 (d := dd_75) rfl)
  have F_76 := fun_at (c.t.d.def_ 76 (d := dd_76) rfl)
  have F_77 := fun_at (c.t.d.def_ 77 (d := dd_77) rfl)
  have F_78 := fun_at (c.t.d.def_ 78 (d := dd_78) rfl)
  have F_79 := fun_at (c.t.d.def_ 79 (d := dd_79) rfl)
  have F_80 := fun_at (c.t.d.def_ 80 (d := dd_80) rfl)
  have F_81 := fun_at (c.t.d.def_ 81 (d := dd_81) rfl)
  have F_82 := fun_at (c.t.d.def_ 82 (d := dd_82) rfl)
  have F_83 := fun_at (c.t.d.def_ 83 (d := dd_83) rfl)
  have F_84 := fun_at (c.t.d.def_ 84 (d := dd_84) rfl)
  obtain ⟨fd_InvalidText, X_InvalidText⟩ := c.t.d.def_ 85 (d := dx_InvalidText) rfl
  obtain ⟨fd_Halt, X_Halt⟩ := c.t.d.def_ 86 (d := dx_Halt) rfl
  exact {
    f_0 := F_0,
    b_0 := (F_0.bindsN fun _ _ _ _ _ _ us hl => match us, hl with | [_], _ => rfl),
    g_0 := glo_ok X G (c.t.d.fact 0 (f := .glo "is_whole") rfl),
    f_1 := F_1,
    b_1 := (F_1.bindsN fun _ _ _ _ _ _ us hl => match us, hl with | [_, _, _], _ => rfl),
    g_1 := glo_ok X G (c.t.d.fact 1 (f := .glo "is_between") rfl),
    f_2 := F_2,
    b_2 := (F_2.bindsN fun _ _ _ _ _ _ us hl => match us, hl with | [_, _], _ => rfl),
    g_2 := glo_ok X G (c.t.d.fact 2 (f := .glo "is_tuple_of") rfl),
    f_3 := F_3,
    b_3 := (F_3.bindsN fun _ _ _ _ _ _ us hl => match us, hl with | [_], _ => rfl),
    g_3 := glo_ok X G (c.t.d.fact 3 (f := .glo "are_figures") rfl),
    f_4 := F_4,
    b_4 := (F_4.bindsN fun _ _ _ _ _ _ us hl => match us, hl with | [_], _ => rfl),
    g_4 := glo_ok X G (c.t.d.fact 4 (f := .glo "is_numeral") rfl),
    f_5 := F_5,
    b_5 := (F_5.bindsN fun _ _ _ _ _ _ us hl => match us, hl with | [_], _ => rfl),
    g_5 := glo_ok X G (c.t.d.fact 5 (f := .glo "kind_of_run") rfl),
    f_6 := F_6,
    b_6 := (F_6.bindsN fun _ _ _ _ _ _ us hl => match us, hl with | [_], _ => rfl),
    g_6 := glo_ok X G (c.t.d.fact 6 (f := .glo "is_run") rfl),
    f_7 := F_7,
    b_7 := (F_7.bindsN fun _ _ _ _ _ _ us hl => match us, hl with | [_], _ => rfl),
    g_7 := glo_ok X G (c.t.d.fact 7 (f := .glo "is_name") rfl),
    f_8 := F_8,
    b_8 := (F_8.bindsN fun _ _ _ _ _ _ us hl => match us, hl with | [_], _ => rfl),
    g_8 := glo_ok X G (c.t.d.fact 8 (f := .glo "kind_of_sign") rfl),
    f_9 := F_9,
    b_9 := (F_9.bindsN fun _ _ _ _ _ _ us hl => match us, hl with | [_, _], _ => rfl),
    g_9 := glo_ok X G (c.t.d.fact 9 (f := .glo "run_end") rfl),
    f_10 := F_10,
    b_10 := (F_10.bindsN fun _ _ _ _ _ _ us hl => match us, hl with | [_, _], _ => rfl),
    g_10 := glo_ok X G (c.t.d.fact 10 (f := .glo "piece_at") rfl),
    f_11 := F_11,
    b_11 := (F_11.bindsN fun _ _ _ _ _ _ us hl => match us, hl with | [_], _ => rfl),
    g_11 := glo_ok X G (c.t.d.fact 11 (f := .glo "pieces_by") rfl),
    f_12 := F_12,
    b_12 := (F_12.bindsN fun _ _ _ _ _ _ us hl => match us, hl with | [_], _ => rfl),
    g_12 := glo_ok X G (c.t.d.fact 12 (f := .glo "parts_of") rfl),
    f_13 := F_13,
    b_13 := (F_13.bindsN fun _ _ _ _ _ _ us hl => match us, hl with | [_], _ => rfl),
    g_13 := glo_ok X G (c.t.d.fact 13 (f := .glo "strength_of") rfl),
    f_14 := F_14,
    b_14 := (F_14.bindsN fun _ _ _ _ _ _ us hl => match us, hl with | [_, _], _ => rfl),
    g_14 := glo_ok X G (c.t.d.fact 14 (f := .glo "count_in_row") rfl),
    f_15 := F_15,
    b_15 := (F_15.bindsN fun _ _ _ _ _ _ us hl => match us, hl with | [_], _ => rfl),
    g_15 := glo_ok X G (c.t.d.fact 15 (f := .glo "needs_of") rfl),
    f_16 := F_16,
    b_16 := (F_16.bindsN fun _ _ _ _ _ _ us hl => match us, hl with | [_], _ => rfl),
    g_16 := glo_ok X G (c.t.d.fact 16 (f := .glo "is_root_number") rfl),
    f_17 := F_17,
    b_17 := (F_17.bindsN fun _ _ _ _ _ _ us hl => match us, hl with | [_], _ => rfl),
    g_17 := glo_ok X G (c.t.d.fact 17 (f := .glo "are_coefs") rfl),
    f_18 := F_18,
    b_18 := (F_18.bindsN fun _ _ _ _ _ _ us hl => match us, hl with | [_], _ => rfl),
    g_18 := glo_ok X G (c.t.d.fact 18 (f := .glo "is_node") rfl),
    f_19 := F_19,
    b_19 := (F_19.bindsN fun _ _ _ _ _ _ us hl => match us, hl with | [_, _, _, _, _], _ => rfl),
    f_20 := F_20,
    b_20 := (F_20.bindsN fun _ _ _ _ _ _ us hl => match us, hl with | [_], _ => rfl),
    g_20 := glo_ok X G (c.t.d.fact 19 (f := .glo "most_in_row") rfl),
    f_21 := F_21,
    b_21 := (F_21.bindsN fun _ _ _ _ _ _ us hl => match us, hl with | [_], _ => rfl),
    g_21 := glo_ok X G (c.t.d.fact 20 (f := .glo "is_too_long") rfl),
    f_22 := F_22,
    b_22 := (F_22.bindsN fun _ _ _ _ _ _ us hl => match us, hl with | [_], _ => rfl),
    g_22 := glo_ok X G (c.t.d.fact 21 (f := .glo "opens_one") rfl),
    f_23 := F_23,
    b_23 := (F_23.bindsN fun _ _ _ _ _ _ us hl => match us, hl with | [_], _ => rfl),
    g_23 := glo_ok X G (c.t.d.fact 22 (f := .glo "places_below") rfl),
    f_24 := F_24,
    b_24 := (F_24.bindsN fun _ _ _ _ _ _ us hl => match us, hl with | [_, _], _ => rfl),
    g_24 := glo_ok X G (c.t.d.fact 23 (f := .glo "is_tree") rfl),
    f_25 := F_25,
    b_25 := (F_25.bindsN fun _ _ _ _ _ _ us hl => match us, hl with | [_, _], _ => rfl),
    g_25 := glo_ok X G (c.t.d.fact 24 (f := .glo "is_part") rfl),
    f_26 := F_26,
    b_26 := (F_26.bindsN fun _ _ _ _ _ _ us hl => match us, hl with | [_, _], _ => rfl),
    g_26 := glo_ok X G (c.t.d.fact 25 (f := .glo "are_parts") rfl),
    f_27 := F_27,
    b_27 := (F_27.bindsN fun _ _ _ _ _ _ us hl => match us, hl with | [_], _ => rfl),
    g_27 := glo_ok X G (c.t.d.fact 26 (f := .glo "is_ask") rfl),
    f_28 := F_28,
    b_28 := (F_28.bindsN fun _ _ _ _ _ _ us hl => match us, hl with | [_], _ => rfl),
    g_28 := glo_ok X G (c.t.d.fact 27 (f := .glo "is_row") rfl),
    f_29 := F_29,
    b_29 := (F_29.bindsN fun _ _ _ _ _ _ us hl => match us, hl with | [_], _ => rfl),
    g_29 := glo_ok X G (c.t.d.fact 28 (f := .glo "plan_wrong_by") rfl),
    f_30 := F_30,
    b_30 := (F_30.bindsN fun _ _ _ _ _ _ us hl => match us, hl with | [_, _], _ => rfl),
    f_31 := F_31,
    b_31 := (F_31.bindsN fun _ _ _ _ _ _ us hl => match us, hl with | [_], _ => rfl),
    m_31 := meth_ok (c.t.d.fact 29 (f := .meth "Reader" "is_done") rfl),
    f_32 := F_32,
    b_32 := (F_32.bindsN fun _ _ _ _ _ _ us hl => match us, hl with | [_], _ => rfl),
    m_32 := meth_ok (c.t.d.fact 30 (f := .meth "Reader" "place") rfl),
    f_33 := F_33,
    b_33 := (F_33.bindsN fun _ _ _ _ _ _ us hl => match us, hl with | [_], _ => rfl),
    m_33 := meth_ok (c.t.d.fact 31 (f := .meth "Reader" "next_kind") rfl),
    f_34 := F_34,
    b_34 := (F_34.bindsN fun _ _ _ _ _ _ us hl => match us, hl with | [_], _ => rfl),
    m_34 := meth_ok (c.t.d.fact 32 (f := .meth "Reader" "next_part") rfl),
    f_35 := F_35,
    b_35 := (F_35.bindsN fun _ _ _ _ _ _ us hl => match us, hl with | [_, _], _ => rfl),
    m_35 := meth_ok (c.t.d.fact 33 (f := .meth "Reader" "sees") rfl),
    f_36 := F_36,
    b_36 := (F_36.bindsN fun _ _ _ _ _ _ us hl => match us, hl with | [_], _ => rfl),
    m_36 := meth_ok (c.t.d.fact 34 (f := .meth "Reader" "took") rfl),
    f_37 := F_37,
    b_37 := (F_37.bindsN fun _ _ _ _ _ _ us hl => match us, hl with | [_, _], _ => rfl),
    m_37 := meth_ok (c.t.d.fact 35 (f := .meth "Reader" "need") rfl),
    f_38 := F_38,
    b_38 := (F_38.bindsN fun _ _ _ _ _ _ us hl => match us, hl with | [_], _ => rfl),
    m_38 := meth_ok (c.t.d.fact 36 (f := .meth "Reader" "need_end") rfl),
    f_39 := F_39,
    b_39 := (F_39.bindsN fun _ _ _ _ _ _ us hl => match us, hl with | [_], _ => rfl),
    m_39 := meth_ok (c.t.d.fact 37 (f := .meth "Reader" "name") rfl),
    f_40 := F_40,
    b_40 := (F_40.bindsN fun _ _ _ _ _ _ us hl => match us, hl with | [_, _, _], _ => rfl),
    m_40 := meth_ok (c.t.d.fact 38 (f := .meth "Reader" "numeral") rfl),
    f_41 := F_41,
    b_41 := (F_41.bindsN fun _ _ _ _ _ _ us hl => match us, hl with | [_, _], _ => rfl),
    g_41 := glo_ok X G (c.t.d.fact 39 (f := .glo "sum_at") rfl),
    f_42 := F_42,
    b_42 := (F_42.bindsN fun _ _ _ _ _ _ us hl => match us, hl with | [_, _], _ => rfl),
    g_42 := glo_ok X G (c.t.d.fact 40 (f := .glo "product_at") rfl),
    f_43 := F_43,
    b_43 := (F_43.bindsN fun _ _ _ _ _ _ us hl => match us, hl with | [_, _], _ => rfl),
    g_43 := glo_ok X G (c.t.d.fact 41 (f := .glo "factor_at") rfl),
    f_44 := F_44,
    b_44 := (F_44.bindsN fun _ _ _ _ _ _ us hl => match us, hl with | [_, _], _ => rfl),
    g_44 := glo_ok X G (c.t.d.fact 42 (f := .glo "deeper_at") rfl),
    f_45 := F_45,
    b_45 := (F_45.bindsN fun _ _ _ _ _ _ us hl => match us, hl with | [_, _], _ => rfl),
    g_45 := glo_ok X G (c.t.d.fact 43 (f := .glo "within") rfl),
    f_46 := F_46,
    b_46 := (F_46.bindsN fun _ _ _ _ _ _ us hl => match us, hl with | [_], _ => rfl),
    g_46 := glo_ok X G (c.t.d.fact 44 (f := .glo "of_points") rfl),
    f_47 := F_47,
    b_47 := (F_47.bindsN fun _ _ _ _ _ _ us hl => match us, hl with | [_], _ => rfl),
    g_47 := glo_ok X G (c.t.d.fact 45 (f := .glo "root_number") rfl),
    f_48 := F_48,
    b_48 := (F_48.bindsN fun _ _ _ _ _ _ us hl => match us, hl with | [_, _], _ => rfl),
    g_48 := glo_ok X G (c.t.d.fact 46 (f := .glo "root_at") rfl),
    f_49 := F_49,
    b_49 := (F_49.bindsN fun _ _ _ _ _ _ us hl => match us, hl with | [_, _], _ => rfl),
    g_49 := glo_ok X G (c.t.d.fact 47 (f := .glo "part_at") rfl),
    f_50 := F_50,
    b_50 := (F_50.bindsN fun _ _ _ _ _ _ us hl => match us, hl with | [_, _], _ => rfl),
    g_50 := glo_ok X G (c.t.d.fact 48 (f := .glo "parts_at") rfl),
    f_51 := F_51,
    b_51 := (F_51.bindsN fun _ _ _ _ _ _ us hl => match us, hl with | [_], _ => rfl),
    g_51 := glo_ok X G (c.t.d.fact 49 (f := .glo "made_row") rfl),
    f_52 := F_52,
    b_52 := (F_52.bindsN fun _ _ _ _ _ _ us hl => match us, hl with | [_], _ => rfl),
    g_52 := glo_ok X G (c.t.d.fact 50 (f := .glo "ask_of_numbers") rfl),
    f_53 := F_53,
    b_53 := (F_53.bindsN fun _ _ _ _ _ _ us hl => match us, hl with | [_], _ => rfl),
    g_53 := glo_ok X G (c.t.d.fact 51 (f := .glo "ask_row") rfl),
    f_54 := F_54,
    b_54 := (F_54.bindsN fun _ _ _ _ _ _ us hl => match us, hl with | [_], _ => rfl),
    g_54 := glo_ok X G (c.t.d.fact 52 (f := .glo "tell_row") rfl),
    f_55 := F_55,
    b_55 := (F_55.bindsN fun _ _ _ _ _ _ us hl => match us, hl with | [_], _ => rfl),
    g_55 := glo_ok X G (c.t.d.fact 53 (f := .glo "row_at") rfl),
    f_56 := F_56,
    b_56 := (F_56.bindsN fun _ _ _ _ _ _ us hl => match us, hl with | [_], _ => rfl),
    g_56 := glo_ok X G (c.t.d.fact 54 (f := .glo "rows_at") rfl),
    f_57 := F_57,
    b_57 := (F_57.bindsN fun _ _ _ _ _ _ us hl => match us, hl with | [_], _ => rfl),
    g_57 := glo_ok X G (c.t.d.fact 55 (f := .glo "read_by") rfl),
    f_58 := F_58,
    b_58 := (F_58.bindsN fun _ _ _ _ _ _ us hl => match us, hl with | [_], _ => rfl),
    g_58 := glo_ok X G (c.t.d.fact 56 (f := .glo "check_text") rfl),
    f_59 := F_59,
    b_59 := (F_59.bindsN fun _ _ _ _ _ _ us hl => match us, hl with | [_, _], _ => rfl),
    g_59 := glo_ok X G (c.t.d.fact 57 (f := .glo "parted") rfl),
    f_60 := F_60,
    b_60 := (F_60.bindsN fun _ _ _ _ _ _ us hl => match us, hl with | [_], _ => rfl),
    g_60 := glo_ok X G (c.t.d.fact 58 (f := .glo "print_of") rfl),
    f_61 := F_61,
    b_61 := (F_61.bindsN fun _ _ _ _ _ _ us hl => match us, hl with | [_, _], _ => rfl),
    g_61 := glo_ok X G (c.t.d.fact 59 (f := .glo "needed_print") rfl),
    f_62 := F_62,
    b_62 := (F_62.bindsN fun _ _ _ _ _ _ us hl => match us, hl with | [_], _ => rfl),
    g_62 := glo_ok X G (c.t.d.fact 60 (f := .glo "tree_text") rfl),
    f_63 := F_63,
    b_63 := (F_63.bindsN fun _ _ _ _ _ _ us hl => match us, hl with | [_], _ => rfl),
    g_63 := glo_ok X G (c.t.d.fact 61 (f := .glo "part_text") rfl),
    f_64 := F_64,
    b_64 := (F_64.bindsN fun _ _ _ _ _ _ us hl => match us, hl with | [_, _], _ => rfl),
    g_64 := glo_ok X G (c.t.d.fact 62 (f := .glo "parts_text") rfl),
    f_65 := F_65,
    b_65 := (F_65.bindsN fun _ _ _ _ _ _ us hl => match us, hl with | [_], _ => rfl),
    g_65 := glo_ok X G (c.t.d.fact 63 (f := .glo "ask_text") rfl),
    f_66 := F_66,
    b_66 := (F_66.bindsN fun _ _ _ _ _ _ us hl => match us, hl with | [_], _ => rfl),
    g_66 := glo_ok X G (c.t.d.fact 64 (f := .glo "row_text") rfl),
    f_67 := F_67,
    b_67 := (F_67.bindsN fun _ _ _ _ _ _ us hl => match us, hl with | [_], _ => rfl),
    g_67 := glo_ok X G (c.t.d.fact 65 (f := .glo "written_by") rfl),
    f_68 := F_68,
    b_68 := (F_68.bindsN fun _ _ _ _ _ _ us hl => match us, hl with | [_], _ => rfl),
    g_68 := glo_ok X G (c.t.d.fact 66 (f := .glo "check_string") rfl),
    f_69 := F_69,
    b_69 := (F_69.bindsN fun _ _ _ _ _ _ us hl => match us, hl with | [_], _ => rfl),
    g_69 := glo_ok X G (c.t.d.fact 67 (f := .glo "first_place") rfl),
    f_70 := F_70,
    b_70 := (F_70.bindsN fun _ _ _ _ _ _ us hl => match us, hl with | [_], _ => rfl),
    g_70 := glo_ok X G (c.t.d.fact 68 (f := .glo "read") rfl),
    f_71 := F_71,
    b_71 := (F_71.bindsN fun _ _ _ _ _ _ us hl => match us, hl with | [_], _ => rfl),
    g_71 := glo_ok X G (c.t.d.fact 69 (f := .glo "is_plan") rfl),
    f_72 := F_72,
    b_72 := (F_72.bindsN fun _ _ _ _ _ _ us hl => match us, hl with | [_], _ => rfl),
    g_72 := glo_ok X G (c.t.d.fact 70 (f := .glo "tidy") rfl),
    f_73 := F_73,
    b_73 := (F_73.bindsN fun _ _ _ _ _ _ us hl => match us, hl with | [_, _], _ => rfl),
    g_73 := glo_ok X G (c.t.d.fact 71 (f := .glo "_law_forge") rfl),
    f_74 := F_74,
    b_74 := (F_74.bindsN fun _ _ _ _ _ _ us hl => match us, hl with | [_, _], _ => rfl),
    g_74 := glo_ok X G (c.t.d.fact 72 (f := .glo "_law_strike") rfl),
    f_75 := F_75,
    b_75 := (F_75.bindsN fun _ _ _ _ _ _ us hl => match us, hl with | [_, _], _ => rfl),
    g_75 := glo_ok X G (c.t.d.fact 73 (f := .glo "_law_pick") rfl),
    f_76 := F_76,
    b_76 := (F_76.bindsN fun _ _ _ _ _ _ us hl => match us, hl with | [_, _], _ => rfl),
    g_76 := glo_ok X G (c.t.d.fact 74 (f := .glo "_law_are_same") rfl),
    f_77 := F_77,
    b_77 := (F_77.bindsN fun _ _ _ _ _ _ us hl => match us, hl with | [_, _], _ => rfl),
    g_77 := glo_ok X G (c.t.d.fact 75 (f := .glo "_law_same") rfl),
    f_78 := F_78,
    b_78 := (F_78.bindsN fun _ _ _ _ _ _ us hl => match us, hl with | [_], _ => rfl),
    g_78 := glo_ok X G (c.t.d.fact 76 (f := .glo "_law_place") rfl),
    f_79 := F_79,
    b_79 := (F_79.bindsN fun _ _ _ _ _ _ us hl => match us, hl with | [_], _ => rfl),
    g_79 := glo_ok X G (c.t.d.fact 77 (f := .glo "_law_row") rfl),
    f_80 := F_80,
    b_80 := (F_80.bindsN fun _ _ _ _ _ _ us hl => match us, hl with | [_], _ => rfl),
    g_80 := glo_ok X G (c.t.d.fact 78 (f := .glo "_law_right") rfl),
    f_81 := F_81,
    b_81 := (F_81.bindsN fun _ _ _ _ _ _ us hl => match us, hl with | [], _ => rfl),
    g_81 := glo_ok X G (c.t.d.fact 79 (f := .glo "_law_are_ends_right") rfl),
    f_82 := F_82,
    b_82 := (F_82.bindsN fun _ _ _ _ _ _ us hl => match us, hl with | [], _ => rfl),
    g_82 := glo_ok X G (c.t.d.fact 80 (f := .glo "_law_are_words_right") rfl),
    f_83 := F_83,
    b_83 := (F_83.bindsN fun _ _ _ _ _ _ us hl => match us, hl with | [], _ => rfl),
    g_83 := glo_ok X G (c.t.d.fact 81 (f := .glo "_law_are_trees_right") rfl),
    f_84 := F_84,
    b_84 := (F_84.bindsN fun _ _ _ _ _ _ us hl => match us, hl with | [_], _ => rfl),
    g_84 := glo_ok X G (c.t.d.fact 82 (f := .glo "law") rfl),
    cl_Place := cls_ok (c.t.d.fact 83 (f := .cls "Place") rfl),
    gc_Place := glo_ok X G (c.t.d.fact 84 (f := .glo "Place") rfl),
    mk_Place := mkr_ok (c.t.d.fact 85 (f := .mkr "Place") rfl),
    cl_Reader := cls_ok (c.t.d.fact 86 (f := .cls "Reader") rfl),
    gc_Reader := glo_ok X G (c.t.d.fact 87 (f := .glo "Reader") rfl),
    mk_Reader := mkr_ok (c.t.d.fact 88 (f := .mkr "Reader") rfl),
    t_at := (fldC_cons (S := su K) (c := 1) (i := 2) rfl (cls_ok (c.t.d.fact 86 (f := .cls "Reader") rfl)) (noat_ok (c.t.d.fact 89 (f := .noat "Reader" "at") rfl)) (by show (cFl 1).Nodup; decide +kernel) (by show (cFl 1).length < 900; decide +kernel) fldC_nil),
    t_depth := (fldC_cons (S := su K) (c := 0) (i := 1) rfl (cls_ok (c.t.d.fact 83 (f := .cls "Place") rfl)) (noat_ok (c.t.d.fact 90 (f := .noat "Place" "depth") rfl)) (by show (cFl 0).Nodup; decide +kernel) (by show (cFl 0).length < 900; decide +kernel) fldC_nil),
    t_need := (fldC_cons (S := su K) (c := 0) (i := 2) rfl (cls_ok (c.t.d.fact 83 (f := .cls "Place") rfl)) (noat_ok (c.t.d.fact 91 (f := .noat "Place" "need") rfl)) (by show (cFl 0).Nodup; decide +kernel) (by show (cFl 0).length < 900; decide +kernel) fldC_nil),
    t_pieces := (fldC_cons (S := su K) (c := 1) (i := 0) rfl (cls_ok (c.t.d.fact 86 (f := .cls "Reader") rfl)) (noat_ok (c.t.d.fact 92 (f := .noat "Reader" "pieces") rfl)) (by show (cFl 1).Nodup; decide +kernel) (by show (cFl 1).length < 900; decide +kernel) fldC_nil),
    t_right := (fldC_cons (S := su K) (c := 0) (i := 3) rfl (cls_ok (c.t.d.fact 83 (f := .cls "Place") rfl)) (noat_ok (c.t.d.fact 93 (f := .noat "Place" "right") rfl)) (by show (cFl 0).Nodup; decide +kernel) (by show (cFl 0).length < 900; decide +kernel) fldC_nil),
    t_size := (fldC_cons (S := su K) (c := 1) (i := 1) rfl (cls_ok (c.t.d.fact 86 (f := .cls "Reader") rfl)) (noat_ok (c.t.d.fact 94 (f := .noat "Reader" "size") rfl)) (by show (cFl 1).Nodup; decide +kernel) (by show (cFl 1).length < 900; decide +kernel) fldC_nil),
    t_value := (fldC_cons (S := su K) (c := 0) (i := 0) rfl (cls_ok (c.t.d.fact 83 (f := .cls "Place") rfl)) (noat_ok (c.t.d.fact 95 (f := .noat "Place" "value") rfl)) (by show (cFl 0).Nodup; decide +kernel) (by show (cFl 0).length < 900; decide +kernel) fldC_nil),
    n_abs := free_ok X G (c.t.d.fact 96 (f := .free "abs") rfl),
    n_all := free_ok X G (c.t.d.fact 97 (f := .free "all") rfl),
    n_bool := free_ok X G (c.t.d.fact 98 (f := .free "bool") rfl),
    n_divmod := free_ok X G (c.t.d.fact 99 (f := .free "divmod") rfl),
    n_enumerate := free_ok X G (c.t.d.fact 100 (f := .free "enumerate") rfl),
    n_int := free_ok X G (c.t.d.fact 101 (f := .free "int") rfl),
    n_isinstance := free_ok X G (c.t.d.fact 102 (f := .free "isinstance") rfl),
    n_len := free_ok X G (c.t.d.fact 103 (f := .free "len") rfl),
    n_list := free_ok X G (c.t.d.fact 104 (f := .free "list") rfl),
    n_max := free_ok X G (c.t.d.fact 105 (f := .free "max") rfl),
    n_min := free_ok X G (c.t.d.fact 106 (f := .free "min") rfl),
    n_range := free_ok X G (c.t.d.fact 107 (f := .free "range") rfl),
    n_reversed := free_ok X G (c.t.d.fact 108 (f := .free "reversed") rfl),
    n_str := free_ok X G (c.t.d.fact 109 (f := .free "str") rfl),
    n_tuple := free_ok X G (c.t.d.fact 110 (f := .free "tuple") rfl),
    n_zip := free_ok X G (c.t.d.fact 111 (f := .free "zip") rfl),
    c_BLANK := cst_ok X G (all_at (l := csL) (f := fun p => cstB K p.1 p.2) (i := 0) (a := ("BLANK", k_BLANK)) e1 rfl),
    c_FACTORS := cst_ok X G (all_at (l := csL) (f := fun p => cstB K p.1 p.2) (i := 1) (a := ("FACTORS", k_FACTORS)) e1 rfl),
    c_FIGURES := cst_ok X G (all_at (l := csL) (f := fun p => cstB K p.1 p.2) (i := 2) (a := ("FIGURES", k_FIGURES)) e1 rfl),
    c_LEAST_COEFS := cst_ok X G (all_at (l := csL) (f := fun p => cstB K p.1 p.2) (i := 3) (a := ("LEAST_COEFS", k_LEAST_COEFS)) e1 rfl),
    c_LINE_END := cst_ok X G (all_at (l := csL) (f := fun p => cstB K p.1 p.2) (i := 4) (a := ("LINE_END", k_LINE_END)) e1 rfl),
    c_MOST_COEFS := cst_ok X G (all_at (l := csL) (f := fun p => cstB K p.1 p.2) (i := 5) (a := ("MOST_COEFS", k_MOST_COEFS)) e1 rfl),
    c_MOST_DEPTH := cst_ok X G (all_at (l := csL) (f := fun p => cstB K p.1 p.2) (i := 6) (a := ("MOST_DEPTH", k_MOST_DEPTH)) e1 rfl),
    c_MOST_FACTORS := cst_ok X G (all_at (l := csL) (f := fun p => cstB K p.1 p.2) (i := 7) (a := ("MOST_FACTORS", k_MOST_FACTORS)) e1 rfl),
    c_MOST_FIGURES := cst_ok X G (all_at (l := csL) (f := fun p => cstB K p.1 p.2) (i := 8) (a := ("MOST_FIGURES", k_MOST_FIGURES)) e1 rfl),
    c_MOST_NUMERAL := cst_ok X G (all_at (l := csL) (f := fun p => cstB K p.1 p.2) (i := 9) (a := ("MOST_NUMERAL", k_MOST_NUMERAL)) e1 rfl),
    c_MOST_PLACES := cst_ok X G (all_at (l := csL) (f := fun p => cstB K p.1 p.2) (i := 10) (a := ("MOST_PLACES", k_MOST_PLACES)) e1 rfl),
    c_MOST_ROOT := cst_ok X G (all_at (l := csL) (f := fun p => cstB K p.1 p.2) (i := 11) (a := ("MOST_ROOT", k_MOST_ROOT)) e1 rfl),
    c_MOST_ROWS := cst_ok X G (all_at (l := csL) (f := fun p => cstB K p.1 p.2) (i := 12) (a := ("MOST_ROWS", k_MOST_ROWS)) e1 rfl),
    c_MOST_SIGNS := cst_ok X G (all_at (l := csL) (f := fun p => cstB K p.1 p.2) (i := 13) (a := ("MOST_SIGNS", k_MOST_SIGNS)) e1 rfl),
    c_MOST_TERMS := cst_ok X G (all_at (l := csL) (f := fun p => cstB K p.1 p.2) (i := 14) (a := ("MOST_TERMS", k_MOST_TERMS)) e1 rfl),
    c_MOST_TURN := cst_ok X G (all_at (l := csL) (f := fun p => cstB K p.1 p.2) (i := 15) (a := ("MOST_TURN", k_MOST_TURN)) e1 rfl),
    c_RUN_SIGNS := cst_ok X G (all_at (l := csL) (f := fun p => cstB K p.1 p.2) (i := 16) (a := ("RUN_SIGNS", k_RUN_SIGNS)) e1 rfl),
    c_SIGNS := cst_ok X G (all_at (l := csL) (f := fun p => cstB K p.1 p.2) (i := 17) (a := ("SIGNS", k_SIGNS)) e1 rfl),
    c_TERMS := cst_ok X G (all_at (l := csL) (f := fun p => cstB K p.1 p.2) (i := 18) (a := ("TERMS", k_TERMS)) e1 rfl),
    c_WORDS := cst_ok X G (all_at (l := csL) (f := fun p => cstB K p.1 p.2) (i := 19) (a := ("WORDS", k_WORDS)) e1 rfl),
    d_ASK_PARTS := dct_ok (S := su K) (c.t.tab 0 (t := (fun K => ga K "ASK_PARTS", [("on" : Str), ("inside" : Str), ("left" : Str), ("same" : Str), ("between" : Str), ("parallel" : Str), ("upright" : Str), ("touch" : Str)])) rfl) (all_at (l := dsL) (f := fun p => dctB K p.1 p.2) (i := 0) (a := ("ASK_PARTS", d_ASK_PARTS)) e2 rfl),
    gd_ASK_PARTS := glo_ok X G (c.t.d.fact 112 (f := .glo "ASK_PARTS") rfl),
    d_ASK_SIGNS := dct_ok (S := su K) (c.t.tab 1 (t := (fun K => ga K "ASK_SIGNS", [("<" : Str), ("=" : Str), (">" : Str)])) rfl) (all_at (l := dsL) (f := fun p => dctB K p.1 p.2) (i := 1) (a := ("ASK_SIGNS", d_ASK_SIGNS)) e2 rfl),
    gd_ASK_SIGNS := glo_ok X G (c.t.d.fact 113 (f := .glo "ASK_SIGNS") rfl),
    d_FACTOR_SIGNS := dct_ok (S := su K) (c.t.tab 2 (t := (fun K => ga K "FACTOR_SIGNS", [("times" : Str), ("over" : Str)])) rfl) (all_at (l := dsL) (f := fun p => dctB K p.1 p.2) (i := 2) (a := ("FACTOR_SIGNS", d_FACTOR_SIGNS)) e2 rfl),
    gd_FACTOR_SIGNS := glo_ok X G (c.t.d.fact 114 (f := .glo "FACTOR_SIGNS") rfl),
    d_FACTOR_WORDS := dct_ok (S := su K) (c.t.tab 3 (t := (fun K => ga K "FACTOR_WORDS", [("*" : Str), ("/" : Str)])) rfl) (all_at (l := dsL) (f := fun p => dctB K p.1 p.2) (i := 3) (a := ("FACTOR_WORDS", d_FACTOR_WORDS)) e2 rfl),
    gd_FACTOR_WORDS := glo_ok X G (c.t.d.fact 115 (f := .glo "FACTOR_WORDS") rfl),
    d_FIGURE_PARTS := dct_ok (S := su K) (c.t.tab 4 (t := (fun K => ga K "FIGURE_PARTS", [("point" : Str), ("line" : Str), ("circle" : Str), ("ring" : Str), ("meet" : Str), ("mid" : Str), ("foot" : Str), ("mirror" : Str), ("parallel" : Str), ("upright" : Str)])) rfl) (all_at (l := dsL) (f := fun p => dctB K p.1 p.2) (i := 4) (a := ("FIGURE_PARTS", d_FIGURE_PARTS)) e2 rfl),
    gd_FIGURE_PARTS := glo_ok X G (c.t.d.fact 116 (f := .glo "FIGURE_PARTS") rfl),
    d_POINT_WORDS := dct_ok (S := su K) (c.t.tab 5 (t := (fun K => ga K "POINT_WORDS", [("dist" : Str), ("x" : Str), ("y" : Str)])) rfl) (all_at (l := dsL) (f := fun p => dctB K p.1 p.2) (i := 5) (a := ("POINT_WORDS", d_POINT_WORDS)) e2 rfl),
    gd_POINT_WORDS := glo_ok X G (c.t.d.fact 117 (f := .glo "POINT_WORDS") rfl),
    d_TERM_SIGNS := dct_ok (S := su K) (c.t.tab 6 (t := (fun K => ga K "TERM_SIGNS", [("plus" : Str), ("less" : Str)])) rfl) (all_at (l := dsL) (f := fun p => dctB K p.1 p.2) (i := 6) (a := ("TERM_SIGNS", d_TERM_SIGNS)) e2 rfl),
    gd_TERM_SIGNS := glo_ok X G (c.t.d.fact 118 (f := .glo "TERM_SIGNS") rfl),
    d_TERM_WORDS := dct_ok (S := su K) (c.t.tab 7 (t := (fun K => ga K "TERM_WORDS", [("+" : Str), ("-" : Str)])) rfl) (all_at (l := dsL) (f := fun p => dctB K p.1 p.2) (i := 7) (a := ("TERM_WORDS", d_TERM_WORDS)) e2 rfl),
    gd_TERM_WORDS := glo_ok X G (c.t.d.fact 119 (f := .glo "TERM_WORDS") rfl),
    d_TREE_SIZES := dct_ok (S := su K) (c.t.tab 8 (t := (fun K => ga K "TREE_SIZES", [("numeral" : Str), ("name" : Str), ("minus" : Str), ("plus" : Str), ("less" : Str), ("times" : Str), ("over" : Str), ("sqrt" : Str), ("root" : Str), ("dist" : Str), ("x" : Str), ("y" : Str)])) rfl) (all_at (l := dsL) (f := fun p => dctB K p.1 p.2) (i := 8) (a := ("TREE_SIZES", d_TREE_SIZES)) e2 rfl),
    gd_TREE_SIZES := glo_ok X G (c.t.d.fact 120 (f := .glo "TREE_SIZES") rfl),
    x_InvalidText := exT_of (glo_ok X G (c.t.d.fact 121 (f := .glo "InvalidText") rfl)) (all_at (l := xsL) (f := fun p => exTB K p.1 p.2.1 p.2.2) (i := 0) (a := (("InvalidText" : Str), ([.type "ValueError", .type "Exception", .type "BaseException", .type "object"] : List Value), "ValueError.__new__")) e3 rfl) X_InvalidText,
    x_Halt := exT_of (glo_ok X G (c.t.d.fact 122 (f := .glo "Halt") rfl)) (all_at (l := xsL) (f := fun p => exTB K p.1 p.2.1 p.2.2) (i := 1) (a := (("Halt" : Str), ([.type "Exception", .type "BaseException", .type "object"] : List Value), "Exception.__new__")) e3 rfl) X_Halt }
end T

end

section
set_option Elab.async false
set_option linter.all false
set_option maxRecDepth 100000
set_option maxHeartbeats 4000000
namespace T
open PySem Sh
/-! ### loops -/
theorem foR_end {src : Src} {g : Gt} {b : Sm} {f i : Nat} {s : Sl} {h : Hd} (e : src.at i h = some none) : foR src g b (f + 1) i s h = .nx s h := by
  unfold foR
  rw [e]
theorem foR_go {src : Src} {g : Gt} {b : Sm} {f i : Nat} {s s1 s2 : Sl} {h h1 h2 : Hd} {d : D} (e : src.at i h = some (some d)) (eg : g d s h = .ok s1 h1) (eb : b s1 h1 = .nx s2 h2) : foR src g b (f + 1) i s h = foR src g b f (i + 1) s2 h2 := by
  conv => lhs; unfold foR
  rw [e]
  show rS (g d s h) s _ = _
  rw [eg]
  show (match b s1 h1 with
    | .nx s2 h2 => foR src g b f (i + 1) s2 h2
    | .ct s2 h2 => foR src g b f (i + 1) s2 h2
    | .bk s2 h2 => .nx s2 h2
    | .rt d h2 => .rt d h2
    | .exc c fs s2 h2 => .exc c fs s2 h2
    | .no => .no) = _
  rw [eb]
theorem whR_go {t : Ext} {b : Sm} {f : Nat} {s s2 : Sl} {h h1 h2 : Hd} (e : t s h = .ok true h1) (eb : b s h1 = .nx s2 h2) : whR t b (f + 1) s h = whR t b f s2 h2 := by
  conv => lhs; unfold whR
  rw [e]
  show (match b s h1 with
      | .nx s2 h2 => whR t b f s2 h2
      | .ct s2 h2 => whR t b f s2 h2
      | .bk s2 h2 => .nx s2 h2
      | .rt d h2 => .rt d h2
      | .exc c fs s2 h2 => .exc c fs s2 h2
      | .no => .no) = _
  rw [eb]
theorem whR_end {t : Ext} {b : Sm} {f : Nat} {s : Sl} {h h1 : Hd} (e : t s h = .ok false h1) : whR t b (f + 1) s h = .nx s h1 := by
  unfold whR
  rw [e]
  rfl
theorem sSq_nx {a b : Sm} {s s1 : Sl} {h h1 : Hd} (e : a s h = .nx s1 h1) : sSq a b s h = b s1 h1 := by
  unfold sSq
  rw [e]

/-! ### ints -/
theorem log_lt {n k : Nat} (hk : 0 < k) (h : n < 2 ^ k) : n.log2 < k := by
  by_cases z : n = 0
  · subst z
    simpa using hk
  · exact (Nat.log2_lt z).mpr h
/-! ### evaluation, composed -/
theorem ev2 {op : D → D → Hd → R D} {a b : Ex} {s : Sl} {h h1 h2 : Hd} {x y : D} {r : R D} (ea : a s h = .ok x h1) (eb : b s h1 = .ok y h2) (eo : op x y h2 = r) : e2 op a b s h = r := by
  unfold e2
  rw [ea]
  show R.bind (b s h1) _ = _
  rw [eb]
  exact eo
theorem ev1 {op : D → Hd → R D} {a : Ex} {s : Sl} {h h1 : Hd} {x : D} {r : R D} (ea : a s h = .ok x h1) (eo : op x h1 = r) : e1 op a s h = r := by
  unfold e1
  rw [ea]
  exact eo
theorem eva1 {a : Ex} {r : Exs} {s : Sl} {h h1 h2 : Hd} {x : D} {xs : List D} (ea : a s h = .ok x h1) (er : r s h1 = .ok xs h2) : as1 a r s h = .ok (x :: xs) h2 := by
  unfold as1
  rw [ea]
  show R.bind (r s h1) _ = _
  rw [er]
  rfl
theorem evB {op : List D → Hd → R D} {a : Exs} {s : Sl} {h h1 : Hd} {xs : List D} {r : R D} (ea : a s h = .ok xs h1) (eo : op xs h1 = r) : eB op a s h = r := by
  unfold eB
  rw [ea]
  exact eo
theorem evB1 {op : List D → Hd → R D} {a : Ex} {s : Sl} {h h1 : Hd} {x : D} {r : R D} (ea : a s h = .ok x h1) (eo : op [x] h1 = r) : eB op (as1 a as0) s h = r := evB (eva1 ea rfl) eo
theorem evSet {i : Nat} {e : Ex} {s : Sl} {h h1 : Hd} {d : D} (ee : e s h = .ok d h1) : sSet i e s h = .nx (s.set i (some d)) h1 := by
  unfold sSet
  rw [ee]
  rfl
theorem evAdd {a b : Ex} {s : Sl} {h h1 h2 : Hd} {i j : Int} (ea : a s h = .ok (.int i) h1) (eb : b s h1 = .ok (.int j) h2) : e2 oAdd a b s h = .ok (.int (i + j)) h2 := ev2 ea eb rfl
theorem evMul {a b : Ex} {s : Sl} {h h1 h2 : Hd} {i j : Int} (ea : a s h = .ok (.int i) h1) (eb : b s h1 = .ok (.int j) h2) (hi : i.natAbs < 2 ^ 62) (hj : j.natAbs < 2 ^ 62) : e2 oMul a b s h = .ok (.int (i * j)) h2 := by
  refine ev2 ea eb ?_
  have h1 := log_lt (by omega) hi
  have h2 := log_lt (by omega) hj
  show (if i.natAbs.log2 + j.natAbs.log2 < 1000000 then _ else _) = _
  rw [if_pos (by omega)]
theorem evMod {a b : Ex} {s : Sl} {h h1 h2 : Hd} {i j : Int} (ea : a s h = .ok (.int i) h1) (eb : b s h1 = .ok (.int j) h2) (hj : 0 < j) : e2 oMod a b s h = .ok (.int (i % j)) h2 := ev2 ea eb (if_pos hj)
theorem evInt {a : Ex} {s : Sl} {h h1 : Hd} {i : Int} (ea : a s h = .ok (.int i) h1) : eB oInt (as1 a as0) s h = .ok (.int i) h1 := evB1 ea rfl

/-- the loop's step -/
def nxt (deep c : Int) (i : Nat) : Int := (deep * 2685821657736338717 + c % 1000000009 * (7 * i + 5) + 19) % 4611686018427387847
theorem nxt_ok (deep c : Int) (i : Nat) : 0 ≤ nxt deep c i ∧ nxt deep c i < 4611686018427387847 := ⟨Int.emod_nonneg _ (by decide), Int.emod_lt_of_pos _ (by decide)⟩
def fBody : Sm := sSet 3 (e2 oMod (eB oInt (as1 (e2 oAdd (e2 oAdd (e2 oMul (eV 3) (eC (.int 2685821657736338717))) (e2 oMul (e2 oMod (eB oInt (as1 (eV 5) as0)) (eC (.int 1000000009))) (e2 oAdd (e2 oMul (eC (.int 7)) (eV 4)) (eC (.int 5))))) (eC (.int 19))) as0)) (eC (.int 4611686018427387847)))
theorem fbody_ok {x0 x1 x2 : Option D} {deep c : Int} {i : Nat} {h : Hd} (hd : 0 ≤ deep ∧ deep < 4611686018427387847) (hi : i < 100) :
    fBody [x0, x1, x2, some (.int deep), some (.int i), some (.int c)] h = .nx [x0, x1, x2, some (.int (nxt deep c i)), some (.int i), some (.int c)] h := by
  have hc : 0 ≤ c % 1000000009 ∧ c % 1000000009 < 1000000009 := ⟨Int.emod_nonneg _ (by decide), Int.emod_lt_of_pos _ (by decide)⟩
  have hA : (2685821657736338717 : Int).natAbs < 2 ^ 62 := by decide
  have h7 : (7 : Int).natAbs < 2 ^ 62 := by decide
  exact evSet (evMod (evInt (evAdd (evAdd (evMul rfl rfl (by omega) hA) (evMul (evMod (evInt rfl) rfl (by decide)) (evAdd (evMul rfl rfl h7 (by omega)) rfl) (by omega) (by omega))) rfl)) rfl (by decide))
def gE : Gt := gT (gs1 (gN 4) (gs1 (gN 5) gs0))
theorem floop {x0 x1 x2 : Option D} {hd : Hd} {L : List Int} (h0 : hd[0]? = some (.lst (L.map D.int))) (hL : L.length < 90) : ∀ (f i : Nat) (deep : Int) (x4 x5 : Option D), L.length < f + i → i ≤ L.length → 0 ≤ deep ∧ deep < 4611686018427387847 →
    ∃ deep' y4 y5, foR (.enm (.obj 0)) gE fBody f i [x0, x1, x2, some (.int deep), x4, x5] hd = .nx [x0, x1, x2, some (.int deep'), y4, y5] hd ∧ 0 ≤ deep' ∧ deep' < 4611686018427387847
  | 0, i, deep, x4, x5, h1, h2, _ => absurd h1 (by omega)
  | f + 1, i, deep, x4, x5, h1, h2, hd' => by
    have hs : sqAt (.obj 0) i hd = some (L.map D.int)[i]? := by
      show (match lsts (.obj 0) hd with | some xs => some xs[i]? | none => none) = _
      have : lsts (.obj 0) hd = some (L.map D.int) := by
        show (match hd[0]? with | some (.lst a) => some a | _ => none) = _
        rw [h0]
      rw [this]
    by_cases hi : i < L.length
    · have e1 : (L.map D.int)[i]? = some (.int L[i]) := by rw [List.getElem?_map, List.getElem?_eq_getElem hi]; rfl
      have e : Src.at (.enm (.obj 0)) i hd = some (some (.tup [.int i, .int L[i]])) := by
        show (match sqAt (.obj 0) i hd with
          | some (some d) => some (some (D.tup [.int i, d]))
          | some none => some none
          | none => none) = _
        rw [hs, e1]
      rw [foR_go (s1 := [x0, x1, x2, some (.int deep), some (.int i), some (.int L[i])]) e rfl (fbody_ok hd' (by omega))]
      exact floop h0 hL f (i + 1) _ _ _ (by omega) (by omega) (nxt_ok _ _ _)
    · have e1 : (L.map D.int)[i]? = none := by rw [List.getElem?_eq_none]; simpa using Nat.le_of_not_lt hi
      have e : Src.at (.enm (.obj 0)) i hd = some none := by
        show (match sqAt (.obj 0) i hd with
          | some (some d) => some (some (D.tup [.int i, d]))
          | some none => some none
          | none => none) = _
        rw [hs, e1]
      exact ⟨deep, x4, x5, foR_end e, hd'⟩
end T

end

section
set_option Elab.async false
set_option linter.all false
set_option maxRecDepth 100000
set_option maxHeartbeats 4000000
namespace T
open PySem Sh
theorem evIf_tt {t : Ext} {a b : Ex} {s : Sl} {h h1 : Hd} {r : R D} (et : t s h = .ok true h1) (er : a s h1 = r) : eIf t a b s h = r := by
  unfold eIf
  rw [et]
  exact er
theorem evIf_ff {t : Ext} {a b : Ex} {s : Sl} {h h1 : Hd} {r : R D} (et : t s h = .ok false h1) (er : b s h1 = r) : eIf t a b s h = r := by
  unfold eIf
  rw [et]
  exact er
theorem evT1 {e : Ex} {s : Sl} {h h1 : Hd} {b : Bool} (ee : e s h = .ok (.bl b) h1) : tB1 e s h = .ok b h1 := by
  unfold tB1
  rw [ee]
  rfl
theorem sIf_tt {t : Ext} {a b : Sm} {s : Sl} {h h1 : Hd} (et : t s h = .ok true h1) : sIf t a b s h = a s h1 := by
  unfold sIf
  rw [et]
  rfl
theorem sIf_ff {t : Ext} {a b : Sm} {s : Sl} {h h1 : Hd} (et : t s h = .ok false h1) : sIf t a b s h = b s h1 := by
  unfold sIf
  rw [et]
  rfl
theorem sFo_of {e : Ei} {g : Gt} {b : Sm} {s : Sl} {h h1 : Hd} {src : Src} (ee : e s h = .ok src h1) : sFo e g b s h = foR src g b M 0 s h1 := by
  unfold sFo
  rw [ee]
  rfl
theorem sRet_of {e : Ex} {s : Sl} {h h1 : Hd} {d : D} (ee : e s h = .ok d h1) : sRet e s h = .rt d h1 := by
  unfold sRet
  rw [ee]
  rfl
theorem atI_nat {α : Type} {xs : List α} {n : Nat} (h : n < xs.length) : L2.atI xs (n : Int) = some xs[n] := by
  unfold L2.atI L2.ixN
  rw [if_pos (by omega), if_pos (by omega)]
  show xs[(n : Int).toNat]? = _
  rw [show (n : Int).toNat = n from rfl, List.getElem?_eq_getElem h]
theorem cut_map {α β : Type} (f : α → β) (xs : List α) (lo hi : Option Int) : cut (xs.map f) lo hi = (cut xs lo hi).map f := by
  unfold cut
  rw [List.length_map, List.map_take, List.map_drop]
theorem cut_34 (ns : List Int) : (cut ns none (some 34)).length < 90 := by
  unfold cut
  have e : HT.sIx ns.length ns.length (some 34) = min 34 ns.length := HT.sIx_nat ns.length ns.length 34
  rw [e]
  show ((ns.drop (HT.sIx ns.length 0 none)).take (min 34 ns.length - HT.sIx ns.length 0 none)).length < 90
  rw [List.length_take]
  omega
theorem fnR_of {np n : Nat} {b : Sm} {xs : List D} {h : Hd} {r : RS} {q : R D} (hl : xs.length = np) (e : b (xs.map some ++ List.replicate (n - np) none) h = r) (eq : toR r = q) : fnR np n b xs h = q := by
  unfold fnR
  rw [if_pos hl, e]
  exact eq
theorem forge_ok (G : Nat → Fn) (ns : List Int) (lap : Nat) (hlap : lap < 3) :
    ∃ a d h, c_73 G [.fl (ns.map D.int), .int lap] [] = .ok (.obj 1) h ∧ h[1]? = some (.lst [.int a, .int d]) ∧ 0 ≤ a ∧ 0 ≤ d ∧ d < 4611686018427387847 := by
  have h1 : ∃ own : Int, (sSet 2 (eIf (tB1 (e2 oLt (eV 1) (eB oLen (as1 (eV 0) as0)))) (eB oInt (as1 (e2 oIx (eV 0) (eV 1)) as0)) (e2 oAdd (eC (.int 1875)) (e2 oMul (eC (.int 43)) (eV 1)))))
      [some (.fl (ns.map D.int)), some (.int lap), none, none, none, none] [] = .nx [some (.fl (ns.map D.int)), some (.int lap), some (.int own), none, none, none] [] := by
    have et : tB1 (e2 oLt (eV 1) (eB oLen (as1 (eV 0) as0))) [some (.fl (ns.map D.int)), some (.int lap), none, none, none, none] [] = .ok (decide ((lap : Int) < ((ns.map D.int).length : Nat))) [] := evT1 rfl
    by_cases hl : lap < ns.length
    · have hc : decide ((lap : Int) < ((ns.map D.int).length : Nat)) = true := decide_eq_true (by rw [List.length_map]; omega)
      rw [hc] at et
      have hx : L2.atI (ns.map D.int) (lap : Int) = some (D.int ns[lap]) := by
        rw [atI_nat (by rw [List.length_map]; exact hl), List.getElem_map]
      refine ⟨ns[lap], evSet (evIf_tt et (evInt (ev2 rfl rfl ?_)))⟩
      show (match L2.atI (ns.map D.int) (lap : Int) with
        | some d => R.ok d ([] : Hd)
        | none => .no) = _
      rw [hx]
    · have hc : decide ((lap : Int) < ((ns.map D.int).length : Nat)) = false := decide_eq_false (by rw [List.length_map]; omega)
      rw [hc] at et
      exact ⟨_, evSet (evIf_ff et (evAdd rfl (evMul rfl rfl (by decide) (by omega))))⟩
  obtain ⟨own, h1⟩ := h1
  have hd0 : 0 ≤ (200329 + 31 * (lap : Int)) ∧ (200329 + 31 * (lap : Int)) < 4611686018427387847 := by omega
  have h2 : sSet 3 (e2 oAdd (eC (.int 200329)) (e2 oMul (eC (.int 31)) (eV 1))) [some (.fl (ns.map D.int)), some (.int lap), some (.int own), none, none, none] [] =
      .nx [some (.fl (ns.map D.int)), some (.int lap), some (.int own), some (.int (200329 + 31 * lap)), none, none] [] := evSet (evAdd rfl (evMul rfl rfl (by decide) (by omega)))
  -- the slice
  have hc0 : cut (ns.map D.int) none (some 34) = (cut ns none (some 34)).map D.int := cut_map _ _ _ _
  have h3 : iEnA (as1 (eCut (eV 0) none (some (eC (.int 34)))) as0) [some (.fl (ns.map D.int)), some (.int lap), some (.int own), some (.int (200329 + 31 * lap)), none, none] [] =
      .ok (.enm (.obj 0)) [.lst ((cut ns none (some 34)).map D.int)] := by
    have e0 : eCut (eV 0) none (some (eC (.int 34))) [some (.fl (ns.map D.int)), some (.int lap), some (.int own), some (.int (200329 + 31 * lap)), none, none] [] = .ok (.obj 0) [.lst ((cut ns none (some 34)).map D.int)] := by
      show newL (cut (ns.map D.int) none (some 34)) [] = _
      rw [hc0]
      unfold newL
      rw [if_pos (by rw [List.length_map]; have := cut_34 ns; unfold M; omega)]
      rfl
    unfold iEnA
    rw [eva1 e0 rfl]
    rfl
  obtain ⟨deep, y4, y5, h4, hd4⟩ := floop (x0 := some (.fl (ns.map D.int))) (x1 := some (.int lap)) (x2 := some (.int own)) (hd := [.lst ((cut ns none (some 34)).map D.int)]) (L := cut ns none (some 34)) rfl (cut_34 ns) M 0 (200329 + 31 * lap) none none (by have := cut_34 ns; unfold M; omega) (Nat.zero_le _) hd0
  let hh : Hd := [.lst ((cut ns none (some 34)).map D.int)]
  have ho : 0 ≤ own % 1000000009 ∧ own % 1000000009 < 1000000009 := ⟨Int.emod_nonneg _ (by decide), Int.emod_lt_of_pos _ (by decide)⟩
  let d2 : Int := (deep * 2685821657736338717 + own % 1000000009 + 23) % 4611686018427387847
  have hd2 : 0 ≤ d2 ∧ d2 < 4611686018427387847 := ⟨Int.emod_nonneg _ (by decide), Int.emod_lt_of_pos _ (by decide)⟩
  have h5 : sSet 3 (e2 oMod (eB oInt (as1 (e2 oAdd (e2 oAdd (e2 oMul (eV 3) (eC (.int 2685821657736338717))) (e2 oMod (eV 2) (eC (.int 1000000009)))) (eC (.int 23))) as0)) (eC (.int 4611686018427387847)))
      [some (.fl (ns.map D.int)), some (.int lap), some (.int own), some (.int deep), y4, y5] hh = .nx [some (.fl (ns.map D.int)), some (.int lap), some (.int own), some (.int d2), y4, y5] hh :=
    evSet (evMod (evInt (evAdd (evAdd (evMul rfl rfl (by omega) (by decide)) (evMod rfl rfl (by decide))) rfl)) rfl (by decide))
  have h6 : ∃ a : Int, 0 ≤ a ∧ eIf (tO (tB1 (e2 oLt (eV 2) (eC (.int 0)))) (tB1 (e2 oGe (eV 2) (e2 oPow (eC (.int 10)) (eC (.int 18)))))) (e2 oMod (eB oInt (as1 (eB oAbs (as1 (eV 2) as0)) as0)) (e2 oPow (eC (.int 10)) (eC (.int 50)))) (eC (.int 0))
      [some (.fl (ns.map D.int)), some (.int lap), some (.int own), some (.int d2), y4, y5] hh = .ok (.int a) hh := by
    have k1 : tB1 (e2 oLt (eV 2) (eC (.int 0))) [some (.fl (ns.map D.int)), some (.int lap), some (.int own), some (.int d2), y4, y5] hh = .ok (decide (own < 0)) hh := evT1 rfl
    have p18 : e2 oPow (eC (.int 10)) (eC (.int 18)) [some (.fl (ns.map D.int)), some (.int lap), some (.int own), some (.int d2), y4, y5] hh = .ok (.int (10 ^ 18)) hh := ev2 rfl rfl rfl
    have p50 : e2 oPow (eC (.int 10)) (eC (.int 50)) [some (.fl (ns.map D.int)), some (.int lap), some (.int own), some (.int d2), y4, y5] hh = .ok (.int (10 ^ 50)) hh := ev2 rfl rfl rfl
    have k2 : tB1 (e2 oGe (eV 2) (e2 oPow (eC (.int 10)) (eC (.int 18)))) [some (.fl (ns.map D.int)), some (.int lap), some (.int own), some (.int d2), y4, y5] hh = .ok (decide ((10 ^ 18 : Int) ≤ own)) hh := evT1 (ev2 rfl p18 rfl)
    have k : ∃ b, tO (tB1 (e2 oLt (eV 2) (eC (.int 0)))) (tB1 (e2 oGe (eV 2) (e2 oPow (eC (.int 10)) (eC (.int 18))))) [some (.fl (ns.map D.int)), some (.int lap), some (.int own), some (.int d2), y4, y5] hh = .ok b hh := by
      unfold tO
      rw [k1]
      cases decide (own < 0) with
      | true => exact ⟨true, rfl⟩
      | false => exact ⟨_, k2⟩
    obtain ⟨b, k⟩ := k
    cases b with
    | true => exact ⟨_, Int.emod_nonneg _ (by decide), evIf_tt k (evMod (evInt (evB1 rfl rfl)) p50 (by decide))⟩
    | false => exact ⟨0, by omega, evIf_ff k rfl⟩
  obtain ⟨a, ha, h6⟩ := h6
  refine ⟨a, d2, hh ++ [.lst [.int a, .int d2]], ?_, rfl, ha, hd2.1, hd2.2⟩
  have h7 : b_73 G [some (.fl (ns.map D.int)), some (.int lap), none, none, none, none] [] = .rt (.obj 1) (hh ++ [.lst [.int a, .int d2]]) := by
    have h8 : eLst (as1 (eIf (tO (tB1 (e2 oLt (eV 2) (eC (.int 0)))) (tB1 (e2 oGe (eV 2) (e2 oPow (eC (.int 10)) (eC (.int 18)))))) (e2 oMod (eB oInt (as1 (eB oAbs (as1 (eV 2) as0)) as0)) (e2 oPow (eC (.int 10)) (eC (.int 50)))) (eC (.int 0))) (as1 (eV 3) as0))
        [some (.fl (ns.map D.int)), some (.int lap), some (.int own), some (.int d2), y4, y5] hh = .ok (.obj 1) (hh ++ [.lst [.int a, .int d2]]) := by
      unfold eLst
      rw [eva1 h6 (eva1 rfl rfl)]
      rfl
    exact (sSq_nx h1).trans ((sSq_nx h2).trans ((sSq_nx ((sFo_of h3).trans h4)).trans ((sSq_nx h5).trans (sRet_of h8))))
  exact fnR_of rfl h7 rfl
end T

end

section
set_option Elab.async false
set_option linter.all false
set_option maxRecDepth 100000
set_option maxHeartbeats 4000000
namespace T
open PySem Sh
/-- the forge's list -/
def Fg (a d : Int) : Prop := 0 ≤ a ∧ 0 ≤ d ∧ d < 4611686018427387847
theorem sAsg_of {e : Ex} {g : Gt} {s s2 : Sl} {h h1 h2 : Hd} {d : D} (ee : e s h = .ok d h1) (eg : g d s h1 = .ok s2 h2) : sAsg e g s h = .nx s2 h2 := by
  unfold sAsg
  rw [ee]
  show rS (g d s h1) s _ = _
  rw [eg]
  rfl
theorem strike_ok (G : Nat → Fn) {a d : Int} (m : Int) (hm : m = 2 ∨ m = 3) (hf : Fg a d) :
    ∃ t a' d', c_74 G [.obj 0, .int m] [.lst [.int a, .int d]] = .ok (.int t) [.lst [.int a', .int d']] ∧ 0 ≤ t ∧ t < m ∧ Fg a' d' := by
  obtain ⟨h1, h2, h3⟩ := hf
  have hm0 : 0 < m := by omega
  by_cases hp : 0 < a
  · have et : tB1 (e2 oGt (e2 oIx (eV 0) (eC (.int 0))) (eC (.int 0))) [some (.obj 0), some (.int m), none] [.lst [.int a, .int d]] = .ok (decide (0 < a)) [.lst [.int a, .int d]] := evT1 rfl
    rw [decide_eq_true hp] at et
    have e1 : eB oDm (as1 (e2 oIx (eV 0) (eC (.int 0))) (as1 (eV 1) as0)) [some (.obj 0), some (.int m), none] [.lst [.int a, .int d]] = .ok (.tup [.int (a / m), .int (a % m)]) [.lst [.int a, .int d]] := by
      refine evB (xs := [.int a, .int m]) rfl ?_
      show (if 0 < m ∧ m < 1073741824 then _ else _) = _
      rw [if_pos (by omega)]
    refine ⟨a % m, a / m, d, fnR_of (r := .rt (.int (a % m)) [.lst [.int (a / m), .int d]]) rfl ?_ rfl, Int.emod_nonneg _ (by omega), Int.emod_lt_of_pos _ hm0, Int.ediv_nonneg h1 (by omega), h2, h3⟩
    show b_74 G [some (.obj 0), some (.int m), none] [.lst [.int a, .int d]] = _
    have e2' : sSq (sAsg (eB oDm (as1 (e2 oIx (eV 0) (eC (.int 0))) (as1 (eV 1) as0))) (gT (gs1 (gSb (eV 0) (eC (.int 0))) (gs1 (gN 2) gs0)))) (sRet (eV 2)) [some (.obj 0), some (.int m), none] [.lst [.int a, .int d]] = .rt (.int (a % m)) [.lst [.int (a / m), .int d]] :=
      (sSq_nx (sAsg_of e1 (s2 := [some (.obj 0), some (.int m), some (.int (a % m))]) (h2 := [.lst [.int (a / m), .int d]]) rfl)).trans rfl
    have e3 := (sIf_tt (a := sSq (sAsg (eB oDm (as1 (e2 oIx (eV 0) (eC (.int 0))) (as1 (eV 1) as0))) (gT (gs1 (gSb (eV 0) (eC (.int 0))) (gs1 (gN 2) gs0)))) (sRet (eV 2))) (b := sPs) et).trans e2'
    show sSq (sIf _ _ _) _ _ _ = _
    unfold sSq
    unfold sSq at e3
    rw [e3]
  · have et : tB1 (e2 oGt (e2 oIx (eV 0) (eC (.int 0))) (eC (.int 0))) [some (.obj 0), some (.int m), none] [.lst [.int a, .int d]] = .ok (decide (0 < a)) [.lst [.int a, .int d]] := evT1 rfl
    rw [decide_eq_false hp] at et
    let d2 : Int := (d * 4768777513237032717 + 3141592653589793239) % 4611686018427387847
    have hd2 : 0 ≤ d2 ∧ d2 < 4611686018427387847 := ⟨Int.emod_nonneg _ (by decide), Int.emod_lt_of_pos _ (by decide)⟩
    have e1 : e2 oMod (eB oInt (as1 (e2 oAdd (e2 oMul (e2 oIx (eV 0) (eC (.int 1))) (eC (.int 4768777513237032717))) (eC (.int 3141592653589793239))) as0)) (eC (.int 4611686018427387847)) [some (.obj 0), some (.int m), none] [.lst [.int a, .int d]] = .ok (.int d2) [.lst [.int a, .int d]] := by
      refine evMod (evInt (evAdd (ev2 (x := .int d) (y := .int 4768777513237032717) rfl rfl ?_) rfl)) rfl (by decide)
      have l1 := log_lt (k := 62) (by omega) (n := d.natAbs) (by omega)
      have l2 := log_lt (k := 64) (by omega) (n := (4768777513237032717 : Int).natAbs) (by decide)
      show (if d.natAbs.log2 + (4768777513237032717 : Int).natAbs.log2 < 1000000 then _ else _) = _
      rw [if_pos (by omega)]
    have hdv : 0 ≤ d2 / 2097152 := Int.ediv_nonneg hd2.1 (by decide)
    refine ⟨d2 / 2097152 % m, a, d2, fnR_of (r := .rt (.int (d2 / 2097152 % m)) [.lst [.int a, .int d2]]) rfl ?_ rfl, Int.emod_nonneg _ (by omega), Int.emod_lt_of_pos _ hm0, h1, hd2⟩
    show sSq (sIf _ _ _) _ [some (.obj 0), some (.int m), none] [.lst [.int a, .int d]] = _
    refine (sSq_nx ((sIf_ff et).trans rfl)).trans ?_
    refine (sSq_nx (sAsg_of e1 (s2 := [some (.obj 0), some (.int m), none]) (h2 := [.lst [.int a, .int d2]]) rfl)).trans ?_
    exact sRet_of (evMod (evInt (ev2 (x := .int d2) rfl rfl rfl)) rfl hm0)
end T

end

section
set_option Elab.async false
set_option linter.all false
set_option maxRecDepth 100000
set_option maxHeartbeats 4000000
namespace T
open PySem Sh
theorem flts_ints : ∀ ns : List Int, D.flts (ns.map D.int) = true
  | [] => rfl
  | n :: ns => by
    show (D.flt (.int n) && D.flts (ns.map D.int)) = true
    rw [flts_ints ns]
    rfl
/-- what the law's forges are asked -/
def RightOk (f : Fn) : Prop := ∀ a d : Int, Fg a d → ∃ ys tl, f [.obj 0] [.lst [.int a, .int d]] = .ok (.bl true) (.lst ys :: tl) ∧ D.pures ys = true
theorem eP_of {f : Fn} {a : Exs} {s : Sl} {h h1 h2 : Hd} {xs ys : List D} {j : Nat} (ea : a s h = .ok xs h1) (hx : D.flts xs = true) (ef : f xs [] = .ok (.obj j) h2) (ej : h2[j]? = some (.lst ys)) (hy : D.pures ys = true) : eP f a s h = .ok (.obj h1.length) (h1 ++ [.lst ys]) := by
  unfold eP
  rw [ea]
  show (if D.flts xs = true then (match f xs [] with
  | .ok (.obj j) h2 => match h2[j]? with
    | some (.lst ys) => if D.pures ys = true then R.ok (D.obj h1.length) (h1 ++ [O.lst ys]) else .no
    | _ => .no
  | _ => .no) else .no) = _
  rw [if_pos hx, ef]
  show (match h2[j]? with
    | some (.lst ys) => if D.pures ys = true then R.ok (D.obj h1.length) (h1 ++ [O.lst ys]) else .no
    | _ => .no) = _
  rw [ej]
  show (if D.pures ys = true then R.ok (D.obj h1.length) (h1 ++ [O.lst ys]) else .no) = _
  rw [if_pos hy]
theorem eL_of {f : Fn} {a : Exs} {s : Sl} {h h1 : Hd} {i : Nat} {r zs ys : List D} {tl : Hd} {d : D} (ea : a s h = .ok (.obj i :: r) h1) (ez : h1[i]? = some (.lst zs)) (hz : D.pures zs = true ∧ D.pures r = true) (ef : f (.obj 0 :: r) [.lst zs] = .ok d (.lst ys :: tl)) (hy : d.pure = true ∧ D.pures ys = true) :
    eL f a s h = .ok d (h1.set i (.lst ys)) := by
  unfold eL
  rw [ea]
  show (match h1[i]? with
    | some (.lst zs) => if D.pures zs = true ∧ D.pures r = true then (match f (.obj 0 :: r) [.lst zs] with
      | .ok d h2 => lR i h1 d h2
      | _ => .no) else .no
    | _ => .no) = _
  rw [ez]
  show (if D.pures zs = true ∧ D.pures r = true then (match f (.obj 0 :: r) [.lst zs] with
      | .ok d h2 => lR i h1 d h2
      | _ => .no) else .no) = _
  rw [if_pos hz, ef]
  show (if d.pure = true ∧ D.pures ys = true then R.ok d (h1.set i (O.lst ys)) else .no) = _
  rw [if_pos hy]
theorem last_get {α : Type} (h : List α) (x : α) : (h ++ [x])[h.length]? = some x := by simp
theorem co_all {te : Ex} {L : List D} {n : Nat} (hn : n ≤ 100) (H : ∀ (i : Nat) (h : Hd), i < n → ∃ h', te [some (.fl L), some (.int (0 + (i : Int)))] h = .ok (.bl true) h') : ∀ (f i : Nat) (acc : List D) (h : Hd), n < f + i → i ≤ n → acc.length = i →
    ∃ h', coR (.rng 0 n) (.nm 1) tYs te f i acc [some (.fl L), none] h = .ok (acc.reverse ++ List.replicate (n - i) (.bl true)) h'
  | 0, i, acc, h, h1, h2, h3 => absurd h1 (by omega)
  | f + 1, i, acc, h, h1, h2, h3 => by
    by_cases hi : i < n
    · have e : Src.at (.rng 0 n) i h = some (some (.int (0 + (i : Int)))) := by
        show some (if i < n then some (D.int (0 + i)) else none) = _
        rw [if_pos hi]
      obtain ⟨h', et⟩ := H i h hi
      obtain ⟨h'', er⟩ := co_all hn H f (i + 1) (.bl true :: acc) h' (by omega) (by omega) (by rw [List.length_cons, h3])
      refine ⟨h'', ?_⟩
      have e5 : coR (.rng 0 n) (.nm 1) tYs te (f + 1) i acc [some (.fl L), none] h = coR (.rng 0 n) (.nm 1) tYs te f (i + 1) (.bl true :: acc) [some (.fl L), none] h' := by
        conv => lhs; unfold coR
        rw [e]
        show (noX (te [some (.fl L), some (.int (0 + (i : Int)))] h)).bind _ = _
        rw [et]
        show (if acc.length < M then coR (.rng 0 n) (.nm 1) tYs te f (i + 1) (.bl true :: acc) [some (.fl L), none] h' else .no) = _
        rw [if_pos (by unfold M; omega)]
      rw [e5, er, List.reverse_cons, List.append_assoc, show n - i = (n - (i + 1)) + 1 by omega, List.replicate_succ]
      rfl
    · have hin : i = n := by omega
      have e : Src.at (.rng 0 n) i h = some none := by
        show some (if i < n then some (D.int (0 + i)) else none) = _
        rw [if_neg hi]
      refine ⟨h, ?_⟩
      unfold coR
      rw [e]
      show (if acc.length ≤ M then R.ok acc.reverse h else .no) = _
      rw [if_pos (by unfold M; omega), hin, Nat.sub_self]
      simp
theorem any_rep (n : Nat) : (List.replicate n (D.bl true)).any (fun y => eqF y (.bl false)) = false := by
  induction n with
  | zero => rfl
  | succ n ih => rw [List.replicate_succ, List.any_cons, ih]; rfl
theorem all_flat (n : Nat) : (List.replicate n (D.bl true)).all D.flat = true := by
  induction n with
  | zero => rfl
  | succ n ih => rw [List.replicate_succ, List.all_cons, ih]; rfl
theorem iRg1_of {a : Exs} {s : Sl} {h h1 : Hd} {j : Int} (ea : a s h = .ok [.int j] h1) (hj : -(2 ^ 62) ≤ j ∧ j < 2 ^ 62) : iRg1 a s h = .ok (.rng 0 j.toNat) h1 := by
  unfold iRg1
  rw [ea]
  exact if_pos hj
theorem eC_of {ei : Ei} {t : Tg} {vs : List Nat} {tt : Ext} {te : Ex} {s : Sl} {h h1 h2 : Hd} {src : Src} {xs : List D} {r : R D} (e : ei s h = .ok src h1) (ec : coR src t tt te M 0 [] (wipeD s vs) h1 = .ok xs h2) (er : newL xs h2 = r) : eC_ ei t vs tt te s h = r := by
  unfold eC_
  rw [e]
  show (coR src t tt te M 0 [] (wipeD s vs) h1).bind _ = _
  rw [ec]
  exact er
theorem law_ok {m : Nat} (hR : RightOk (callF (m + 1) 80)) (ns : List Int) : ∃ h, callF (m + 2) 84 [.fl (ns.map D.int)] [] = .ok (.bl true) h := by
  have hte : ∀ (i : Nat) (h : Hd), i < 3 → ∃ h', (eL (callF (m + 1) 80) (as1 (eP (callF (m + 1) 73) (as1 (eV 0) (as1 (eV 1) as0))) as0)) [some (.fl (ns.map D.int)), some (.int (0 + (i : Int)))] h = .ok (.bl true) h' := fun i h hi => by
    obtain ⟨a, d, h2, e1, e2, e3, e4, e5⟩ := forge_ok (callF m) ns i hi
    have q := eP_of (f := callF (m + 1) 73) (a := as1 (eV 0) (as1 (eV 1) as0)) (s := [some (.fl (ns.map D.int)), some (.int (0 + (i : Int)))]) (h := h) (h1 := h) (xs := [.fl (ns.map D.int), .int (0 + (i : Int))]) (ys := [.int a, .int d]) (j := 1) (h2 := h2) rfl
      (by show (D.flts (ns.map D.int) && true) = true; rw [flts_ints]; rfl) (by rw [Int.zero_add]; exact e1) e2 rfl
    obtain ⟨ys, tl, f1, f2⟩ := hR a d ⟨e3, e4, e5⟩
    exact ⟨_, eL_of (eva1 q rfl) (last_get h _) ⟨rfl, rfl⟩ f1 ⟨rfl, f2⟩⟩
  obtain ⟨k, hk1, hk2⟩ : ∃ k : Nat, k ≤ 3 ∧ (eB oMax (as1 (eC (.int 2)) (as1 (eB oMin (as1 (eB oLen (as1 (eV 0) as0)) (as1 (eC (.int 3)) as0))) as0))) [some (.fl (ns.map D.int)), none] [] = .ok (.int (k : Int)) [] := by
    have e1 : (eB oMin (as1 (eB oLen (as1 (eV 0) as0)) (as1 (eC (.int 3)) as0))) [some (.fl (ns.map D.int)), none] [] = .ok (.int (if (3 : Int) < ((ns.map D.int).length : Nat) then 3 else ((ns.map D.int).length : Nat))) [] := rfl
    by_cases h3 : (3 : Int) < ((ns.map D.int).length : Nat)
    · rw [if_pos h3] at e1
      exact ⟨3, by omega, evB (eva1 rfl (eva1 e1 rfl)) rfl⟩
    · rw [if_neg h3] at e1
      by_cases h4 : ((ns.map D.int).length : Int) > 2
      · refine ⟨(ns.map D.int).length, by omega, evB (eva1 rfl (eva1 e1 rfl)) ?_⟩
        show R.ok (D.int (if ((ns.map D.int).length : Int) > 2 then ((ns.map D.int).length : Int) else 2)) _ = _
        rw [if_pos h4]
      · refine ⟨2, by omega, evB (eva1 rfl (eva1 e1 rfl)) ?_⟩
        show R.ok (D.int (if ((ns.map D.int).length : Int) > 2 then ((ns.map D.int).length : Int) else 2)) _ = _
        rw [if_neg h4]
        rfl
  have hi : (iRg1 (as1 (eB oMax (as1 (eC (.int 2)) (as1 (eB oMin (as1 (eB oLen (as1 (eV 0) as0)) (as1 (eC (.int 3)) as0))) as0))) as0)) [some (.fl (ns.map D.int)), none] [] = .ok (.rng 0 k) [] := by
    exact iRg1_of (eva1 hk2 rfl) (by omega)
  obtain ⟨h', hc⟩ := co_all (te := eL (callF (m + 1) 80) (as1 (eP (callF (m + 1) 73) (as1 (eV 0) (as1 (eV 1) as0))) as0)) (L := ns.map D.int) (n := k) (by omega) (fun i h hi => hte i h (by omega)) M 0 [] [] (by unfold M; omega) (Nat.zero_le _) rfl
  have hl : (eC_ (iRg1 (as1 (eB oMax (as1 (eC (.int 2)) (as1 (eB oMin (as1 (eB oLen (as1 (eV 0) as0)) (as1 (eC (.int 3)) as0))) as0))) as0)) (.nm 1) [1] tYs (eL (callF (m + 1) 80) (as1 (eP (callF (m + 1) 73) (as1 (eV 0) (as1 (eV 1) as0))) as0)))
      [some (.fl (ns.map D.int)), none] [] = .ok (.obj h'.length) (h' ++ [.lst (List.replicate k (.bl true))]) := by
    have hw : wipeD [some (D.fl (ns.map D.int)), none] [1] = [some (D.fl (ns.map D.int)), none] := rfl
    have hn : newL (([] : List D).reverse ++ List.replicate (k - 0) (.bl true)) h' = .ok (.obj h'.length) (h' ++ [.lst (List.replicate k (.bl true))]) := by
      have e0 : ([] : List D).reverse ++ List.replicate (k - 0) (.bl true) = List.replicate k (.bl true) := rfl
      rw [e0]
      unfold newL
      rw [if_pos (by rw [List.length_replicate]; unfold M; omega)]
    rw [← hw] at hc
    exact eC_of hi hc hn
  refine ⟨h' ++ [.lst (List.replicate k (.bl true))], ?_⟩
  show c_84 (callF (m + 1)) [.fl (ns.map D.int)] [] = _
  refine fnR_of (r := .rt (.bl true) (h' ++ [.lst (List.replicate k (.bl true))])) rfl (sRet_of (ev2 (x := .bl false) (y := .obj h'.length) rfl hl ?_)) rfl
  show (match lsts (.obj h'.length) (h' ++ [.lst (List.replicate k (.bl true))]) with
    | some ys => if (D.bl false).flat && ys.all D.flat then R.ok (D.bl (if true then !(ys.any fun y => eqF y (.bl false)) else ys.any fun y => eqF y (.bl false))) (h' ++ [O.lst (List.replicate k (.bl true))]) else .no
    | none => .no) = _
  have e9 : lsts (.obj h'.length) (h' ++ [.lst (List.replicate k (.bl true))]) = some (List.replicate k (.bl true)) := by
    show (match (h' ++ [.lst (List.replicate k (.bl true))])[h'.length]? with | some (.lst a) => some a | _ => none) = _
    rw [last_get]
  rw [e9]
  show (if (true && (List.replicate k (D.bl true)).all D.flat) = true then _ else _) = _
  rw [all_flat, if_pos rfl, any_rep]
  rfl
end T

end

section
set_option Elab.async false
set_option linter.all false
set_option maxRecDepth 100000
set_option maxHeartbeats 4000000
namespace T
open PySem Sh
def r1 (G : Nat → Fn) : Sm :=
  (sSet 2 (eC_ (iRg1 (as1 (eC (.int 41)) as0)) (.nm 20) [20] tYs (e2 oAdd (e2 oAdd (e2 oAdd (e2 oAdd (eC (.str [110])) (eB oStr (as1 (eV 20) as0))) (eC (.str [32, 61, 32]))) (eB oStr (as1 (eV 20) as0))) (eC (.str [10])))))
def r2 (G : Nat → Fn) : Sm :=
  (sSet 3 (e2 oJoin (e1 isS (eC (.str []))) (eCut (eV 2) none (some (eC (.int 40))))))
def r3 (G : Nat → Fn) : Sm :=
  (sIf (tN (tV (eQ (G 77) (as1 (eTup (as1 (eQ (G 78) (as1 (eV 3) as0)) (as1 (eB oLen (as1 (eQ (G 70) (as1 (eV 3) as0)) as0)) (as1 (eQ (G 78) (as1 (e2 oAdd (eV 3) (e2 oIx (eV 2) (eC (.int 40)))) as0)) (as1 (eQ (G 71) (as1 (eQ (G 70) (as1 (eV 3) as0)) as0)) as0))))) (as1 (eTup (as1 (eC .non) (as1 (eC (.int 40)) (as1 (eB oLen (as1 (eV 3) as0)) (as1 (eC (.bl true)) as0))))) as0)))))
    (sRet (eC (.bl false)))
    sPs)
def r4 (G : Nat → Fn) : Sm :=
  (sSet 4 (eL (G 75) (as1 (eV 0) (as1 (eTup (as1 (eTup (as1 (eC (.str [32, 43, 32])) (as1 (eC (.str [32, 45, 32])) as0))) (as1 (eTup (as1 (eC (.str [32, 42, 32])) (as1 (eC (.str [32, 47, 32])) as0))) as0))) as0))))
def r5 (G : Nat → Fn) : Sm :=
  (sSet 5 (eC_ (iRg1 (as1 (eC (.int 12)) as0)) (.nm 20) [20] tYs (e2 oAdd (eL (G 75) (as1 (eV 0) (as1 (eTup (as1 (eC (.str [49])) (as1 (eC (.str [110])) (as1 (eC (.str [50])) as0)))) as0))) (eL (G 75) (as1 (eV 0) (as1 (eV 4) as0))))))
def r6 (G : Nat → Fn) : Sm :=
  (sSet 6 (e2 oAdd (e2 oJoin (e1 isS (eC (.str []))) (eCut (eV 5) none (some (eC (.int 11))))) (eC (.str [51]))))
def r7 (G : Nat → Fn) : Sm :=
  (sSet 7 (e2 oAdd (e2 oJoin (e1 isS (eC (.str []))) (eV 5)) (eC (.str [51]))))
def r8 (G : Nat → Fn) : Sm :=
  (sSet 8 (e2 oSub (e2 oAdd (eB oLen (as1 (e2 oAdd (eC (.str [113, 32, 61, 32])) (e2 oJoin (e1 isS (eC (.str []))) (eCut (eV 5) none (some (eC (.int 11)))))) as0)) (eB oLen (as1 (e2 oIx (eV 5) (eC (.int 11))) as0))) (eC (.int 2))))
def r9 (G : Nat → Fn) : Sm :=
  (sIf (tN (tV (eQ (G 77) (as1 (eTup (as1 (eQ (G 78) (as1 (eQ (G 79) (as1 (eV 6) as0)) as0)) (as1 (eQ (G 78) (as1 (eQ (G 79) (as1 (eV 7) as0)) as0)) as0))) (as1 (eTup (as1 (eC .non) (as1 (eV 8) as0))) as0)))))
    (sRet (eC (.bl false)))
    sPs)
def r10 (G : Nat → Fn) : Sm :=
  (sFo (iSq (eTup (as1 (eTup (as1 (eC (.str [40])) (as1 (eC (.str [41])) as0))) (as1 (eTup (as1 (eC (.str [115, 113, 114, 116, 40])) (as1 (eC (.str [41])) as0))) (as1 (eTup (as1 (eC (.str [45])) (as1 (eC (.str [])) as0))) (as1 (eTup (as1 (eC (.str [114, 111, 111, 116, 32, 49, 32, 40, 49, 44, 32])) (as1 (eC (.str [41])) as0))) as0)))))) (gT (gs1 (gN 9) (gs1 (gN 10) gs0)))
    (sSq (sSet 11 (e2 oAdd (e2 oAdd (e2 oMul (eV 9) (eC (.int 12))) (eC (.str [49]))) (e2 oMul (eV 10) (eC (.int 12)))))
    (sSq (sSet 12 (e2 oAdd (e2 oAdd (e2 oMul (eV 9) (eC (.int 13))) (eC (.str [49]))) (e2 oMul (eV 10) (eC (.int 13)))))
    (sSq (sIf (tB1 (e2 (oEq false) (eV 9) (eC (.str [40]))))
    (sSq (sIf (tN (tV (eQ (G 77) (as1 (eTup (as1 (eQ (G 78) (as1 (eQ (G 79) (as1 (eV 11) as0)) as0)) (as1 (eQ (G 72) (as1 (eQ (G 79) (as1 (eV 11) as0)) as0)) as0))) (as1 (eTup (as1 (eC .non) (as1 (eQ (G 79) (as1 (eC (.str [49])) as0)) as0))) as0)))))
    (sRet (eC (.bl false)))
    sPs)
    (sSet 13 (e2 oAdd (eB oLen (as1 (eC (.str [113, 32, 61, 32])) as0)) (eC (.int 12)))))
    (sSq (sIf (tO (tB1 (e1 oNotN (eQ (G 78) (as1 (eQ (G 79) (as1 (eV 11) as0)) as0)))) (tB1 (e2 (oEq true) (eQ (G 72) (as1 (eQ (G 79) (as1 (eV 11) as0)) as0)) (eQ (G 79) (as1 (eV 11) as0)))))
    (sRet (eC (.bl false)))
    sPs)
    (sSet 13 (eB oLen (as1 (e2 oAdd (eC (.str [113, 32, 61, 32])) (e2 oMul (eV 9) (eC (.int 12)))) as0)))))
    (sIf (tN (tV (eQ (G 77) (as1 (eQ (G 78) (as1 (eQ (G 79) (as1 (eV 12) as0)) as0)) (as1 (eV 13) as0)))))
    (sRet (eC (.bl false)))
    sPs)))))
def r11 (G : Nat → Fn) : Sm :=
  (sSet 14 (eC (.str [97, 98, 99, 100, 101, 102, 103, 104, 105, 106, 107, 108])))
def r12 (G : Nat → Fn) : Sm :=
  (sSet 15 (eTup (as1 (eTup (as1 (eV 14) (as1 (eC .non) as0))) (as1 (eTup (as1 (e2 oAdd (eV 14) (eC (.str [109]))) (as1 (eC (.int 4)) as0))) (as1 (eTup (as1 (e2 oAdd (eC (.str [122, 57])) (e2 oMul (eC (.str [48])) (eC (.int 10)))) (as1 (eC .non) as0))) (as1 (eTup (as1 (e2 oAdd (eC (.str [122, 57])) (e2 oMul (eC (.str [48])) (eC (.int 11)))) (as1 (eC (.int 4)) as0))) (as1 (eTup (as1 (e2 oMul (eC (.str [57])) (eC (.int 30))) (as1 (eC .non) as0))) (as1 (eTup (as1 (e2 oMul (eC (.str [57])) (eC (.int 31))) (as1 (eC (.int 4)) as0))) (as1 (eTup (as1 (eC (.str [48])) (as1 (eC .non) as0))) as0)))))))))
def r13 (G : Nat → Fn) : Sm :=
  (sFo (iSq (e2 oAdd (eV 15) (eTup (as1 (eTup (as1 (eC (.str [48, 48])) (as1 (eC (.int 4)) as0))) (as1 (eTup (as1 (eC (.str [48, 55])) (as1 (eC (.int 4)) as0))) (as1 (eTup (as1 (eC (.str [114, 111, 111, 116])) (as1 (eC (.int 8)) as0))) (as1 (eTup (as1 (eC (.str [97, 115, 107, 107])) (as1 (eC .non) as0))) (as1 (eTup (as1 (eC (.str [50, 97])) (as1 (eC (.int 4)) as0))) as0)))))))) (gT (gs1 (gN 16) (gs1 (gN 17) gs0)))
    (sIf (tN (tV (eQ (G 77) (as1 (eQ (G 78) (as1 (e2 oAdd (e2 oAdd (eC (.str [113, 32, 61, 32])) (eV 16)) (eC (.str [10]))) as0)) (as1 (eV 17) as0)))))
    (sRet (eC (.bl false)))
    sPs))
def r14 (G : Nat → Fn) : Sm :=
  (sFo (iSq (eTup (as1 (eTup (as1 (eC (.str [49])) (as1 (eC (.bl true)) as0))) (as1 (eTup (as1 (eC (.str [56])) (as1 (eC (.bl true)) as0))) (as1 (eTup (as1 (eC (.str [45, 49])) (as1 (eC (.bl true)) as0))) (as1 (eTup (as1 (eC (.str [45, 56])) (as1 (eC (.bl true)) as0))) (as1 (eTup (as1 (eC (.str [45, 32, 51])) (as1 (eC (.bl true)) as0))) (as1 (eTup (as1 (eC (.str [57])) (as1 (eC (.bl false)) as0))) (as1 (eTup (as1 (eC (.str [48])) (as1 (eC (.bl false)) as0))) (as1 (eTup (as1 (eC (.str [45, 57])) (as1 (eC (.bl false)) as0))) (as1 (eTup (as1 (eC (.str [49, 48])) (as1 (eC (.bl false)) as0))) as0))))))))))) (gT (gs1 (gN 18) (gs1 (gN 6) gs0)))
    (sSq (sSet 19 (e2 oAdd (e2 oAdd (eC (.str [113, 32, 61, 32, 114, 111, 111, 116, 32])) (eV 18)) (eC (.str [32, 40, 49, 44, 32, 50, 41, 10]))))
    (sSq (sSet 17 (eIf (tV (eV 6)) (eC .non) (e2 oAdd (eB oLen (as1 (eC (.str [113, 32, 61, 32, 114, 111, 111, 116, 32])) as0)) (eIf (tB1 (e2 (oEq false) (e2 oIx (eV 18) (eC (.int 0))) (eC (.str [45])))) (eC (.int 1)) (eC (.int 0))))))
    (sIf (tN (tV (eQ (G 77) (as1 (eQ (G 78) (as1 (eV 19) as0)) (as1 (eV 17) as0)))))
    (sRet (eC (.bl false)))
    sPs))))
def bodyR (G : Nat → Fn) : Sm := sSq (r1 G) (sSq (r2 G) (sSq (r3 G) (sSq (r4 G) (sSq (r5 G) (sSq (r6 G) (sSq (r7 G) (sSq (r8 G) (sSq (r9 G) (sSq (r10 G) (sSq (r11 G) (sSq (r12 G) (sSq (r13 G) (r14 G)))))))))))))
theorem b80_eq (G : Nat → Fn) : b_80 G = sSq (sFo (iRg1 (as1 (eC (.int 2)) as0)) (gN 1) (bodyR G)) (sRet (eAn (eQ (G 82) as0) (eAn (eQ (G 83) as0) (eQ (G 81) as0)))) := rfl
theorem lsts_last (h : Hd) (xs : List D) : lsts (.obj h.length) (h ++ [.lst xs]) = some xs := by
  show (match (h ++ [O.lst xs])[h.length]? with | some (.lst a) => some a | _ => none) = _
  rw [last_get]
/-! ### rows and text -/
def rowsD : List D := (List.range 41).map fun i => .str ([110] ++ (idg (i : Nat) ++ ([32, 61, 32] ++ (idg (i : Nat) ++ [10]))))
def textL : List Nat := ((List.range 40).map fun i : Nat => ([110] ++ (idg (i : Nat) ++ ([32, 61, 32] ++ (idg (i : Nat) ++ [10]))))).flatten
variable {x0 x1 x2 x3 x4 x5 x6 x7 x8 x9 x10 x11 x12 x13 x14 x15 x16 x17 x18 x19 x20 : Option D}
theorem r1_ok (G : Nat → Fn) (h : Hd) : r1 G [x0, x1, x2, x3, x4, x5, x6, x7, x8, x9, x10, x11, x12, x13, x14, x15, x16, x17, x18, x19, x20] h =
    .nx [x0, x1, some (.obj h.length), x3, x4, x5, x6, x7, x8, x9, x10, x11, x12, x13, x14, x15, x16, x17, x18, x19, x20] (h ++ [.lst rowsD]) := by
  kernel_rfl
end T

end

section
set_option Elab.async false
set_option linter.all false
set_option maxRecDepth 100000
set_option maxHeartbeats 4000000
namespace T
open PySem Sh
variable {x0 x1 x2 x3 x4 x5 x6 x7 x8 x9 x10 x11 x12 x13 x14 x15 x16 x17 x18 x19 x20 : Option D}
abbrev GG : Nat → Fn := callF 108
theorem r10_ok (h : Hd) : r10 GG [x0, x1, x2, x3, x4, x5, x6, x7, x8, x9, x10, x11, x12, x13, x14, x15, x16, x17, x18, x19, x20] h = .nx [x0, x1, x2, x3, x4, x5, x6, x7, x8, some (.str [114, 111, 111, 116, 32, 49, 32, 40, 49, 44, 32]), some (.str [41]), some (.str (reps 12 [114, 111, 111, 116, 32, 49, 32, 40, 49, 44, 32] ++ ([49] ++ reps 12 [41]))), some (.str (reps 13 [114, 111, 111, 116, 32, 49, 32, 40, 49, 44, 32] ++ ([49] ++ reps 13 [41]))), some (.int 136), x14, x15, x16, x17, x18, x19, x20] h := by
  kernel_rfl
theorem r11_ok (h : Hd) : r11 GG [x0, x1, x2, x3, x4, x5, x6, x7, x8, x9, x10, x11, x12, x13, x14, x15, x16, x17, x18, x19, x20] h = .nx [x0, x1, x2, x3, x4, x5, x6, x7, x8, x9, x10, x11, x12, x13, some (.str [97, 98, 99, 100, 101, 102, 103, 104, 105, 106, 107, 108]), x15, x16, x17, x18, x19, x20] h := by
  kernel_rfl
def someD : D := .tup [.tup [.str [97, 98, 99, 100, 101, 102, 103, 104, 105, 106, 107, 108], .non], .tup [.str [97, 98, 99, 100, 101, 102, 103, 104, 105, 106, 107, 108, 109], .int 4], .tup [.str [122, 57, 48, 48, 48, 48, 48, 48, 48, 48, 48, 48], .non], .tup [.str [122, 57, 48, 48, 48, 48, 48, 48, 48, 48, 48, 48, 48], .int 4], .tup [.str [57, 57, 57, 57, 57, 57, 57, 57, 57, 57, 57, 57, 57, 57, 57, 57, 57, 57, 57, 57, 57, 57, 57, 57, 57, 57, 57, 57, 57, 57], .non], .tup [.str [57, 57, 57, 57, 57, 57, 57, 57, 57, 57, 57, 57, 57, 57, 57, 57, 57, 57, 57, 57, 57, 57, 57, 57, 57, 57, 57, 57, 57, 57, 57], .int 4], .tup [.str [48], .non]]
theorem r12_ok (h : Hd) : r12 GG [x0, x1, x2, x3, x4, x5, x6, x7, x8, x9, x10, x11, x12, x13, some (.str [97, 98, 99, 100, 101, 102, 103, 104, 105, 106, 107, 108]), x15, x16, x17, x18, x19, x20] h = .nx [x0, x1, x2, x3, x4, x5, x6, x7, x8, x9, x10, x11, x12, x13, some (.str [97, 98, 99, 100, 101, 102, 103, 104, 105, 106, 107, 108]), some someD, x16, x17, x18, x19, x20] h := by
  kernel_rfl
theorem r13_ok (h : Hd) : r13 GG [x0, x1, x2, x3, x4, x5, x6, x7, x8, x9, x10, x11, x12, x13, x14, some someD, x16, x17, x18, x19, x20] h = .nx [x0, x1, x2, x3, x4, x5, x6, x7, x8, x9, x10, x11, x12, x13, x14, some someD, some (.str [50, 97]), some (.int 4), x18, x19, x20] h := by
  kernel_rfl
theorem r14_ok (h : Hd) : r14 GG [x0, x1, x2, x3, x4, x5, x6, x7, x8, x9, x10, x11, x12, x13, x14, x15, x16, x17, x18, x19, x20] h = .nx [x0, x1, x2, x3, x4, x5, some (.bl false), x7, x8, x9, x10, x11, x12, x13, x14, x15, x16, some (.int 9), some (.str [49, 48]), some (.str [113, 32, 61, 32, 114, 111, 111, 116, 32, 49, 48, 32, 40, 49, 44, 32, 50, 41, 10]), x20] h := by
  kernel_rfl
theorem words_ok (s : Sl) (h : Hd) : eQ (GG 82) as0 s h = .ok (.bl true) h := by
  kernel_rfl
theorem trees_ok (s : Sl) (h : Hd) : eQ (GG 83) as0 s h = .ok (.bl true) h := by
  kernel_rfl
theorem ends_ok (s : Sl) (h : Hd) : eQ (GG 81) as0 s h = .ok (.bl true) h := by
  kernel_rfl
end T

end

section
set_option Elab.async false
set_option linter.all false
set_option maxRecDepth 100000
set_option maxHeartbeats 4000000
namespace T
open PySem Sh
variable {x0 x1 x2 x3 x4 x5 x6 x7 x8 x9 x10 x11 x12 x13 x14 x15 x16 x17 x18 x19 x20 : Option D}
theorem oCut_lst {h : Hd} {xs : List D} {i : Nat} {lo hi : Option Int} (e : lsts (.obj i) h = some xs) (hz : (cut xs lo hi).length ≤ M) : oCut (.obj i) lo hi h = R.ok (D.obj h.length) (h ++ [O.lst (cut xs lo hi)]) := by
  show (match lsts (.obj i) h with
    | some xs => newL (cut xs lo hi) h
    | none => .no) = _
  rw [e]
  show newL (cut xs lo hi) h = _
  unfold newL
  rw [if_pos hz]
theorem oJoin_lst {h : Hd} {xs : List D} {ls : List (List Nat)} {i : Nat} {sep : List Nat} (e : lsts (.obj i) h = some xs) (et : txts xs = some ls) (hz : lens ls + ls.length * sep.length ≤ M) : oJoin (.str sep) (.obj i) h = .ok (.str (joinL sep ls)) h := by
  show (match lsts (.obj i) h with
    | some ds => match txts ds with
      | some ls => if lens ls + ls.length * sep.length ≤ M then R.ok (D.str (joinL sep ls)) h else .no
      | none => .no
    | none => .no) = _
  rw [e]
  show (match txts xs with
      | some ls => if lens ls + ls.length * sep.length ≤ M then R.ok (D.str (joinL sep ls)) h else .no
      | none => .no) = _
  rw [et]
  show (if lens ls + ls.length * sep.length ≤ M then R.ok (D.str (joinL sep ls)) h else .no) = _
  rw [if_pos hz]
theorem oAdd_str {a b : List Nat} {h : Hd} (hz : a.length + b.length ≤ M) : oAdd (.str a) (.str b) h = .ok (.str (a ++ b)) h := if_pos hz
theorem eQ_of {f : Fn} {a : Exs} {s : Sl} {h h1 h2 : Hd} {xs : List D} {d : D} (ea : a s h = .ok xs h1) (hx : D.pures xs = true) (ef : f xs [] = .ok d h2) (hd : d.pure = true) : eQ f a s h = .ok d h1 := by
  unfold eQ
  rw [ea]
  show (if D.pures xs = true then qR (f xs []) h1 else .no) = _
  rw [if_pos hx, ef]
  show (if d.pure = true then R.ok d h1 else .no) = _
  rw [if_pos hd]
def okD (r : R D) : D := match r with | .ok d _ => d | _ => .non
theorem ok_ex {r : R D} {d : D} (h : (match r with | .ok d _ => some d | _ => none) = some d) : ∃ h2, r = .ok d h2 := by
  cases r with
  | ok d' h2 => exact ⟨h2, by simp only [Option.some.injEq] at h; rw [h]⟩
  | exc _ _ _ => simp at h
  | no => simp at h
def rowsL : List (List Nat) := (List.range 40).map fun i : Nat => ([110] ++ (idg (i : Nat) ++ ([32, 61, 32] ++ (idg (i : Nat) ++ [10]))))
def sliceD : List D := cut rowsD none (some 40)
theorem r2_ok (G : Nat → Fn) (h : Hd) : r2 G [x0, x1, some (.obj h.length), x3, x4, x5, x6, x7, x8, x9, x10, x11, x12, x13, x14, x15, x16, x17, x18, x19, x20] (h ++ [O.lst rowsD]) =
    .nx [x0, x1, some (.obj h.length), some (.str textL), x4, x5, x6, x7, x8, x9, x10, x11, x12, x13, x14, x15, x16, x17, x18, x19, x20] ((h ++ [O.lst rowsD]) ++ [O.lst sliceD]) := by
  have e1 : eCut (eV 2) none (some (eC (.int 40))) [x0, x1, some (.obj h.length), x3, x4, x5, x6, x7, x8, x9, x10, x11, x12, x13, x14, x15, x16, x17, x18, x19, x20] (h ++ [O.lst rowsD]) = R.ok (D.obj (h ++ [O.lst rowsD]).length) ((h ++ [O.lst rowsD]) ++ [O.lst sliceD]) := by
    have := oCut_lst (lo := none) (hi := some 40) (lsts_last h rowsD) (by decide +kernel)
    exact this
  have e2' : oJoin (D.str []) (D.obj (h ++ [O.lst rowsD]).length) ((h ++ [O.lst rowsD]) ++ [O.lst sliceD]) = R.ok (D.str textL) ((h ++ [O.lst rowsD]) ++ [O.lst sliceD]) := by
    have a1 : txts sliceD = some rowsL := by kernel_rfl
    have a2 : joinL [] rowsL = textL := by decide +kernel
    rw [oJoin_lst (lsts_last _ _) a1 (by decide +kernel), a2]
  exact evSet (ev2 (ev1 rfl rfl) e1 e2')
theorem tV_of {e : Ex} {s : Sl} {h h1 : Hd} {d : D} {b : Bool} (ee : e s h = .ok d h1) (et : tru d h1 = some b) : tV e s h = .ok b h1 := by
  unfold tV
  rw [ee]
  show oTru d h1 = _
  unfold oTru
  rw [et]
theorem tN_of {t : Ext} {s : Sl} {h h1 : Hd} {b : Bool} (et : t s h = .ok b h1) : tN t s h = .ok (!b) h1 := by
  unfold tN
  rw [et]
  rfl
/-! r3 -/
def row40 : List Nat := [110, 52, 48, 32, 61, 32, 52, 48, 10]
theorem rows40 : L2.atI rowsD 40 = some (.str row40) := by kernel_rfl
theorem r3_ok (h tl : Hd) : r3 (callF 108) [x0, x1, some (.obj h.length), some (.str textL), x4, x5, x6, x7, x8, x9, x10, x11, x12, x13, x14, x15, x16, x17, x18, x19, x20] ((h ++ [O.lst rowsD]) ++ tl) =
    .nx [x0, x1, some (.obj h.length), some (.str textL), x4, x5, x6, x7, x8, x9, x10, x11, x12, x13, x14, x15, x16, x17, x18, x19, x20] ((h ++ [O.lst rowsD]) ++ tl) := by
  generalize hh : (h ++ [O.lst rowsD]) ++ tl = H
  have hl : lsts (.obj h.length) H = some rowsD := by
    rw [← hh]
    show (match ((h ++ [O.lst rowsD]) ++ tl)[h.length]? with | some (.lst a) => some a | _ => none) = _
    rw [List.getElem?_append_left (by simp), last_get]
  generalize h.length = k at hl ⊢
  clear hh h tl
  have fA : (eQ (callF 108 78) (as1 (eV 3) as0)) [x0, x1, some (.obj k), some (.str textL), x4, x5, x6, x7, x8, x9, x10, x11, x12, x13, x14, x15, x16, x17, x18, x19, x20] H = .ok .non H := by kernel_rfl
  have fB : (eB oLen (as1 (eQ (callF 108 70) (as1 (eV 3) as0)) as0)) [x0, x1, some (.obj k), some (.str textL), x4, x5, x6, x7, x8, x9, x10, x11, x12, x13, x14, x15, x16, x17, x18, x19, x20] H = .ok (.int 40) H := by kernel_rfl
  have fD : (eQ (callF 108 71) (as1 (eQ (callF 108 70) (as1 (eV 3) as0)) as0)) [x0, x1, some (.obj k), some (.str textL), x4, x5, x6, x7, x8, x9, x10, x11, x12, x13, x14, x15, x16, x17, x18, x19, x20] H = .ok (.bl true) H := by kernel_rfl
  have fE : (eTup (as1 (eC .non) (as1 (eC (.int 40)) (as1 (eB oLen (as1 (eV 3) as0)) (as1 (eC (.bl true)) as0))))) [x0, x1, some (.obj k), some (.str textL), x4, x5, x6, x7, x8, x9, x10, x11, x12, x13, x14, x15, x16, x17, x18, x19, x20] H = .ok (.tup [.non, .int 40, .int 340, .bl true]) H := by kernel_rfl
  have i40 : (e2 oIx (eV 2) (eC (.int 40))) [x0, x1, some (.obj k), some (.str textL), x4, x5, x6, x7, x8, x9, x10, x11, x12, x13, x14, x15, x16, x17, x18, x19, x20] H = .ok (.str row40) H := by
    refine ev2 rfl rfl ?_
    show (match lsts (.obj k) H with
      | some xs => (match L2.atI xs 40 with
        | some d => R.ok d H
        | none => .no)
      | none => .no) = _
    rw [hl]
    show (match L2.atI rowsD 40 with
        | some d => R.ok d H
        | none => .no) = _
    rw [rows40]
  have fC : (eQ (callF 108 78) (as1 (e2 oAdd (eV 3) (e2 oIx (eV 2) (eC (.int 40)))) as0)) [x0, x1, some (.obj k), some (.str textL), x4, x5, x6, x7, x8, x9, x10, x11, x12, x13, x14, x15, x16, x17, x18, x19, x20] H = .ok (.int 340) H := by
    have q : (e2 oAdd (eV 3) (e2 oIx (eV 2) (eC (.int 40)))) [x0, x1, some (.obj k), some (.str textL), x4, x5, x6, x7, x8, x9, x10, x11, x12, x13, x14, x15, x16, x17, x18, x19, x20] H = .ok (.str (textL ++ row40)) H :=
      ev2 rfl i40 (oAdd_str (by decide +kernel))
    obtain ⟨h2, q2⟩ := ok_ex (r := callF 108 78 [.str (textL ++ row40)] []) (d := .int 340) (by kernel_rfl)
    exact eQ_of (eva1 q rfl) rfl q2 rfl
  have fT : (eTup (as1 (eQ (callF 108 78) (as1 (eV 3) as0)) (as1 (eB oLen (as1 (eQ (callF 108 70) (as1 (eV 3) as0)) as0)) (as1 (eQ (callF 108 78) (as1 (e2 oAdd (eV 3) (e2 oIx (eV 2) (eC (.int 40)))) as0)) (as1 (eQ (callF 108 71) (as1 (eQ (callF 108 70) (as1 (eV 3) as0)) as0)) as0)))))
      [x0, x1, some (.obj k), some (.str textL), x4, x5, x6, x7, x8, x9, x10, x11, x12, x13, x14, x15, x16, x17, x18, x19, x20] H = .ok (.tup [.non, .int 40, .int 340, .bl true]) H := by
    unfold eTup
    rw [eva1 fA (eva1 fB (eva1 fC (eva1 fD rfl)))]
    rfl
  obtain ⟨h3, qS⟩ := ok_ex (r := callF 108 77 [.tup [.non, .int 40, .int 340, .bl true], .tup [.non, .int 40, .int 340, .bl true]] []) (d := .bl true) (by kernel_rfl)
  exact sIf_ff (tN_of (tV_of (eQ_of (eva1 fT (eva1 fE rfl)) rfl qS rfl) rfl))
end T

end

section
set_option Elab.async false
set_option linter.all false
set_option maxRecDepth 100000
set_option maxHeartbeats 4000000
namespace T
open PySem Sh
theorem pick_ok (n : Nat) {a d : Int} {xs : List D} (hm : xs.length = 2 ∨ xs.length = 3) (hp : D.pures xs = true) (hf : Fg a d) :
    ∃ (t : Nat) (x : D) (a' d' : Int), t < xs.length ∧ xs[t]? = some x ∧ callF (n + 2) 75 [.obj 0, .tup xs] [.lst [.int a, .int d]] = .ok x [.lst [.int a', .int d']] ∧ x.pure = true ∧ Fg a' d' := by
  obtain ⟨t, a', d', e, t0, t1, hf'⟩ := strike_ok (callF n) (xs.length : Int) (by omega) hf
  obtain ⟨k, rfl⟩ := Int.eq_ofNat_of_zero_le t0
  have hk : k < xs.length := by omega
  have hx : xs[k]? = some xs[k] := List.getElem?_eq_getElem hk
  have hpx : ∀ {l : List D} {k : Nat} (hk : k < l.length), D.pures l = true → l[k].pure = true := by
    intro l
    induction l with
    | nil => intro k hk; simp at hk
    | cons y ys ih =>
      intro k hk h
      have hh : (y.pure && D.pures ys) = true := h
      rw [Bool.and_eq_true] at hh
      cases k with
      | zero => exact hh.1
      | succ k => exact ih (by simpa using hk) hh.2
  refine ⟨k, xs[k], a', d', hk, hx, ?_, hpx hk hp, hf'⟩
  have eC : eL (callF (n + 1) 74) (as1 (eV 0) (as1 (eB oLen (as1 (eV 1) as0)) as0)) [some (.obj 0), some (.tup xs)] [.lst [.int a, .int d]] = .ok (.int (k : Nat)) [.lst [.int a', .int d']] :=
    eL_of (f := callF (n + 1) 74) (h1 := [.lst [.int a, .int d]]) (i := 0) (zs := [.int a, .int d]) (ys := [.int a', .int d']) (tl := []) (r := [.int (xs.length : Nat)]) rfl rfl ⟨rfl, rfl⟩ e ⟨rfl, rfl⟩
  have eI : e2 oIx (eV 1) (eL (callF (n + 1) 74) (as1 (eV 0) (as1 (eB oLen (as1 (eV 1) as0)) as0))) [some (.obj 0), some (.tup xs)] [.lst [.int a, .int d]] = .ok xs[k] [.lst [.int a', .int d']] := by
    refine ev2 rfl eC ?_
    show (match L2.atI xs (k : Int) with
      | some d => R.ok d _
      | none => .no) = _
    rw [atI_nat hk]
  exact fnR_of (np := 2) (n := 2) (xs := [.obj 0, .tup xs]) (b := b_75 (callF (n + 1))) (r := .rt xs[k] [.lst [.int a', .int d']]) rfl (show sRet _ [some (.obj 0), some (.tup xs)] [.lst [.int a, .int d]] = _ from sRet_of eI) rfl
/-- a pick out of constants, of a list far down -/
theorem pickE (n : Nat) {a d : Int} {xs : List D} {s : Sl} {tl : Hd} {A : Exs} (hA : A s (.lst [.int a, .int d] :: tl) = .ok [.obj 0, .tup xs] (.lst [.int a, .int d] :: tl)) (hm : xs.length = 2 ∨ xs.length = 3) (hp : D.pures xs = true) (hf : Fg a d) :
    ∃ (t : Nat) (x : D) (a' d' : Int), t < xs.length ∧ xs[t]? = some x ∧ eL (callF (n + 2) 75) A s (.lst [.int a, .int d] :: tl) = .ok x (.lst [.int a', .int d'] :: tl) ∧ Fg a' d' := by
  obtain ⟨t, x, a', d', h1, h2, h3, h4, h5⟩ := pick_ok n hm hp hf
  refine ⟨t, x, a', d', h1, h2, ?_, h5⟩
  exact eL_of (i := 0) (r := [.tup xs]) hA rfl ⟨rfl, by simpa [D.pures, D.pure] using hp⟩ h3 ⟨h4, rfl⟩
end T

end

section
set_option Elab.async false
set_option linter.all false
set_option maxRecDepth 100000
set_option maxHeartbeats 4000000
namespace T
open PySem Sh

def kn (n : Nat) : D := .str (bif n == 110 then [110, 97, 109, 101] else [110, 117, 109, 101, 114, 97, 108])
def pn (i n : Nat) : D := .tup [.int i, kn n, .str [n]]
def ps (i s : Nat) : D := .tup [.int i, .str [115, 105, 103, 110], .str [s]]
def pe (i : Nat) : D := .tup [.int i, .str [101, 110, 100], .str [10]]
def p0 : D := .tup [.int 0, .str [110, 97, 109, 101], .str [113]]
def p1 : D := .tup [.int 2, .str [115, 105, 103, 110], .str [61]]
def NN (n : Nat) : Prop := n = 49 ∨ n = 110 ∨ n = 50
def SS (s : Nat) : Prop := s = 43 ∨ s = 45 ∨ s = 42 ∨ s = 47
def SA (s : Nat) : Prop := s = 43 ∨ s = 45
def SB (s : Nat) : Prop := s = 42 ∨ s = 47
def tW : Ext := tB1 (e2 oLt (eV 2) (eB oLen (as1 (eV 0) as0)))
def bW (G : Nat → Fn) : Sm := (sIf (tB1 (e2 (oEq false) (e2 oIx (eV 0) (eV 2)) (eC k_BLANK)))
    (sSet 2 (e2 oAdd (eV 2) (eC (.int 1))))
    (sSq (sSet 3 (eQ (G 10) (as1 (eV 0) (as1 (eV 2) as0))))
    (sSq (sExp (eM oApp (eV 1) (as1 (eV 3) as0)))
    (sSet 2 (e2 oAdd (eV 2) (eB oLen (as1 (e2 oIx (eV 3) (eC (.int 2))) as0)))))))
theorem b11_eq (G : Nat → Fn) : b_11 G = sSq (sPar 1 2 (as1 (eLst as0) (as1 (eC (.int 0)) as0))) (sSq (sWh tW (bW G)) (sRet (eV 1))) := rfl
section
variable {n1 s1 n2 s2 n3 s3 n4 s4 n5 s5 n6 s6 n7 s7 n8 s8 n9 s9 n10 s10 n11 s11 f : Nat} {x3 : Option D}
theorem q11_0 : whR tW (bW (callF 103)) (f + 4) [some (.str [113, 32, 61, 32, n1, 32, s1, 32, n2, 32, s2, 32, n3, 32, s3, 32, n4, 32, s4, 32, n5, 32, s5, 32, n6, 32, s6, 32, n7, 32, s7, 32, n8, 32, s8, 32, n9, 32, s9, 32, n10, 32, s10, 32, n11, 32, s11, 32, 51, 10]), some (.obj 0), some (.int 0), none] [.lst []] = whR tW (bW (callF 103)) f [some (.str [113, 32, 61, 32, n1, 32, s1, 32, n2, 32, s2, 32, n3, 32, s3, 32, n4, 32, s4, 32, n5, 32, s5, 32, n6, 32, s6, 32, n7, 32, s7, 32, n8, 32, s8, 32, n9, 32, s9, 32, n10, 32, s10, 32, n11, 32, s11, 32, 51, 10]), some (.obj 0), some (.int 4), some p1] [.lst [p0, p1]] := by kernel_rfl
theorem q11_1 (hn : NN n1) (hs : SS s1) : whR tW (bW (callF 103)) (f + 4) [some (.str [113, 32, 61, 32, n1, 32, s1, 32, n2, 32, s2, 32, n3, 32, s3, 32, n4, 32, s4, 32, n5, 32, s5, 32, n6, 32, s6, 32, n7, 32, s7, 32, n8, 32, s8, 32, n9, 32, s9, 32, n10, 32, s10, 32, n11, 32, s11, 32, 51, 10]), some (.obj 0), some (.int 4), x3] [.lst [p0, p1]] = whR tW (bW (callF 103)) f [some (.str [113, 32, 61, 32, n1, 32, s1, 32, n2, 32, s2, 32, n3, 32, s3, 32, n4, 32, s4, 32, n5, 32, s5, 32, n6, 32, s6, 32, n7, 32, s7, 32, n8, 32, s8, 32, n9, 32, s9, 32, n10, 32, s10, 32, n11, 32, s11, 32, 51, 10]), some (.obj 0), some (.int 8), some (ps 6 s1)] [.lst [p0, p1, pn 4 n1, ps 6 s1]] := by
  rcases hn with rfl | rfl | rfl <;> rcases hs with rfl | rfl | rfl | rfl <;> kernel_rfl
theorem q11_2 (hn : NN n2) (hs : SS s2) : whR tW (bW (callF 103)) (f + 4) [some (.str [113, 32, 61, 32, n1, 32, s1, 32, n2, 32, s2, 32, n3, 32, s3, 32, n4, 32, s4, 32, n5, 32, s5, 32, n6, 32, s6, 32, n7, 32, s7, 32, n8, 32, s8, 32, n9, 32, s9, 32, n10, 32, s10, 32, n11, 32, s11, 32, 51, 10]), some (.obj 0), some (.int 8), x3] [.lst [p0, p1, pn 4 n1, ps 6 s1]] = whR tW (bW (callF 103)) f [some (.str [113, 32, 61, 32, n1, 32, s1, 32, n2, 32, s2, 32, n3, 32, s3, 32, n4, 32, s4, 32, n5, 32, s5, 32, n6, 32, s6, 32, n7, 32, s7, 32, n8, 32, s8, 32, n9, 32, s9, 32, n10, 32, s10, 32, n11, 32, s11, 32, 51, 10]), some (.obj 0), some (.int 12), some (ps 10 s2)] [.lst [p0, p1, pn 4 n1, ps 6 s1, pn 8 n2, ps 10 s2]] := by
  rcases hn with rfl | rfl | rfl <;> rcases hs with rfl | rfl | rfl | rfl <;> kernel_rfl
theorem q11_3 (hn : NN n3) (hs : SS s3) : whR tW (bW (callF 103)) (f + 4) [some (.str [113, 32, 61, 32, n1, 32, s1, 32, n2, 32, s2, 32, n3, 32, s3, 32, n4, 32, s4, 32, n5, 32, s5, 32, n6, 32, s6, 32, n7, 32, s7, 32, n8, 32, s8, 32, n9, 32, s9, 32, n10, 32, s10, 32, n11, 32, s11, 32, 51, 10]), some (.obj 0), some (.int 12), x3] [.lst [p0, p1, pn 4 n1, ps 6 s1, pn 8 n2, ps 10 s2]] = whR tW (bW (callF 103)) f [some (.str [113, 32, 61, 32, n1, 32, s1, 32, n2, 32, s2, 32, n3, 32, s3, 32, n4, 32, s4, 32, n5, 32, s5, 32, n6, 32, s6, 32, n7, 32, s7, 32, n8, 32, s8, 32, n9, 32, s9, 32, n10, 32, s10, 32, n11, 32, s11, 32, 51, 10]), some (.obj 0), some (.int 16), some (ps 14 s3)] [.lst [p0, p1, pn 4 n1, ps 6 s1, pn 8 n2, ps 10 s2, pn 12 n3, ps 14 s3]] := by
  rcases hn with rfl | rfl | rfl <;> rcases hs with rfl | rfl | rfl | rfl <;> kernel_rfl
theorem q11_4 (hn : NN n4) (hs : SS s4) : whR tW (bW (callF 103)) (f + 4) [some (.str [113, 32, 61, 32, n1, 32, s1, 32, n2, 32, s2, 32, n3, 32, s3, 32, n4, 32, s4, 32, n5, 32, s5, 32, n6, 32, s6, 32, n7, 32, s7, 32, n8, 32, s8, 32, n9, 32, s9, 32, n10, 32, s10, 32, n11, 32, s11, 32, 51, 10]), some (.obj 0), some (.int 16), x3] [.lst [p0, p1, pn 4 n1, ps 6 s1, pn 8 n2, ps 10 s2, pn 12 n3, ps 14 s3]] = whR tW (bW (callF 103)) f [some (.str [113, 32, 61, 32, n1, 32, s1, 32, n2, 32, s2, 32, n3, 32, s3, 32, n4, 32, s4, 32, n5, 32, s5, 32, n6, 32, s6, 32, n7, 32, s7, 32, n8, 32, s8, 32, n9, 32, s9, 32, n10, 32, s10, 32, n11, 32, s11, 32, 51, 10]), some (.obj 0), some (.int 20), some (ps 18 s4)] [.lst [p0, p1, pn 4 n1, ps 6 s1, pn 8 n2, ps 10 s2, pn 12 n3, ps 14 s3, pn 16 n4, ps 18 s4]] := by
  rcases hn with rfl | rfl | rfl <;> rcases hs with rfl | rfl | rfl | rfl <;> kernel_rfl
theorem q11_5 (hn : NN n5) (hs : SS s5) : whR tW (bW (callF 103)) (f + 4) [some (.str [113, 32, 61, 32, n1, 32, s1, 32, n2, 32, s2, 32, n3, 32, s3, 32, n4, 32, s4, 32, n5, 32, s5, 32, n6, 32, s6, 32, n7, 32, s7, 32, n8, 32, s8, 32, n9, 32, s9, 32, n10, 32, s10, 32, n11, 32, s11, 32, 51, 10]), some (.obj 0), some (.int 20), x3] [.lst [p0, p1, pn 4 n1, ps 6 s1, pn 8 n2, ps 10 s2, pn 12 n3, ps 14 s3, pn 16 n4, ps 18 s4]] = whR tW (bW (callF 103)) f [some (.str [113, 32, 61, 32, n1, 32, s1, 32, n2, 32, s2, 32, n3, 32, s3, 32, n4, 32, s4, 32, n5, 32, s5, 32, n6, 32, s6, 32, n7, 32, s7, 32, n8, 32, s8, 32, n9, 32, s9, 32, n10, 32, s10, 32, n11, 32, s11, 32, 51, 10]), some (.obj 0), some (.int 24), some (ps 22 s5)] [.lst [p0, p1, pn 4 n1, ps 6 s1, pn 8 n2, ps 10 s2, pn 12 n3, ps 14 s3, pn 16 n4, ps 18 s4, pn 20 n5, ps 22 s5]] := by
  rcases hn with rfl | rfl | rfl <;> rcases hs with rfl | rfl | rfl | rfl <;> kernel_rfl
theorem q11_6 (hn : NN n6) (hs : SS s6) : whR tW (bW (callF 103)) (f + 4) [some (.str [113, 32, 61, 32, n1, 32, s1, 32, n2, 32, s2, 32, n3, 32, s3, 32, n4, 32, s4, 32, n5, 32, s5, 32, n6, 32, s6, 32, n7, 32, s7, 32, n8, 32, s8, 32, n9, 32, s9, 32, n10, 32, s10, 32, n11, 32, s11, 32, 51, 10]), some (.obj 0), some (.int 24), x3] [.lst [p0, p1, pn 4 n1, ps 6 s1, pn 8 n2, ps 10 s2, pn 12 n3, ps 14 s3, pn 16 n4, ps 18 s4, pn 20 n5, ps 22 s5]] = whR tW (bW (callF 103)) f [some (.str [113, 32, 61, 32, n1, 32, s1, 32, n2, 32, s2, 32, n3, 32, s3, 32, n4, 32, s4, 32, n5, 32, s5, 32, n6, 32, s6, 32, n7, 32, s7, 32, n8, 32, s8, 32, n9, 32, s9, 32, n10, 32, s10, 32, n11, 32, s11, 32, 51, 10]), some (.obj 0), some (.int 28), some (ps 26 s6)] [.lst [p0, p1, pn 4 n1, ps 6 s1, pn 8 n2, ps 10 s2, pn 12 n3, ps 14 s3, pn 16 n4, ps 18 s4, pn 20 n5, ps 22 s5, pn 24 n6, ps 26 s6]] := by
  rcases hn with rfl | rfl | rfl <;> rcases hs with rfl | rfl | rfl | rfl <;> kernel_rfl
theorem q11_7 (hn : NN n7) (hs : SS s7) : whR tW (bW (callF 103)) (f + 4) [some (.str [113, 32, 61, 32, n1, 32, s1, 32, n2, 32, s2, 32, n3, 32, s3, 32, n4, 32, s4, 32, n5, 32, s5, 32, n6, 32, s6, 32, n7, 32, s7, 32, n8, 32, s8, 32, n9, 32, s9, 32, n10, 32, s10, 32, n11, 32, s11, 32, 51, 10]), some (.obj 0), some (.int 28), x3] [.lst [p0, p1, pn 4 n1, ps 6 s1, pn 8 n2, ps 10 s2, pn 12 n3, ps 14 s3, pn 16 n4, ps 18 s4, pn 20 n5, ps 22 s5, pn 24 n6, ps 26 s6]] = whR tW (bW (callF 103)) f [some (.str [113, 32, 61, 32, n1, 32, s1, 32, n2, 32, s2, 32, n3, 32, s3, 32, n4, 32, s4, 32, n5, 32, s5, 32, n6, 32, s6, 32, n7, 32, s7, 32, n8, 32, s8, 32, n9, 32, s9, 32, n10, 32, s10, 32, n11, 32, s11, 32, 51, 10]), some (.obj 0), some (.int 32), some (ps 30 s7)] [.lst [p0, p1, pn 4 n1, ps 6 s1, pn 8 n2, ps 10 s2, pn 12 n3, ps 14 s3, pn 16 n4, ps 18 s4, pn 20 n5, ps 22 s5, pn 24 n6, ps 26 s6, pn 28 n7, ps 30 s7]] := by
  rcases hn with rfl | rfl | rfl <;> rcases hs with rfl | rfl | rfl | rfl <;> kernel_rfl
theorem q11_8 (hn : NN n8) (hs : SS s8) : whR tW (bW (callF 103)) (f + 4) [some (.str [113, 32, 61, 32, n1, 32, s1, 32, n2, 32, s2, 32, n3, 32, s3, 32, n4, 32, s4, 32, n5, 32, s5, 32, n6, 32, s6, 32, n7, 32, s7, 32, n8, 32, s8, 32, n9, 32, s9, 32, n10, 32, s10, 32, n11, 32, s11, 32, 51, 10]), some (.obj 0), some (.int 32), x3] [.lst [p0, p1, pn 4 n1, ps 6 s1, pn 8 n2, ps 10 s2, pn 12 n3, ps 14 s3, pn 16 n4, ps 18 s4, pn 20 n5, ps 22 s5, pn 24 n6, ps 26 s6, pn 28 n7, ps 30 s7]] = whR tW (bW (callF 103)) f [some (.str [113, 32, 61, 32, n1, 32, s1, 32, n2, 32, s2, 32, n3, 32, s3, 32, n4, 32, s4, 32, n5, 32, s5, 32, n6, 32, s6, 32, n7, 32, s7, 32, n8, 32, s8, 32, n9, 32, s9, 32, n10, 32, s10, 32, n11, 32, s11, 32, 51, 10]), some (.obj 0), some (.int 36), some (ps 34 s8)] [.lst [p0, p1, pn 4 n1, ps 6 s1, pn 8 n2, ps 10 s2, pn 12 n3, ps 14 s3, pn 16 n4, ps 18 s4, pn 20 n5, ps 22 s5, pn 24 n6, ps 26 s6, pn 28 n7, ps 30 s7, pn 32 n8, ps 34 s8]] := by
  rcases hn with rfl | rfl | rfl <;> rcases hs with rfl | rfl | rfl | rfl <;> kernel_rfl
theorem q11_9 (hn : NN n9) (hs : SS s9) : whR tW (bW (callF 103)) (f + 4) [some (.str [113, 32, 61, 32, n1, 32, s1, 32, n2, 32, s2, 32, n3, 32, s3, 32, n4, 32, s4, 32, n5, 32, s5, 32, n6, 32, s6, 32, n7, 32, s7, 32, n8, 32, s8, 32, n9, 32, s9, 32, n10, 32, s10, 32, n11, 32, s11, 32, 51, 10]), some (.obj 0), some (.int 36), x3] [.lst [p0, p1, pn 4 n1, ps 6 s1, pn 8 n2, ps 10 s2, pn 12 n3, ps 14 s3, pn 16 n4, ps 18 s4, pn 20 n5, ps 22 s5, pn 24 n6, ps 26 s6, pn 28 n7, ps 30 s7, pn 32 n8, ps 34 s8]] = whR tW (bW (callF 103)) f [some (.str [113, 32, 61, 32, n1, 32, s1, 32, n2, 32, s2, 32, n3, 32, s3, 32, n4, 32, s4, 32, n5, 32, s5, 32, n6, 32, s6, 32, n7, 32, s7, 32, n8, 32, s8, 32, n9, 32, s9, 32, n10, 32, s10, 32, n11, 32, s11, 32, 51, 10]), some (.obj 0), some (.int 40), some (ps 38 s9)] [.lst [p0, p1, pn 4 n1, ps 6 s1, pn 8 n2, ps 10 s2, pn 12 n3, ps 14 s3, pn 16 n4, ps 18 s4, pn 20 n5, ps 22 s5, pn 24 n6, ps 26 s6, pn 28 n7, ps 30 s7, pn 32 n8, ps 34 s8, pn 36 n9, ps 38 s9]] := by
  rcases hn with rfl | rfl | rfl <;> rcases hs with rfl | rfl | rfl | rfl <;> kernel_rfl
theorem q11_10 (hn : NN n10) (hs : SS s10) : whR tW (bW (callF 103)) (f + 4) [some (.str [113, 32, 61, 32, n1, 32, s1, 32, n2, 32, s2, 32, n3, 32, s3, 32, n4, 32, s4, 32, n5, 32, s5, 32, n6, 32, s6, 32, n7, 32, s7, 32, n8, 32, s8, 32, n9, 32, s9, 32, n10, 32, s10, 32, n11, 32, s11, 32, 51, 10]), some (.obj 0), some (.int 40), x3] [.lst [p0, p1, pn 4 n1, ps 6 s1, pn 8 n2, ps 10 s2, pn 12 n3, ps 14 s3, pn 16 n4, ps 18 s4, pn 20 n5, ps 22 s5, pn 24 n6, ps 26 s6, pn 28 n7, ps 30 s7, pn 32 n8, ps 34 s8, pn 36 n9, ps 38 s9]] = whR tW (bW (callF 103)) f [some (.str [113, 32, 61, 32, n1, 32, s1, 32, n2, 32, s2, 32, n3, 32, s3, 32, n4, 32, s4, 32, n5, 32, s5, 32, n6, 32, s6, 32, n7, 32, s7, 32, n8, 32, s8, 32, n9, 32, s9, 32, n10, 32, s10, 32, n11, 32, s11, 32, 51, 10]), some (.obj 0), some (.int 44), some (ps 42 s10)] [.lst [p0, p1, pn 4 n1, ps 6 s1, pn 8 n2, ps 10 s2, pn 12 n3, ps 14 s3, pn 16 n4, ps 18 s4, pn 20 n5, ps 22 s5, pn 24 n6, ps 26 s6, pn 28 n7, ps 30 s7, pn 32 n8, ps 34 s8, pn 36 n9, ps 38 s9, pn 40 n10, ps 42 s10]] := by
  rcases hn with rfl | rfl | rfl <;> rcases hs with rfl | rfl | rfl | rfl <;> kernel_rfl
theorem q11_11 (hn : NN n11) (hs : SS s11) : whR tW (bW (callF 103)) (f + 4) [some (.str [113, 32, 61, 32, n1, 32, s1, 32, n2, 32, s2, 32, n3, 32, s3, 32, n4, 32, s4, 32, n5, 32, s5, 32, n6, 32, s6, 32, n7, 32, s7, 32, n8, 32, s8, 32, n9, 32, s9, 32, n10, 32, s10, 32, n11, 32, s11, 32, 51, 10]), some (.obj 0), some (.int 44), x3] [.lst [p0, p1, pn 4 n1, ps 6 s1, pn 8 n2, ps 10 s2, pn 12 n3, ps 14 s3, pn 16 n4, ps 18 s4, pn 20 n5, ps 22 s5, pn 24 n6, ps 26 s6, pn 28 n7, ps 30 s7, pn 32 n8, ps 34 s8, pn 36 n9, ps 38 s9, pn 40 n10, ps 42 s10]] = whR tW (bW (callF 103)) f [some (.str [113, 32, 61, 32, n1, 32, s1, 32, n2, 32, s2, 32, n3, 32, s3, 32, n4, 32, s4, 32, n5, 32, s5, 32, n6, 32, s6, 32, n7, 32, s7, 32, n8, 32, s8, 32, n9, 32, s9, 32, n10, 32, s10, 32, n11, 32, s11, 32, 51, 10]), some (.obj 0), some (.int 48), some (ps 46 s11)] [.lst [p0, p1, pn 4 n1, ps 6 s1, pn 8 n2, ps 10 s2, pn 12 n3, ps 14 s3, pn 16 n4, ps 18 s4, pn 20 n5, ps 22 s5, pn 24 n6, ps 26 s6, pn 28 n7, ps 30 s7, pn 32 n8, ps 34 s8, pn 36 n9, ps 38 s9, pn 40 n10, ps 42 s10, pn 44 n11, ps 46 s11]] := by
  rcases hn with rfl | rfl | rfl <;> rcases hs with rfl | rfl | rfl | rfl <;> kernel_rfl
theorem q11_e : whR tW (bW (callF 103)) (f + 3) [some (.str [113, 32, 61, 32, n1, 32, s1, 32, n2, 32, s2, 32, n3, 32, s3, 32, n4, 32, s4, 32, n5, 32, s5, 32, n6, 32, s6, 32, n7, 32, s7, 32, n8, 32, s8, 32, n9, 32, s9, 32, n10, 32, s10, 32, n11, 32, s11, 32, 51, 10]), some (.obj 0), some (.int 48), x3] [.lst [p0, p1, pn 4 n1, ps 6 s1, pn 8 n2, ps 10 s2, pn 12 n3, ps 14 s3, pn 16 n4, ps 18 s4, pn 20 n5, ps 22 s5, pn 24 n6, ps 26 s6, pn 28 n7, ps 30 s7, pn 32 n8, ps 34 s8, pn 36 n9, ps 38 s9, pn 40 n10, ps 42 s10, pn 44 n11, ps 46 s11]] = .nx [some (.str [113, 32, 61, 32, n1, 32, s1, 32, n2, 32, s2, 32, n3, 32, s3, 32, n4, 32, s4, 32, n5, 32, s5, 32, n6, 32, s6, 32, n7, 32, s7, 32, n8, 32, s8, 32, n9, 32, s9, 32, n10, 32, s10, 32, n11, 32, s11, 32, 51, 10]), some (.obj 0), some (.int 50), some (pe 49)] [.lst [p0, p1, pn 4 n1, ps 6 s1, pn 8 n2, ps 10 s2, pn 12 n3, ps 14 s3, pn 16 n4, ps 18 s4, pn 20 n5, ps 22 s5, pn 24 n6, ps 26 s6, pn 28 n7, ps 30 s7, pn 32 n8, ps 34 s8, pn 36 n9, ps 38 s9, pn 40 n10, ps 42 s10, pn 44 n11, ps 46 s11, pn 48 51, pe 49]] := by kernel_rfl
theorem q11_all (hn1 : NN n1) (hs1 : SS s1) (hn2 : NN n2) (hs2 : SS s2) (hn3 : NN n3) (hs3 : SS s3) (hn4 : NN n4) (hs4 : SS s4) (hn5 : NN n5) (hs5 : SS s5) (hn6 : NN n6) (hs6 : SS s6) (hn7 : NN n7) (hs7 : SS s7) (hn8 : NN n8) (hs8 : SS s8) (hn9 : NN n9) (hs9 : SS s9) (hn10 : NN n10) (hs10 : SS s10) (hn11 : NN n11) (hs11 : SS s11) : whR tW (bW (callF 103)) M [some (.str [113, 32, 61, 32, n1, 32, s1, 32, n2, 32, s2, 32, n3, 32, s3, 32, n4, 32, s4, 32, n5, 32, s5, 32, n6, 32, s6, 32, n7, 32, s7, 32, n8, 32, s8, 32, n9, 32, s9, 32, n10, 32, s10, 32, n11, 32, s11, 32, 51, 10]), some (.obj 0), some (.int 0), none] [.lst []] = .nx [some (.str [113, 32, 61, 32, n1, 32, s1, 32, n2, 32, s2, 32, n3, 32, s3, 32, n4, 32, s4, 32, n5, 32, s5, 32, n6, 32, s6, 32, n7, 32, s7, 32, n8, 32, s8, 32, n9, 32, s9, 32, n10, 32, s10, 32, n11, 32, s11, 32, 51, 10]), some (.obj 0), some (.int 50), some (pe 49)] [.lst [p0, p1, pn 4 n1, ps 6 s1, pn 8 n2, ps 10 s2, pn 12 n3, ps 14 s3, pn 16 n4, ps 18 s4, pn 20 n5, ps 22 s5, pn 24 n6, ps 26 s6, pn 28 n7, ps 30 s7, pn 32 n8, ps 34 s8, pn 36 n9, ps 38 s9, pn 40 n10, ps 42 s10, pn 44 n11, ps 46 s11, pn 48 51, pe 49]] :=
  ((((((((((((q11_0 (f := 999996)).trans (q11_1 (f := 999992) hn1 hs1)).trans (q11_2 (f := 999988) hn2 hs2)).trans (q11_3 (f := 999984) hn3 hs3)).trans (q11_4 (f := 999980) hn4 hs4)).trans (q11_5 (f := 999976) hn5 hs5)).trans (q11_6 (f := 999972) hn6 hs6)).trans (q11_7 (f := 999968) hn7 hs7)).trans (q11_8 (f := 999964) hn8 hs8)).trans (q11_9 (f := 999960) hn9 hs9)).trans (q11_10 (f := 999956) hn10 hs10)).trans (q11_11 (f := 999952) hn11 hs11)).trans (q11_e (f := 999949))
theorem pc11 (hn1 : NN n1) (hs1 : SS s1) (hn2 : NN n2) (hs2 : SS s2) (hn3 : NN n3) (hs3 : SS s3) (hn4 : NN n4) (hs4 : SS s4) (hn5 : NN n5) (hs5 : SS s5) (hn6 : NN n6) (hs6 : SS s6) (hn7 : NN n7) (hs7 : SS s7) (hn8 : NN n8) (hs8 : SS s8) (hn9 : NN n9) (hs9 : SS s9) (hn10 : NN n10) (hs10 : SS s10) (hn11 : NN n11) (hs11 : SS s11) : c_11 (callF 103) [.str [113, 32, 61, 32, n1, 32, s1, 32, n2, 32, s2, 32, n3, 32, s3, 32, n4, 32, s4, 32, n5, 32, s5, 32, n6, 32, s6, 32, n7, 32, s7, 32, n8, 32, s8, 32, n9, 32, s9, 32, n10, 32, s10, 32, n11, 32, s11, 32, 51, 10]] [] = .ok (.obj 0) [.lst [p0, p1, pn 4 n1, ps 6 s1, pn 8 n2, ps 10 s2, pn 12 n3, ps 14 s3, pn 16 n4, ps 18 s4, pn 20 n5, ps 22 s5, pn 24 n6, ps 26 s6, pn 28 n7, ps 30 s7, pn 32 n8, ps 34 s8, pn 36 n9, ps 38 s9, pn 40 n10, ps 42 s10, pn 44 n11, ps 46 s11, pn 48 51, pe 49]] := by
  have e0 : sPar 1 2 (as1 (eLst as0) (as1 (eC (.int 0)) as0)) [some (.str [113, 32, 61, 32, n1, 32, s1, 32, n2, 32, s2, 32, n3, 32, s3, 32, n4, 32, s4, 32, n5, 32, s5, 32, n6, 32, s6, 32, n7, 32, s7, 32, n8, 32, s8, 32, n9, 32, s9, 32, n10, 32, s10, 32, n11, 32, s11, 32, 51, 10]), none, none, none] [] = .nx [some (.str [113, 32, 61, 32, n1, 32, s1, 32, n2, 32, s2, 32, n3, 32, s3, 32, n4, 32, s4, 32, n5, 32, s5, 32, n6, 32, s6, 32, n7, 32, s7, 32, n8, 32, s8, 32, n9, 32, s9, 32, n10, 32, s10, 32, n11, 32, s11, 32, 51, 10]), some (.obj 0), some (.int 0), none] [.lst []] := by kernel_rfl
  have e1 : b_11 (callF 103) [some (.str [113, 32, 61, 32, n1, 32, s1, 32, n2, 32, s2, 32, n3, 32, s3, 32, n4, 32, s4, 32, n5, 32, s5, 32, n6, 32, s6, 32, n7, 32, s7, 32, n8, 32, s8, 32, n9, 32, s9, 32, n10, 32, s10, 32, n11, 32, s11, 32, 51, 10]), none, none, none] [] = .rt (.obj 0) [.lst [p0, p1, pn 4 n1, ps 6 s1, pn 8 n2, ps 10 s2, pn 12 n3, ps 14 s3, pn 16 n4, ps 18 s4, pn 20 n5, ps 22 s5, pn 24 n6, ps 26 s6, pn 28 n7, ps 30 s7, pn 32 n8, ps 34 s8, pn 36 n9, ps 38 s9, pn 40 n10, ps 42 s10, pn 44 n11, ps 46 s11, pn 48 51, pe 49]] :=
    (sSq_nx e0).trans ((sSq_nx (q11_all hn1 hs1 hn2 hs2 hn3 hs3 hn4 hs4 hn5 hs5 hn6 hs6 hn7 hs7 hn8 hs8 hn9 hs9 hn10 hs10 hn11 hs11)).trans rfl)
  exact fnR_of (np := 1) (n := 4) (xs := [.str [113, 32, 61, 32, n1, 32, s1, 32, n2, 32, s2, 32, n3, 32, s3, 32, n4, 32, s4, 32, n5, 32, s5, 32, n6, 32, s6, 32, n7, 32, s7, 32, n8, 32, s8, 32, n9, 32, s9, 32, n10, 32, s10, 32, n11, 32, s11, 32, 51, 10]]) rfl e1 rfl
end
end T

end

section
set_option Elab.async false
set_option linter.all false
set_option maxRecDepth 100000
set_option maxHeartbeats 4000000
namespace T
open PySem Sh

section
variable {n1 s1 n2 s2 n3 s3 n4 s4 n5 s5 n6 s6 n7 s7 n8 s8 n9 s9 n10 s10 n11 s11 n12 s12 f : Nat} {x3 : Option D}
theorem q12_0 : whR tW (bW (callF 103)) (f + 4) [some (.str [113, 32, 61, 32, n1, 32, s1, 32, n2, 32, s2, 32, n3, 32, s3, 32, n4, 32, s4, 32, n5, 32, s5, 32, n6, 32, s6, 32, n7, 32, s7, 32, n8, 32, s8, 32, n9, 32, s9, 32, n10, 32, s10, 32, n11, 32, s11, 32, n12, 32, s12, 32, 51, 10]), some (.obj 0), some (.int 0), none] [.lst []] = whR tW (bW (callF 103)) f [some (.str [113, 32, 61, 32, n1, 32, s1, 32, n2, 32, s2, 32, n3, 32, s3, 32, n4, 32, s4, 32, n5, 32, s5, 32, n6, 32, s6, 32, n7, 32, s7, 32, n8, 32, s8, 32, n9, 32, s9, 32, n10, 32, s10, 32, n11, 32, s11, 32, n12, 32, s12, 32, 51, 10]), some (.obj 0), some (.int 4), some p1] [.lst [p0, p1]] := by kernel_rfl
theorem q12_1 (hn : NN n1) (hs : SS s1) : whR tW (bW (callF 103)) (f + 4) [some (.str [113, 32, 61, 32, n1, 32, s1, 32, n2, 32, s2, 32, n3, 32, s3, 32, n4, 32, s4, 32, n5, 32, s5, 32, n6, 32, s6, 32, n7, 32, s7, 32, n8, 32, s8, 32, n9, 32, s9, 32, n10, 32, s10, 32, n11, 32, s11, 32, n12, 32, s12, 32, 51, 10]), some (.obj 0), some (.int 4), x3] [.lst [p0, p1]] = whR tW (bW (callF 103)) f [some (.str [113, 32, 61, 32, n1, 32, s1, 32, n2, 32, s2, 32, n3, 32, s3, 32, n4, 32, s4, 32, n5, 32, s5, 32, n6, 32, s6, 32, n7, 32, s7, 32, n8, 32, s8, 32, n9, 32, s9, 32, n10, 32, s10, 32, n11, 32, s11, 32, n12, 32, s12, 32, 51, 10]), some (.obj 0), some (.int 8), some (ps 6 s1)] [.lst [p0, p1, pn 4 n1, ps 6 s1]] := by
  rcases hn with rfl | rfl | rfl <;> rcases hs with rfl | rfl | rfl | rfl <;> kernel_rfl
theorem q12_2 (hn : NN n2) (hs : SS s2) : whR tW (bW (callF 103)) (f + 4) [some (.str [113, 32, 61, 32, n1, 32, s1, 32, n2, 32, s2, 32, n3, 32, s3, 32, n4, 32, s4, 32, n5, 32, s5, 32, n6, 32, s6, 32, n7, 32, s7, 32, n8, 32, s8, 32, n9, 32, s9, 32, n10, 32, s10, 32, n11, 32, s11, 32, n12, 32, s12, 32, 51, 10]), some (.obj 0), some (.int 8), x3] [.lst [p0, p1, pn 4 n1, ps 6 s1]] = whR tW (bW (callF 103)) f [some (.str [113, 32, 61, 32, n1, 32, s1, 32, n2, 32, s2, 32, n3, 32, s3, 32, n4, 32, s4, 32, n5, 32, s5, 32, n6, 32, s6, 32, n7, 32, s7, 32, n8, 32, s8, 32, n9, 32, s9, 32, n10, 32, s10, 32, n11, 32, s11, 32, n12, 32, s12, 32, 51, 10]), some (.obj 0), some (.int 12), some (ps 10 s2)] [.lst [p0, p1, pn 4 n1, ps 6 s1, pn 8 n2, ps 10 s2]] := by
  rcases hn with rfl | rfl | rfl <;> rcases hs with rfl | rfl | rfl | rfl <;> kernel_rfl
theorem q12_3 (hn : NN n3) (hs : SS s3) : whR tW (bW (callF 103)) (f + 4) [some (.str [113, 32, 61, 32, n1, 32, s1, 32, n2, 32, s2, 32, n3, 32, s3, 32, n4, 32, s4, 32, n5, 32, s5, 32, n6, 32, s6, 32, n7, 32, s7, 32, n8, 32, s8, 32, n9, 32, s9, 32, n10, 32, s10, 32, n11, 32, s11, 32, n12, 32, s12, 32, 51, 10]), some (.obj 0), some (.int 12), x3] [.lst [p0, p1, pn 4 n1, ps 6 s1, pn 8 n2, ps 10 s2]] = whR tW (bW (callF 103)) f [some (.str [113, 32, 61, 32, n1, 32, s1, 32, n2, 32, s2, 32, n3, 32, s3, 32, n4, 32, s4, 32, n5, 32, s5, 32, n6, 32, s6, 32, n7, 32, s7, 32, n8, 32, s8, 32, n9, 32, s9, 32, n10, 32, s10, 32, n11, 32, s11, 32, n12, 32, s12, 32, 51, 10]), some (.obj 0), some (.int 16), some (ps 14 s3)] [.lst [p0, p1, pn 4 n1, ps 6 s1, pn 8 n2, ps 10 s2, pn 12 n3, ps 14 s3]] := by
  rcases hn with rfl | rfl | rfl <;> rcases hs with rfl | rfl | rfl | rfl <;> kernel_rfl
theorem q12_4 (hn : NN n4) (hs : SS s4) : whR tW (bW (callF 103)) (f + 4) [some (.str [113, 32, 61, 32, n1, 32, s1, 32, n2, 32, s2, 32, n3, 32, s3, 32, n4, 32, s4, 32, n5, 32, s5, 32, n6, 32, s6, 32, n7, 32, s7, 32, n8, 32, s8, 32, n9, 32, s9, 32, n10, 32, s10, 32, n11, 32, s11, 32, n12, 32, s12, 32, 51, 10]), some (.obj 0), some (.int 16), x3] [.lst [p0, p1, pn 4 n1, ps 6 s1, pn 8 n2, ps 10 s2, pn 12 n3, ps 14 s3]] = whR tW (bW (callF 103)) f [some (.str [113, 32, 61, 32, n1, 32, s1, 32, n2, 32, s2, 32, n3, 32, s3, 32, n4, 32, s4, 32, n5, 32, s5, 32, n6, 32, s6, 32, n7, 32, s7, 32, n8, 32, s8, 32, n9, 32, s9, 32, n10, 32, s10, 32, n11, 32, s11, 32, n12, 32, s12, 32, 51, 10]), some (.obj 0), some (.int 20), some (ps 18 s4)] [.lst [p0, p1, pn 4 n1, ps 6 s1, pn 8 n2, ps 10 s2, pn 12 n3, ps 14 s3, pn 16 n4, ps 18 s4]] := by
  rcases hn with rfl | rfl | rfl <;> rcases hs with rfl | rfl | rfl | rfl <;> kernel_rfl
theorem q12_5 (hn : NN n5) (hs : SS s5) : whR tW (bW (callF 103)) (f + 4) [some (.str [113, 32, 61, 32, n1, 32, s1, 32, n2, 32, s2, 32, n3, 32, s3, 32, n4, 32, s4, 32, n5, 32, s5, 32, n6, 32, s6, 32, n7, 32, s7, 32, n8, 32, s8, 32, n9, 32, s9, 32, n10, 32, s10, 32, n11, 32, s11, 32, n12, 32, s12, 32, 51, 10]), some (.obj 0), some (.int 20), x3] [.lst [p0, p1, pn 4 n1, ps 6 s1, pn 8 n2, ps 10 s2, pn 12 n3, ps 14 s3, pn 16 n4, ps 18 s4]] = whR tW (bW (callF 103)) f [some (.str [113, 32, 61, 32, n1, 32, s1, 32, n2, 32, s2, 32, n3, 32, s3, 32, n4, 32, s4, 32, n5, 32, s5, 32, n6, 32, s6, 32, n7, 32, s7, 32, n8, 32, s8, 32, n9, 32, s9, 32, n10, 32, s10, 32, n11, 32, s11, 32, n12, 32, s12, 32, 51, 10]), some (.obj 0), some (.int 24), some (ps 22 s5)] [.lst [p0, p1, pn 4 n1, ps 6 s1, pn 8 n2, ps 10 s2, pn 12 n3, ps 14 s3, pn 16 n4, ps 18 s4, pn 20 n5, ps 22 s5]] := by
  rcases hn with rfl | rfl | rfl <;> rcases hs with rfl | rfl | rfl | rfl <;> kernel_rfl
theorem q12_6 (hn : NN n6) (hs : SS s6) : whR tW (bW (callF 103)) (f + 4) [some (.str [113, 32, 61, 32, n1, 32, s1, 32, n2, 32, s2, 32, n3, 32, s3, 32, n4, 32, s4, 32, n5, 32, s5, 32, n6, 32, s6, 32, n7, 32, s7, 32, n8, 32, s8, 32, n9, 32, s9, 32, n10, 32, s10, 32, n11, 32, s11, 32, n12, 32, s12, 32, 51, 10]), some (.obj 0), some (.int 24), x3] [.lst [p0, p1, pn 4 n1, ps 6 s1, pn 8 n2, ps 10 s2, pn 12 n3, ps 14 s3, pn 16 n4, ps 18 s4, pn 20 n5, ps 22 s5]] = whR tW (bW (callF 103)) f [some (.str [113, 32, 61, 32, n1, 32, s1, 32, n2, 32, s2, 32, n3, 32, s3, 32, n4, 32, s4, 32, n5, 32, s5, 32, n6, 32, s6, 32, n7, 32, s7, 32, n8, 32, s8, 32, n9, 32, s9, 32, n10, 32, s10, 32, n11, 32, s11, 32, n12, 32, s12, 32, 51, 10]), some (.obj 0), some (.int 28), some (ps 26 s6)] [.lst [p0, p1, pn 4 n1, ps 6 s1, pn 8 n2, ps 10 s2, pn 12 n3, ps 14 s3, pn 16 n4, ps 18 s4, pn 20 n5, ps 22 s5, pn 24 n6, ps 26 s6]] := by
  rcases hn with rfl | rfl | rfl <;> rcases hs with rfl | rfl | rfl | rfl <;> kernel_rfl
theorem q12_7 (hn : NN n7) (hs : SS s7) : whR tW (bW (callF 103)) (f + 4) [some (.str [113, 32, 61, 32, n1, 32, s1, 32, n2, 32, s2, 32, n3, 32, s3, 32, n4, 32, s4, 32, n5, 32, s5, 32, n6, 32, s6, 32, n7, 32, s7, 32, n8, 32, s8, 32, n9, 32, s9, 32, n10, 32, s10, 32, n11, 32, s11, 32, n12, 32, s12, 32, 51, 10]), some (.obj 0), some (.int 28), x3] [.lst [p0, p1, pn 4 n1, ps 6 s1, pn 8 n2, ps 10 s2, pn 12 n3, ps 14 s3, pn 16 n4, ps 18 s4, pn 20 n5, ps 22 s5, pn 24 n6, ps 26 s6]] = whR tW (bW (callF 103)) f [some (.str [113, 32, 61, 32, n1, 32, s1, 32, n2, 32, s2, 32, n3, 32, s3, 32, n4, 32, s4, 32, n5, 32, s5, 32, n6, 32, s6, 32, n7, 32, s7, 32, n8, 32, s8, 32, n9, 32, s9, 32, n10, 32, s10, 32, n11, 32, s11, 32, n12, 32, s12, 32, 51, 10]), some (.obj 0), some (.int 32), some (ps 30 s7)] [.lst [p0, p1, pn 4 n1, ps 6 s1, pn 8 n2, ps 10 s2, pn 12 n3, ps 14 s3, pn 16 n4, ps 18 s4, pn 20 n5, ps 22 s5, pn 24 n6, ps 26 s6, pn 28 n7, ps 30 s7]] := by
  rcases hn with rfl | rfl | rfl <;> rcases hs with rfl | rfl | rfl | rfl <;> kernel_rfl
theorem q12_8 (hn : NN n8) (hs : SS s8) : whR tW (bW (callF 103)) (f + 4) [some (.str [113, 32, 61, 32, n1, 32, s1, 32, n2, 32, s2, 32, n3, 32, s3, 32, n4, 32, s4, 32, n5, 32, s5, 32, n6, 32, s6, 32, n7, 32, s7, 32, n8, 32, s8, 32, n9, 32, s9, 32, n10, 32, s10, 32, n11, 32, s11, 32, n12, 32, s12, 32, 51, 10]), some (.obj 0), some (.int 32), x3] [.lst [p0, p1, pn 4 n1, ps 6 s1, pn 8 n2, ps 10 s2, pn 12 n3, ps 14 s3, pn 16 n4, ps 18 s4, pn 20 n5, ps 22 s5, pn 24 n6, ps 26 s6, pn 28 n7, ps 30 s7]] = whR tW (bW (callF 103)) f [some (.str [113, 32, 61, 32, n1, 32, s1, 32, n2, 32, s2, 32, n3, 32, s3, 32, n4, 32, s4, 32, n5, 32, s5, 32, n6, 32, s6, 32, n7, 32, s7, 32, n8, 32, s8, 32, n9, 32, s9, 32, n10, 32, s10, 32, n11, 32, s11, 32, n12, 32, s12, 32, 51, 10]), some (.obj 0), some (.int 36), some (ps 34 s8)] [.lst [p0, p1, pn 4 n1, ps 6 s1, pn 8 n2, ps 10 s2, pn 12 n3, ps 14 s3, pn 16 n4, ps 18 s4, pn 20 n5, ps 22 s5, pn 24 n6, ps 26 s6, pn 28 n7, ps 30 s7, pn 32 n8, ps 34 s8]] := by
  rcases hn with rfl | rfl | rfl <;> rcases hs with rfl | rfl | rfl | rfl <;> kernel_rfl
theorem q12_9 (hn : NN n9) (hs : SS s9) : whR tW (bW (callF 103)) (f + 4) [some (.str [113, 32, 61, 32, n1, 32, s1, 32, n2, 32, s2, 32, n3, 32, s3, 32, n4, 32, s4, 32, n5, 32, s5, 32, n6, 32, s6, 32, n7, 32, s7, 32, n8, 32, s8, 32, n9, 32, s9, 32, n10, 32, s10, 32, n11, 32, s11, 32, n12, 32, s12, 32, 51, 10]), some (.obj 0), some (.int 36), x3] [.lst [p0, p1, pn 4 n1, ps 6 s1, pn 8 n2, ps 10 s2, pn 12 n3, ps 14 s3, pn 16 n4, ps 18 s4, pn 20 n5, ps 22 s5, pn 24 n6, ps 26 s6, pn 28 n7, ps 30 s7, pn 32 n8, ps 34 s8]] = whR tW (bW (callF 103)) f [some (.str [113, 32, 61, 32, n1, 32, s1, 32, n2, 32, s2, 32, n3, 32, s3, 32, n4, 32, s4, 32, n5, 32, s5, 32, n6, 32, s6, 32, n7, 32, s7, 32, n8, 32, s8, 32, n9, 32, s9, 32, n10, 32, s10, 32, n11, 32, s11, 32, n12, 32, s12, 32, 51, 10]), some (.obj 0), some (.int 40), some (ps 38 s9)] [.lst [p0, p1, pn 4 n1, ps 6 s1, pn 8 n2, ps 10 s2, pn 12 n3, ps 14 s3, pn 16 n4, ps 18 s4, pn 20 n5, ps 22 s5, pn 24 n6, ps 26 s6, pn 28 n7, ps 30 s7, pn 32 n8, ps 34 s8, pn 36 n9, ps 38 s9]] := by
  rcases hn with rfl | rfl | rfl <;> rcases hs with rfl | rfl | rfl | rfl <;> kernel_rfl
theorem q12_10 (hn : NN n10) (hs : SS s10) : whR tW (bW (callF 103)) (f + 4) [some (.str [113, 32, 61, 32, n1, 32, s1, 32, n2, 32, s2, 32, n3, 32, s3, 32, n4, 32, s4, 32, n5, 32, s5, 32, n6, 32, s6, 32, n7, 32, s7, 32, n8, 32, s8, 32, n9, 32, s9, 32, n10, 32, s10, 32, n11, 32, s11, 32, n12, 32, s12, 32, 51, 10]), some (.obj 0), some (.int 40), x3] [.lst [p0, p1, pn 4 n1, ps 6 s1, pn 8 n2, ps 10 s2, pn 12 n3, ps 14 s3, pn 16 n4, ps 18 s4, pn 20 n5, ps 22 s5, pn 24 n6, ps 26 s6, pn 28 n7, ps 30 s7, pn 32 n8, ps 34 s8, pn 36 n9, ps 38 s9]] = whR tW (bW (callF 103)) f [some (.str [113, 32, 61, 32, n1, 32, s1, 32, n2, 32, s2, 32, n3, 32, s3, 32, n4, 32, s4, 32, n5, 32, s5, 32, n6, 32, s6, 32, n7, 32, s7, 32, n8, 32, s8, 32, n9, 32, s9, 32, n10, 32, s10, 32, n11, 32, s11, 32, n12, 32, s12, 32, 51, 10]), some (.obj 0), some (.int 44), some (ps 42 s10)] [.lst [p0, p1, pn 4 n1, ps 6 s1, pn 8 n2, ps 10 s2, pn 12 n3, ps 14 s3, pn 16 n4, ps 18 s4, pn 20 n5, ps 22 s5, pn 24 n6, ps 26 s6, pn 28 n7, ps 30 s7, pn 32 n8, ps 34 s8, pn 36 n9, ps 38 s9, pn 40 n10, ps 42 s10]] := by
  rcases hn with rfl | rfl | rfl <;> rcases hs with rfl | rfl | rfl | rfl <;> kernel_rfl
theorem q12_11 (hn : NN n11) (hs : SS s11) : whR tW (bW (callF 103)) (f + 4) [some (.str [113, 32, 61, 32, n1, 32, s1, 32, n2, 32, s2, 32, n3, 32, s3, 32, n4, 32, s4, 32, n5, 32, s5, 32, n6, 32, s6, 32, n7, 32, s7, 32, n8, 32, s8, 32, n9, 32, s9, 32, n10, 32, s10, 32, n11, 32, s11, 32, n12, 32, s12, 32, 51, 10]), some (.obj 0), some (.int 44), x3] [.lst [p0, p1, pn 4 n1, ps 6 s1, pn 8 n2, ps 10 s2, pn 12 n3, ps 14 s3, pn 16 n4, ps 18 s4, pn 20 n5, ps 22 s5, pn 24 n6, ps 26 s6, pn 28 n7, ps 30 s7, pn 32 n8, ps 34 s8, pn 36 n9, ps 38 s9, pn 40 n10, ps 42 s10]] = whR tW (bW (callF 103)) f [some (.str [113, 32, 61, 32, n1, 32, s1, 32, n2, 32, s2, 32, n3, 32, s3, 32, n4, 32, s4, 32, n5, 32, s5, 32, n6, 32, s6, 32, n7, 32, s7, 32, n8, 32, s8, 32, n9, 32, s9, 32, n10, 32, s10, 32, n11, 32, s11, 32, n12, 32, s12, 32, 51, 10]), some (.obj 0), some (.int 48), some (ps 46 s11)] [.lst [p0, p1, pn 4 n1, ps 6 s1, pn 8 n2, ps 10 s2, pn 12 n3, ps 14 s3, pn 16 n4, ps 18 s4, pn 20 n5, ps 22 s5, pn 24 n6, ps 26 s6, pn 28 n7, ps 30 s7, pn 32 n8, ps 34 s8, pn 36 n9, ps 38 s9, pn 40 n10, ps 42 s10, pn 44 n11, ps 46 s11]] := by
  rcases hn with rfl | rfl | rfl <;> rcases hs with rfl | rfl | rfl | rfl <;> kernel_rfl
theorem q12_12 (hn : NN n12) (hs : SS s12) : whR tW (bW (callF 103)) (f + 4) [some (.str [113, 32, 61, 32, n1, 32, s1, 32, n2, 32, s2, 32, n3, 32, s3, 32, n4, 32, s4, 32, n5, 32, s5, 32, n6, 32, s6, 32, n7, 32, s7, 32, n8, 32, s8, 32, n9, 32, s9, 32, n10, 32, s10, 32, n11, 32, s11, 32, n12, 32, s12, 32, 51, 10]), some (.obj 0), some (.int 48), x3] [.lst [p0, p1, pn 4 n1, ps 6 s1, pn 8 n2, ps 10 s2, pn 12 n3, ps 14 s3, pn 16 n4, ps 18 s4, pn 20 n5, ps 22 s5, pn 24 n6, ps 26 s6, pn 28 n7, ps 30 s7, pn 32 n8, ps 34 s8, pn 36 n9, ps 38 s9, pn 40 n10, ps 42 s10, pn 44 n11, ps 46 s11]] = whR tW (bW (callF 103)) f [some (.str [113, 32, 61, 32, n1, 32, s1, 32, n2, 32, s2, 32, n3, 32, s3, 32, n4, 32, s4, 32, n5, 32, s5, 32, n6, 32, s6, 32, n7, 32, s7, 32, n8, 32, s8, 32, n9, 32, s9, 32, n10, 32, s10, 32, n11, 32, s11, 32, n12, 32, s12, 32, 51, 10]), some (.obj 0), some (.int 52), some (ps 50 s12)] [.lst [p0, p1, pn 4 n1, ps 6 s1, pn 8 n2, ps 10 s2, pn 12 n3, ps 14 s3, pn 16 n4, ps 18 s4, pn 20 n5, ps 22 s5, pn 24 n6, ps 26 s6, pn 28 n7, ps 30 s7, pn 32 n8, ps 34 s8, pn 36 n9, ps 38 s9, pn 40 n10, ps 42 s10, pn 44 n11, ps 46 s11, pn 48 n12, ps 50 s12]] := by
  rcases hn with rfl | rfl | rfl <;> rcases hs with rfl | rfl | rfl | rfl <;> kernel_rfl
theorem q12_e : whR tW (bW (callF 103)) (f + 3) [some (.str [113, 32, 61, 32, n1, 32, s1, 32, n2, 32, s2, 32, n3, 32, s3, 32, n4, 32, s4, 32, n5, 32, s5, 32, n6, 32, s6, 32, n7, 32, s7, 32, n8, 32, s8, 32, n9, 32, s9, 32, n10, 32, s10, 32, n11, 32, s11, 32, n12, 32, s12, 32, 51, 10]), some (.obj 0), some (.int 52), x3] [.lst [p0, p1, pn 4 n1, ps 6 s1, pn 8 n2, ps 10 s2, pn 12 n3, ps 14 s3, pn 16 n4, ps 18 s4, pn 20 n5, ps 22 s5, pn 24 n6, ps 26 s6, pn 28 n7, ps 30 s7, pn 32 n8, ps 34 s8, pn 36 n9, ps 38 s9, pn 40 n10, ps 42 s10, pn 44 n11, ps 46 s11, pn 48 n12, ps 50 s12]] = .nx [some (.str [113, 32, 61, 32, n1, 32, s1, 32, n2, 32, s2, 32, n3, 32, s3, 32, n4, 32, s4, 32, n5, 32, s5, 32, n6, 32, s6, 32, n7, 32, s7, 32, n8, 32, s8, 32, n9, 32, s9, 32, n10, 32, s10, 32, n11, 32, s11, 32, n12, 32, s12, 32, 51, 10]), some (.obj 0), some (.int 54), some (pe 53)] [.lst [p0, p1, pn 4 n1, ps 6 s1, pn 8 n2, ps 10 s2, pn 12 n3, ps 14 s3, pn 16 n4, ps 18 s4, pn 20 n5, ps 22 s5, pn 24 n6, ps 26 s6, pn 28 n7, ps 30 s7, pn 32 n8, ps 34 s8, pn 36 n9, ps 38 s9, pn 40 n10, ps 42 s10, pn 44 n11, ps 46 s11, pn 48 n12, ps 50 s12, pn 52 51, pe 53]] := by kernel_rfl
theorem q12_all (hn1 : NN n1) (hs1 : SS s1) (hn2 : NN n2) (hs2 : SS s2) (hn3 : NN n3) (hs3 : SS s3) (hn4 : NN n4) (hs4 : SS s4) (hn5 : NN n5) (hs5 : SS s5) (hn6 : NN n6) (hs6 : SS s6) (hn7 : NN n7) (hs7 : SS s7) (hn8 : NN n8) (hs8 : SS s8) (hn9 : NN n9) (hs9 : SS s9) (hn10 : NN n10) (hs10 : SS s10) (hn11 : NN n11) (hs11 : SS s11) (hn12 : NN n12) (hs12 : SS s12) : whR tW (bW (callF 103)) M [some (.str [113, 32, 61, 32, n1, 32, s1, 32, n2, 32, s2, 32, n3, 32, s3, 32, n4, 32, s4, 32, n5, 32, s5, 32, n6, 32, s6, 32, n7, 32, s7, 32, n8, 32, s8, 32, n9, 32, s9, 32, n10, 32, s10, 32, n11, 32, s11, 32, n12, 32, s12, 32, 51, 10]), some (.obj 0), some (.int 0), none] [.lst []] = .nx [some (.str [113, 32, 61, 32, n1, 32, s1, 32, n2, 32, s2, 32, n3, 32, s3, 32, n4, 32, s4, 32, n5, 32, s5, 32, n6, 32, s6, 32, n7, 32, s7, 32, n8, 32, s8, 32, n9, 32, s9, 32, n10, 32, s10, 32, n11, 32, s11, 32, n12, 32, s12, 32, 51, 10]), some (.obj 0), some (.int 54), some (pe 53)] [.lst [p0, p1, pn 4 n1, ps 6 s1, pn 8 n2, ps 10 s2, pn 12 n3, ps 14 s3, pn 16 n4, ps 18 s4, pn 20 n5, ps 22 s5, pn 24 n6, ps 26 s6, pn 28 n7, ps 30 s7, pn 32 n8, ps 34 s8, pn 36 n9, ps 38 s9, pn 40 n10, ps 42 s10, pn 44 n11, ps 46 s11, pn 48 n12, ps 50 s12, pn 52 51, pe 53]] :=
  (((((((((((((q12_0 (f := 999996)).trans (q12_1 (f := 999992) hn1 hs1)).trans (q12_2 (f := 999988) hn2 hs2)).trans (q12_3 (f := 999984) hn3 hs3)).trans (q12_4 (f := 999980) hn4 hs4)).trans (q12_5 (f := 999976) hn5 hs5)).trans (q12_6 (f := 999972) hn6 hs6)).trans (q12_7 (f := 999968) hn7 hs7)).trans (q12_8 (f := 999964) hn8 hs8)).trans (q12_9 (f := 999960) hn9 hs9)).trans (q12_10 (f := 999956) hn10 hs10)).trans (q12_11 (f := 999952) hn11 hs11)).trans (q12_12 (f := 999948) hn12 hs12)).trans (q12_e (f := 999945))
theorem pc12 (hn1 : NN n1) (hs1 : SS s1) (hn2 : NN n2) (hs2 : SS s2) (hn3 : NN n3) (hs3 : SS s3) (hn4 : NN n4) (hs4 : SS s4) (hn5 : NN n5) (hs5 : SS s5) (hn6 : NN n6) (hs6 : SS s6) (hn7 : NN n7) (hs7 : SS s7) (hn8 : NN n8) (hs8 : SS s8) (hn9 : NN n9) (hs9 : SS s9) (hn10 : NN n10) (hs10 : SS s10) (hn11 : NN n11) (hs11 : SS s11) (hn12 : NN n12) (hs12 : SS s12) : c_11 (callF 103) [.str [113, 32, 61, 32, n1, 32, s1, 32, n2, 32, s2, 32, n3, 32, s3, 32, n4, 32, s4, 32, n5, 32, s5, 32, n6, 32, s6, 32, n7, 32, s7, 32, n8, 32, s8, 32, n9, 32, s9, 32, n10, 32, s10, 32, n11, 32, s11, 32, n12, 32, s12, 32, 51, 10]] [] = .ok (.obj 0) [.lst [p0, p1, pn 4 n1, ps 6 s1, pn 8 n2, ps 10 s2, pn 12 n3, ps 14 s3, pn 16 n4, ps 18 s4, pn 20 n5, ps 22 s5, pn 24 n6, ps 26 s6, pn 28 n7, ps 30 s7, pn 32 n8, ps 34 s8, pn 36 n9, ps 38 s9, pn 40 n10, ps 42 s10, pn 44 n11, ps 46 s11, pn 48 n12, ps 50 s12, pn 52 51, pe 53]] := by
  have e0 : sPar 1 2 (as1 (eLst as0) (as1 (eC (.int 0)) as0)) [some (.str [113, 32, 61, 32, n1, 32, s1, 32, n2, 32, s2, 32, n3, 32, s3, 32, n4, 32, s4, 32, n5, 32, s5, 32, n6, 32, s6, 32, n7, 32, s7, 32, n8, 32, s8, 32, n9, 32, s9, 32, n10, 32, s10, 32, n11, 32, s11, 32, n12, 32, s12, 32, 51, 10]), none, none, none] [] = .nx [some (.str [113, 32, 61, 32, n1, 32, s1, 32, n2, 32, s2, 32, n3, 32, s3, 32, n4, 32, s4, 32, n5, 32, s5, 32, n6, 32, s6, 32, n7, 32, s7, 32, n8, 32, s8, 32, n9, 32, s9, 32, n10, 32, s10, 32, n11, 32, s11, 32, n12, 32, s12, 32, 51, 10]), some (.obj 0), some (.int 0), none] [.lst []] := by kernel_rfl
  have e1 : b_11 (callF 103) [some (.str [113, 32, 61, 32, n1, 32, s1, 32, n2, 32, s2, 32, n3, 32, s3, 32, n4, 32, s4, 32, n5, 32, s5, 32, n6, 32, s6, 32, n7, 32, s7, 32, n8, 32, s8, 32, n9, 32, s9, 32, n10, 32, s10, 32, n11, 32, s11, 32, n12, 32, s12, 32, 51, 10]), none, none, none] [] = .rt (.obj 0) [.lst [p0, p1, pn 4 n1, ps 6 s1, pn 8 n2, ps 10 s2, pn 12 n3, ps 14 s3, pn 16 n4, ps 18 s4, pn 20 n5, ps 22 s5, pn 24 n6, ps 26 s6, pn 28 n7, ps 30 s7, pn 32 n8, ps 34 s8, pn 36 n9, ps 38 s9, pn 40 n10, ps 42 s10, pn 44 n11, ps 46 s11, pn 48 n12, ps 50 s12, pn 52 51, pe 53]] :=
    (sSq_nx e0).trans ((sSq_nx (q12_all hn1 hs1 hn2 hs2 hn3 hs3 hn4 hs4 hn5 hs5 hn6 hs6 hn7 hs7 hn8 hs8 hn9 hs9 hn10 hs10 hn11 hs11 hn12 hs12)).trans rfl)
  exact fnR_of (np := 1) (n := 4) (xs := [.str [113, 32, 61, 32, n1, 32, s1, 32, n2, 32, s2, 32, n3, 32, s3, 32, n4, 32, s4, 32, n5, 32, s5, 32, n6, 32, s6, 32, n7, 32, s7, 32, n8, 32, s8, 32, n9, 32, s9, 32, n10, 32, s10, 32, n11, 32, s11, 32, n12, 32, s12, 32, 51, 10]]) rfl e1 rfl
end
end T

end

section
set_option Elab.async false
set_option linter.all false
set_option maxRecDepth 100000
set_option maxHeartbeats 4000000
namespace T
open PySem Sh

def ld (n : Nat) : D := bif n == 110 then .tup [.str [110, 97, 109, 101], .str [110]] else .tup [.str [110, 117, 109, 101, 114, 97, 108], .int ((n : Int) - 48)]
def wS (s : Nat) : D := .str (bif s == 43 then [112, 108, 117, 115] else bif s == 45 then [108, 101, 115, 115] else bif s == 42 then [116, 105, 109, 101, 115] else [111, 118, 101, 114])
theorem ld_pure (n : Nat) : (ld n).pure = true := by
  unfold ld
  cases n == 110 <;> rfl
theorem tup3 {a b c : D} (ha : a.pure = true) (hb : b.pure = true) (hc : c.pure = true) : (D.tup [a, b, c]).pure = true := by
  show (a.pure && (b.pure && (c.pure && true))) = true
  rw [ha, hb, hc]
  rfl
def hp (sz i : Nat) (pl : List D) (tl : Hd) : Hd := .ins 1 [.obj 1, .int sz, .int i] :: .lst pl :: tl
theorem evTup {a : Exs} {s : Sl} {h h1 : Hd} {xs : List D} (ea : a s h = .ok xs h1) (hl : xs.length ≤ M) : eTup a s h = .ok (.tup xs) h1 := by
  unfold eTup
  rw [ea]
  exact if_pos hl
def tS (G : Nat → Fn) : Ext := (tAn (tB1 (e2 oLt (eV 3) (eC k_MOST_TERMS))) (tO (tV (eMt 1 (G 35) (eV 0) (as1 (eC (.str [43])) as0))) (tV (eMt 1 (G 35) (eV 0) (as1 (eC (.str [45])) as0)))))
def bS (G : Nat → Fn) : Sm := (sSq (sSet 4 (e1 (oGetD d_TERM_WORDS) (eMt 1 (G 36) (eV 0) as0)))
    (sSq (sSet 2 (eTup (as1 (eV 4) (as1 (eV 2) (as1 (eB (G 42) (as1 (eV 0) (as1 (eV 1) as0))) as0)))))
    (sSet 3 (e2 oAdd (eV 3) (eC (.int 1))))))
def tP (G : Nat → Fn) : Ext := (tAn (tB1 (e2 oLt (eV 3) (eC k_MOST_FACTORS))) (tO (tV (eMt 1 (G 35) (eV 0) (as1 (eC (.str [42])) as0))) (tV (eMt 1 (G 35) (eV 0) (as1 (eC (.str [47])) as0)))))
def bP (G : Nat → Fn) : Sm := (sSq (sSet 4 (e1 (oGetD d_FACTOR_WORDS) (eMt 1 (G 36) (eV 0) as0)))
    (sSq (sSet 2 (eTup (as1 (eV 4) (as1 (eV 2) (as1 (eB (G 43) (as1 (eV 0) (as1 (eV 1) as0))) as0)))))
    (sSet 3 (e2 oAdd (eV 3) (eC (.int 1))))))
theorem b41_eq (G : Nat → Fn) : b_41 G = sSq (sSet 2 (eB (G 42) (as1 (eV 0) (as1 (eV 1) as0)))) (sSq (sSet 3 (eQ (G 14) (as1 (eV 2) (as1 (eC k_TERMS) as0)))) (sSq (sWh (tS G) (bS G)) (sRet (eV 2)))) := rfl
theorem b42_eq (G : Nat → Fn) : b_42 G = sSq (sSet 2 (eB (G 43) (as1 (eV 0) (as1 (eV 1) as0)))) (sSq (sSet 3 (eQ (G 14) (as1 (eV 2) (as1 (eC k_FACTORS) as0)))) (sSq (sWh (tP G) (bP G)) (sRet (eV 2)))) := rfl
theorem sSq_rt {a b : Sm} {s : Sl} {h h1 : Hd} {d : D} (e : a s h = .rt d h1) : sSq a b s h = .rt d h1 := by
  unfold sSq
  rw [e]
theorem sSq_exc {a b : Sm} {s s1 : Sl} {h h1 : Hd} {c : Nat} {fs : List D} (e : a s h = .exc c fs s1 h1) : sSq a b s h = .exc c fs s1 h1 := by
  unfold sSq
  rw [e]
theorem evSet_exc {i : Nat} {e : Ex} {s : Sl} {h h1 : Hd} {c : Nat} {fs : List D} (ee : e s h = .exc c fs h1) : sSet i e s h = .exc c fs s h1 := by
  unfold sSet
  rw [ee]
  rfl
theorem evB_exc {op : List D → Hd → R D} {a : Exs} {s : Sl} {h h1 h2 : Hd} {xs : List D} {c : Nat} {fs : List D} (ea : a s h = .ok xs h1) (eo : op xs h1 = .exc c fs h2) : eB op a s h = .exc c fs h2 := evB ea eo
theorem fnR_exc {np n : Nat} {b : Sm} {xs : List D} {h h1 : Hd} {s1 : Sl} {c : Nat} {fs : List D} (hl : xs.length = np) (e : b (xs.map some ++ List.replicate (n - np) none) h = .exc c fs s1 h1) : fnR np n b xs h = .exc c fs h1 := fnR_of hl e rfl
section
variable {n1 s1 n2 s2 n3 s3 n4 s4 n5 s5 n6 s6 n7 s7 n8 s8 n9 s9 n10 s10 n11 s11 f : Nat} {x4 : Option D} {t : D} {tl : Hd}
theorem a11_1 (hn : NN n1) (hs : SA s1) : c_42 (callF 100) [.obj 0, .int 0] (hp 50 2 [p0, p1, pn 4 n1, ps 6 s1, pn 8 n2, ps 10 s2, pn 12 n3, ps 14 s3, pn 16 n4, ps 18 s4, pn 20 n5, ps 22 s5, pn 24 n6, ps 26 s6, pn 28 n7, ps 30 s7, pn 32 n8, ps 34 s8, pn 36 n9, ps 38 s9, pn 40 n10, ps 42 s10, pn 44 n11, ps 46 s11, pn 48 51, pe 49] tl) = .ok (ld n1) (hp 50 3 [p0, p1, pn 4 n1, ps 6 s1, pn 8 n2, ps 10 s2, pn 12 n3, ps 14 s3, pn 16 n4, ps 18 s4, pn 20 n5, ps 22 s5, pn 24 n6, ps 26 s6, pn 28 n7, ps 30 s7, pn 32 n8, ps 34 s8, pn 36 n9, ps 38 s9, pn 40 n10, ps 42 s10, pn 44 n11, ps 46 s11, pn 48 51, pe 49] tl) := by
  rcases hn with rfl | rfl | rfl <;> rcases hs with rfl | rfl <;> kernel_rfl
theorem a11_c (hn : NN n1) : eQ (callF 101 14) (as1 (eV 2) (as1 (eC k_TERMS) as0)) [some (.obj 0), some (.int 0), some (ld n1), none, none] (hp 50 3 [p0, p1, pn 4 n1, ps 6 s1, pn 8 n2, ps 10 s2, pn 12 n3, ps 14 s3, pn 16 n4, ps 18 s4, pn 20 n5, ps 22 s5, pn 24 n6, ps 26 s6, pn 28 n7, ps 30 s7, pn 32 n8, ps 34 s8, pn 36 n9, ps 38 s9, pn 40 n10, ps 42 s10, pn 44 n11, ps 46 s11, pn 48 51, pe 49] tl) = .ok (.int 1) (hp 50 3 [p0, p1, pn 4 n1, ps 6 s1, pn 8 n2, ps 10 s2, pn 12 n3, ps 14 s3, pn 16 n4, ps 18 s4, pn 20 n5, ps 22 s5, pn 24 n6, ps 26 s6, pn 28 n7, ps 30 s7, pn 32 n8, ps 34 s8, pn 36 n9, ps 38 s9, pn 40 n10, ps 42 s10, pn 44 n11, ps 46 s11, pn 48 51, pe 49] tl) := by
  rcases hn with rfl | rfl | rfl <;> kernel_rfl
theorem a11_s1 (hs : SA s1) (hn : NN n2) (hz : SA s2) : whR (tS (callF 101)) (bS (callF 101)) (f + 1) [some (.obj 0), some (.int 0), some t, some (.int 1), x4] (hp 50 3 [p0, p1, pn 4 n1, ps 6 s1, pn 8 n2, ps 10 s2, pn 12 n3, ps 14 s3, pn 16 n4, ps 18 s4, pn 20 n5, ps 22 s5, pn 24 n6, ps 26 s6, pn 28 n7, ps 30 s7, pn 32 n8, ps 34 s8, pn 36 n9, ps 38 s9, pn 40 n10, ps 42 s10, pn 44 n11, ps 46 s11, pn 48 51, pe 49] tl) = whR (tS (callF 101)) (bS (callF 101)) f [some (.obj 0), some (.int 0), some (.tup [wS s1, t, ld n2]), some (.int 2), some (wS s1)] (hp 50 5 [p0, p1, pn 4 n1, ps 6 s1, pn 8 n2, ps 10 s2, pn 12 n3, ps 14 s3, pn 16 n4, ps 18 s4, pn 20 n5, ps 22 s5, pn 24 n6, ps 26 s6, pn 28 n7, ps 30 s7, pn 32 n8, ps 34 s8, pn 36 n9, ps 38 s9, pn 40 n10, ps 42 s10, pn 44 n11, ps 46 s11, pn 48 51, pe 49] tl) := by
  rcases hs with rfl | rfl <;> rcases hn with rfl | rfl | rfl <;> rcases hz with rfl | rfl <;> kernel_rfl
theorem a11_s2 (hs : SA s2) (hn : NN n3) (hz : SA s3) : whR (tS (callF 101)) (bS (callF 101)) (f + 1) [some (.obj 0), some (.int 0), some t, some (.int 2), x4] (hp 50 5 [p0, p1, pn 4 n1, ps 6 s1, pn 8 n2, ps 10 s2, pn 12 n3, ps 14 s3, pn 16 n4, ps 18 s4, pn 20 n5, ps 22 s5, pn 24 n6, ps 26 s6, pn 28 n7, ps 30 s7, pn 32 n8, ps 34 s8, pn 36 n9, ps 38 s9, pn 40 n10, ps 42 s10, pn 44 n11, ps 46 s11, pn 48 51, pe 49] tl) = whR (tS (callF 101)) (bS (callF 101)) f [some (.obj 0), some (.int 0), some (.tup [wS s2, t, ld n3]), some (.int 3), some (wS s2)] (hp 50 7 [p0, p1, pn 4 n1, ps 6 s1, pn 8 n2, ps 10 s2, pn 12 n3, ps 14 s3, pn 16 n4, ps 18 s4, pn 20 n5, ps 22 s5, pn 24 n6, ps 26 s6, pn 28 n7, ps 30 s7, pn 32 n8, ps 34 s8, pn 36 n9, ps 38 s9, pn 40 n10, ps 42 s10, pn 44 n11, ps 46 s11, pn 48 51, pe 49] tl) := by
  rcases hs with rfl | rfl <;> rcases hn with rfl | rfl | rfl <;> rcases hz with rfl | rfl <;> kernel_rfl
theorem a11_s3 (hs : SA s3) (hn : NN n4) (hz : SA s4) : whR (tS (callF 101)) (bS (callF 101)) (f + 1) [some (.obj 0), some (.int 0), some t, some (.int 3), x4] (hp 50 7 [p0, p1, pn 4 n1, ps 6 s1, pn 8 n2, ps 10 s2, pn 12 n3, ps 14 s3, pn 16 n4, ps 18 s4, pn 20 n5, ps 22 s5, pn 24 n6, ps 26 s6, pn 28 n7, ps 30 s7, pn 32 n8, ps 34 s8, pn 36 n9, ps 38 s9, pn 40 n10, ps 42 s10, pn 44 n11, ps 46 s11, pn 48 51, pe 49] tl) = whR (tS (callF 101)) (bS (callF 101)) f [some (.obj 0), some (.int 0), some (.tup [wS s3, t, ld n4]), some (.int 4), some (wS s3)] (hp 50 9 [p0, p1, pn 4 n1, ps 6 s1, pn 8 n2, ps 10 s2, pn 12 n3, ps 14 s3, pn 16 n4, ps 18 s4, pn 20 n5, ps 22 s5, pn 24 n6, ps 26 s6, pn 28 n7, ps 30 s7, pn 32 n8, ps 34 s8, pn 36 n9, ps 38 s9, pn 40 n10, ps 42 s10, pn 44 n11, ps 46 s11, pn 48 51, pe 49] tl) := by
  rcases hs with rfl | rfl <;> rcases hn with rfl | rfl | rfl <;> rcases hz with rfl | rfl <;> kernel_rfl
theorem a11_s4 (hs : SA s4) (hn : NN n5) (hz : SA s5) : whR (tS (callF 101)) (bS (callF 101)) (f + 1) [some (.obj 0), some (.int 0), some t, some (.int 4), x4] (hp 50 9 [p0, p1, pn 4 n1, ps 6 s1, pn 8 n2, ps 10 s2, pn 12 n3, ps 14 s3, pn 16 n4, ps 18 s4, pn 20 n5, ps 22 s5, pn 24 n6, ps 26 s6, pn 28 n7, ps 30 s7, pn 32 n8, ps 34 s8, pn 36 n9, ps 38 s9, pn 40 n10, ps 42 s10, pn 44 n11, ps 46 s11, pn 48 51, pe 49] tl) = whR (tS (callF 101)) (bS (callF 101)) f [some (.obj 0), some (.int 0), some (.tup [wS s4, t, ld n5]), some (.int 5), some (wS s4)] (hp 50 11 [p0, p1, pn 4 n1, ps 6 s1, pn 8 n2, ps 10 s2, pn 12 n3, ps 14 s3, pn 16 n4, ps 18 s4, pn 20 n5, ps 22 s5, pn 24 n6, ps 26 s6, pn 28 n7, ps 30 s7, pn 32 n8, ps 34 s8, pn 36 n9, ps 38 s9, pn 40 n10, ps 42 s10, pn 44 n11, ps 46 s11, pn 48 51, pe 49] tl) := by
  rcases hs with rfl | rfl <;> rcases hn with rfl | rfl | rfl <;> rcases hz with rfl | rfl <;> kernel_rfl
theorem a11_s5 (hs : SA s5) (hn : NN n6) (hz : SA s6) : whR (tS (callF 101)) (bS (callF 101)) (f + 1) [some (.obj 0), some (.int 0), some t, some (.int 5), x4] (hp 50 11 [p0, p1, pn 4 n1, ps 6 s1, pn 8 n2, ps 10 s2, pn 12 n3, ps 14 s3, pn 16 n4, ps 18 s4, pn 20 n5, ps 22 s5, pn 24 n6, ps 26 s6, pn 28 n7, ps 30 s7, pn 32 n8, ps 34 s8, pn 36 n9, ps 38 s9, pn 40 n10, ps 42 s10, pn 44 n11, ps 46 s11, pn 48 51, pe 49] tl) = whR (tS (callF 101)) (bS (callF 101)) f [some (.obj 0), some (.int 0), some (.tup [wS s5, t, ld n6]), some (.int 6), some (wS s5)] (hp 50 13 [p0, p1, pn 4 n1, ps 6 s1, pn 8 n2, ps 10 s2, pn 12 n3, ps 14 s3, pn 16 n4, ps 18 s4, pn 20 n5, ps 22 s5, pn 24 n6, ps 26 s6, pn 28 n7, ps 30 s7, pn 32 n8, ps 34 s8, pn 36 n9, ps 38 s9, pn 40 n10, ps 42 s10, pn 44 n11, ps 46 s11, pn 48 51, pe 49] tl) := by
  rcases hs with rfl | rfl <;> rcases hn with rfl | rfl | rfl <;> rcases hz with rfl | rfl <;> kernel_rfl
theorem a11_s6 (hs : SA s6) (hn : NN n7) (hz : SA s7) : whR (tS (callF 101)) (bS (callF 101)) (f + 1) [some (.obj 0), some (.int 0), some t, some (.int 6), x4] (hp 50 13 [p0, p1, pn 4 n1, ps 6 s1, pn 8 n2, ps 10 s2, pn 12 n3, ps 14 s3, pn 16 n4, ps 18 s4, pn 20 n5, ps 22 s5, pn 24 n6, ps 26 s6, pn 28 n7, ps 30 s7, pn 32 n8, ps 34 s8, pn 36 n9, ps 38 s9, pn 40 n10, ps 42 s10, pn 44 n11, ps 46 s11, pn 48 51, pe 49] tl) = whR (tS (callF 101)) (bS (callF 101)) f [some (.obj 0), some (.int 0), some (.tup [wS s6, t, ld n7]), some (.int 7), some (wS s6)] (hp 50 15 [p0, p1, pn 4 n1, ps 6 s1, pn 8 n2, ps 10 s2, pn 12 n3, ps 14 s3, pn 16 n4, ps 18 s4, pn 20 n5, ps 22 s5, pn 24 n6, ps 26 s6, pn 28 n7, ps 30 s7, pn 32 n8, ps 34 s8, pn 36 n9, ps 38 s9, pn 40 n10, ps 42 s10, pn 44 n11, ps 46 s11, pn 48 51, pe 49] tl) := by
  rcases hs with rfl | rfl <;> rcases hn with rfl | rfl | rfl <;> rcases hz with rfl | rfl <;> kernel_rfl
theorem a11_s7 (hs : SA s7) (hn : NN n8) (hz : SA s8) : whR (tS (callF 101)) (bS (callF 101)) (f + 1) [some (.obj 0), some (.int 0), some t, some (.int 7), x4] (hp 50 15 [p0, p1, pn 4 n1, ps 6 s1, pn 8 n2, ps 10 s2, pn 12 n3, ps 14 s3, pn 16 n4, ps 18 s4, pn 20 n5, ps 22 s5, pn 24 n6, ps 26 s6, pn 28 n7, ps 30 s7, pn 32 n8, ps 34 s8, pn 36 n9, ps 38 s9, pn 40 n10, ps 42 s10, pn 44 n11, ps 46 s11, pn 48 51, pe 49] tl) = whR (tS (callF 101)) (bS (callF 101)) f [some (.obj 0), some (.int 0), some (.tup [wS s7, t, ld n8]), some (.int 8), some (wS s7)] (hp 50 17 [p0, p1, pn 4 n1, ps 6 s1, pn 8 n2, ps 10 s2, pn 12 n3, ps 14 s3, pn 16 n4, ps 18 s4, pn 20 n5, ps 22 s5, pn 24 n6, ps 26 s6, pn 28 n7, ps 30 s7, pn 32 n8, ps 34 s8, pn 36 n9, ps 38 s9, pn 40 n10, ps 42 s10, pn 44 n11, ps 46 s11, pn 48 51, pe 49] tl) := by
  rcases hs with rfl | rfl <;> rcases hn with rfl | rfl | rfl <;> rcases hz with rfl | rfl <;> kernel_rfl
theorem a11_s8 (hs : SA s8) (hn : NN n9) (hz : SA s9) : whR (tS (callF 101)) (bS (callF 101)) (f + 1) [some (.obj 0), some (.int 0), some t, some (.int 8), x4] (hp 50 17 [p0, p1, pn 4 n1, ps 6 s1, pn 8 n2, ps 10 s2, pn 12 n3, ps 14 s3, pn 16 n4, ps 18 s4, pn 20 n5, ps 22 s5, pn 24 n6, ps 26 s6, pn 28 n7, ps 30 s7, pn 32 n8, ps 34 s8, pn 36 n9, ps 38 s9, pn 40 n10, ps 42 s10, pn 44 n11, ps 46 s11, pn 48 51, pe 49] tl) = whR (tS (callF 101)) (bS (callF 101)) f [some (.obj 0), some (.int 0), some (.tup [wS s8, t, ld n9]), some (.int 9), some (wS s8)] (hp 50 19 [p0, p1, pn 4 n1, ps 6 s1, pn 8 n2, ps 10 s2, pn 12 n3, ps 14 s3, pn 16 n4, ps 18 s4, pn 20 n5, ps 22 s5, pn 24 n6, ps 26 s6, pn 28 n7, ps 30 s7, pn 32 n8, ps 34 s8, pn 36 n9, ps 38 s9, pn 40 n10, ps 42 s10, pn 44 n11, ps 46 s11, pn 48 51, pe 49] tl) := by
  rcases hs with rfl | rfl <;> rcases hn with rfl | rfl | rfl <;> rcases hz with rfl | rfl <;> kernel_rfl
theorem a11_s9 (hs : SA s9) (hn : NN n10) (hz : SA s10) : whR (tS (callF 101)) (bS (callF 101)) (f + 1) [some (.obj 0), some (.int 0), some t, some (.int 9), x4] (hp 50 19 [p0, p1, pn 4 n1, ps 6 s1, pn 8 n2, ps 10 s2, pn 12 n3, ps 14 s3, pn 16 n4, ps 18 s4, pn 20 n5, ps 22 s5, pn 24 n6, ps 26 s6, pn 28 n7, ps 30 s7, pn 32 n8, ps 34 s8, pn 36 n9, ps 38 s9, pn 40 n10, ps 42 s10, pn 44 n11, ps 46 s11, pn 48 51, pe 49] tl) = whR (tS (callF 101)) (bS (callF 101)) f [some (.obj 0), some (.int 0), some (.tup [wS s9, t, ld n10]), some (.int 10), some (wS s9)] (hp 50 21 [p0, p1, pn 4 n1, ps 6 s1, pn 8 n2, ps 10 s2, pn 12 n3, ps 14 s3, pn 16 n4, ps 18 s4, pn 20 n5, ps 22 s5, pn 24 n6, ps 26 s6, pn 28 n7, ps 30 s7, pn 32 n8, ps 34 s8, pn 36 n9, ps 38 s9, pn 40 n10, ps 42 s10, pn 44 n11, ps 46 s11, pn 48 51, pe 49] tl) := by
  rcases hs with rfl | rfl <;> rcases hn with rfl | rfl | rfl <;> rcases hz with rfl | rfl <;> kernel_rfl
theorem a11_s10 (hs : SA s10) (hn : NN n11) (hz : SA s11) : whR (tS (callF 101)) (bS (callF 101)) (f + 1) [some (.obj 0), some (.int 0), some t, some (.int 10), x4] (hp 50 21 [p0, p1, pn 4 n1, ps 6 s1, pn 8 n2, ps 10 s2, pn 12 n3, ps 14 s3, pn 16 n4, ps 18 s4, pn 20 n5, ps 22 s5, pn 24 n6, ps 26 s6, pn 28 n7, ps 30 s7, pn 32 n8, ps 34 s8, pn 36 n9, ps 38 s9, pn 40 n10, ps 42 s10, pn 44 n11, ps 46 s11, pn 48 51, pe 49] tl) = whR (tS (callF 101)) (bS (callF 101)) f [some (.obj 0), some (.int 0), some (.tup [wS s10, t, ld n11]), some (.int 11), some (wS s10)] (hp 50 23 [p0, p1, pn 4 n1, ps 6 s1, pn 8 n2, ps 10 s2, pn 12 n3, ps 14 s3, pn 16 n4, ps 18 s4, pn 20 n5, ps 22 s5, pn 24 n6, ps 26 s6, pn 28 n7, ps 30 s7, pn 32 n8, ps 34 s8, pn 36 n9, ps 38 s9, pn 40 n10, ps 42 s10, pn 44 n11, ps 46 s11, pn 48 51, pe 49] tl) := by
  rcases hs with rfl | rfl <;> rcases hn with rfl | rfl | rfl <;> rcases hz with rfl | rfl <;> kernel_rfl
theorem a11_s11 (hs : SA s11) : whR (tS (callF 101)) (bS (callF 101)) (f + 1) [some (.obj 0), some (.int 0), some t, some (.int 11), x4] (hp 50 23 [p0, p1, pn 4 n1, ps 6 s1, pn 8 n2, ps 10 s2, pn 12 n3, ps 14 s3, pn 16 n4, ps 18 s4, pn 20 n5, ps 22 s5, pn 24 n6, ps 26 s6, pn 28 n7, ps 30 s7, pn 32 n8, ps 34 s8, pn 36 n9, ps 38 s9, pn 40 n10, ps 42 s10, pn 44 n11, ps 46 s11, pn 48 51, pe 49] tl) = whR (tS (callF 101)) (bS (callF 101)) f [some (.obj 0), some (.int 0), some (.tup [wS s11, t, ld 51]), some (.int 12), some (wS s11)] (hp 50 25 [p0, p1, pn 4 n1, ps 6 s1, pn 8 n2, ps 10 s2, pn 12 n3, ps 14 s3, pn 16 n4, ps 18 s4, pn 20 n5, ps 22 s5, pn 24 n6, ps 26 s6, pn 28 n7, ps 30 s7, pn 32 n8, ps 34 s8, pn 36 n9, ps 38 s9, pn 40 n10, ps 42 s10, pn 44 n11, ps 46 s11, pn 48 51, pe 49] tl) := by
  rcases hs with rfl | rfl <;> kernel_rfl
theorem a11_e : whR (tS (callF 101)) (bS (callF 101)) (f + 1) [some (.obj 0), some (.int 0), some t, some (.int 12), x4] (hp 50 25 [p0, p1, pn 4 n1, ps 6 s1, pn 8 n2, ps 10 s2, pn 12 n3, ps 14 s3, pn 16 n4, ps 18 s4, pn 20 n5, ps 22 s5, pn 24 n6, ps 26 s6, pn 28 n7, ps 30 s7, pn 32 n8, ps 34 s8, pn 36 n9, ps 38 s9, pn 40 n10, ps 42 s10, pn 44 n11, ps 46 s11, pn 48 51, pe 49] tl) = .nx [some (.obj 0), some (.int 0), some t, some (.int 12), x4] (hp 50 25 [p0, p1, pn 4 n1, ps 6 s1, pn 8 n2, ps 10 s2, pn 12 n3, ps 14 s3, pn 16 n4, ps 18 s4, pn 20 n5, ps 22 s5, pn 24 n6, ps 26 s6, pn 28 n7, ps 30 s7, pn 32 n8, ps 34 s8, pn 36 n9, ps 38 s9, pn 40 n10, ps 42 s10, pn 44 n11, ps 46 s11, pn 48 51, pe 49] tl) := by kernel_rfl
theorem a11_all (hn1 : NN n1) (hs1 : SA s1) (hn2 : NN n2) (hs2 : SA s2) (hn3 : NN n3) (hs3 : SA s3) (hn4 : NN n4) (hs4 : SA s4) (hn5 : NN n5) (hs5 : SA s5) (hn6 : NN n6) (hs6 : SA s6) (hn7 : NN n7) (hs7 : SA s7) (hn8 : NN n8) (hs8 : SA s8) (hn9 : NN n9) (hs9 : SA s9) (hn10 : NN n10) (hs10 : SA s10) (hn11 : NN n11) (hs11 : SA s11) : whR (tS (callF 101)) (bS (callF 101)) M [some (.obj 0), some (.int 0), some (ld n1), some (.int 1), none] (hp 50 3 [p0, p1, pn 4 n1, ps 6 s1, pn 8 n2, ps 10 s2, pn 12 n3, ps 14 s3, pn 16 n4, ps 18 s4, pn 20 n5, ps 22 s5, pn 24 n6, ps 26 s6, pn 28 n7, ps 30 s7, pn 32 n8, ps 34 s8, pn 36 n9, ps 38 s9, pn 40 n10, ps 42 s10, pn 44 n11, ps 46 s11, pn 48 51, pe 49] tl) = .nx [some (.obj 0), some (.int 0), some (.tup [wS s11, (.tup [wS s10, (.tup [wS s9, (.tup [wS s8, (.tup [wS s7, (.tup [wS s6, (.tup [wS s5, (.tup [wS s4, (.tup [wS s3, (.tup [wS s2, (.tup [wS s1, (ld n1), ld n2]), ld n3]), ld n4]), ld n5]), ld n6]), ld n7]), ld n8]), ld n9]), ld n10]), ld n11]), ld 51]), some (.int 12), some (wS s11)] (hp 50 25 [p0, p1, pn 4 n1, ps 6 s1, pn 8 n2, ps 10 s2, pn 12 n3, ps 14 s3, pn 16 n4, ps 18 s4, pn 20 n5, ps 22 s5, pn 24 n6, ps 26 s6, pn 28 n7, ps 30 s7, pn 32 n8, ps 34 s8, pn 36 n9, ps 38 s9, pn 40 n10, ps 42 s10, pn 44 n11, ps 46 s11, pn 48 51, pe 49] tl) :=
  (((((((((((a11_s1 (f := 999999) hs1 hn2 hs2).trans (a11_s2 (f := 999998) hs2 hn3 hs3)).trans (a11_s3 (f := 999997) hs3 hn4 hs4)).trans (a11_s4 (f := 999996) hs4 hn5 hs5)).trans (a11_s5 (f := 999995) hs5 hn6 hs6)).trans (a11_s6 (f := 999994) hs6 hn7 hs7)).trans (a11_s7 (f := 999993) hs7 hn8 hs8)).trans (a11_s8 (f := 999992) hs8 hn9 hs9)).trans (a11_s9 (f := 999991) hs9 hn10 hs10)).trans (a11_s10 (f := 999990) hs10 hn11 hs11)).trans (a11_s11 (f := 999989) hs11)).trans (a11_e (f := 999988))
theorem a11_r (hn1 : NN n1) (hs1 : SA s1) (hn2 : NN n2) (hs2 : SA s2) (hn3 : NN n3) (hs3 : SA s3) (hn4 : NN n4) (hs4 : SA s4) (hn5 : NN n5) (hs5 : SA s5) (hn6 : NN n6) (hs6 : SA s6) (hn7 : NN n7) (hs7 : SA s7) (hn8 : NN n8) (hs8 : SA s8) (hn9 : NN n9) (hs9 : SA s9) (hn10 : NN n10) (hs10 : SA s10) (hn11 : NN n11) (hs11 : SA s11) : c_41 (callF 101) [.obj 0, .int 0] (hp 50 2 [p0, p1, pn 4 n1, ps 6 s1, pn 8 n2, ps 10 s2, pn 12 n3, ps 14 s3, pn 16 n4, ps 18 s4, pn 20 n5, ps 22 s5, pn 24 n6, ps 26 s6, pn 28 n7, ps 30 s7, pn 32 n8, ps 34 s8, pn 36 n9, ps 38 s9, pn 40 n10, ps 42 s10, pn 44 n11, ps 46 s11, pn 48 51, pe 49] tl) = .ok (.tup [wS s11, (.tup [wS s10, (.tup [wS s9, (.tup [wS s8, (.tup [wS s7, (.tup [wS s6, (.tup [wS s5, (.tup [wS s4, (.tup [wS s3, (.tup [wS s2, (.tup [wS s1, (ld n1), ld n2]), ld n3]), ld n4]), ld n5]), ld n6]), ld n7]), ld n8]), ld n9]), ld n10]), ld n11]), ld 51]) (hp 50 25 [p0, p1, pn 4 n1, ps 6 s1, pn 8 n2, ps 10 s2, pn 12 n3, ps 14 s3, pn 16 n4, ps 18 s4, pn 20 n5, ps 22 s5, pn 24 n6, ps 26 s6, pn 28 n7, ps 30 s7, pn 32 n8, ps 34 s8, pn 36 n9, ps 38 s9, pn 40 n10, ps 42 s10, pn 44 n11, ps 46 s11, pn 48 51, pe 49] tl) := by
  have e0 : eB (callF 101 42) (as1 (eV 0) (as1 (eV 1) as0)) [some (.obj 0), some (.int 0), none, none, none] (hp 50 2 [p0, p1, pn 4 n1, ps 6 s1, pn 8 n2, ps 10 s2, pn 12 n3, ps 14 s3, pn 16 n4, ps 18 s4, pn 20 n5, ps 22 s5, pn 24 n6, ps 26 s6, pn 28 n7, ps 30 s7, pn 32 n8, ps 34 s8, pn 36 n9, ps 38 s9, pn 40 n10, ps 42 s10, pn 44 n11, ps 46 s11, pn 48 51, pe 49] tl) = .ok (ld n1) (hp 50 3 [p0, p1, pn 4 n1, ps 6 s1, pn 8 n2, ps 10 s2, pn 12 n3, ps 14 s3, pn 16 n4, ps 18 s4, pn 20 n5, ps 22 s5, pn 24 n6, ps 26 s6, pn 28 n7, ps 30 s7, pn 32 n8, ps 34 s8, pn 36 n9, ps 38 s9, pn 40 n10, ps 42 s10, pn 44 n11, ps 46 s11, pn 48 51, pe 49] tl) := evB (xs := [.obj 0, .int 0]) rfl (a11_1 hn1 hs1)
  have e1 : b_41 (callF 101) [some (.obj 0), some (.int 0), none, none, none] (hp 50 2 [p0, p1, pn 4 n1, ps 6 s1, pn 8 n2, ps 10 s2, pn 12 n3, ps 14 s3, pn 16 n4, ps 18 s4, pn 20 n5, ps 22 s5, pn 24 n6, ps 26 s6, pn 28 n7, ps 30 s7, pn 32 n8, ps 34 s8, pn 36 n9, ps 38 s9, pn 40 n10, ps 42 s10, pn 44 n11, ps 46 s11, pn 48 51, pe 49] tl) = .rt (.tup [wS s11, (.tup [wS s10, (.tup [wS s9, (.tup [wS s8, (.tup [wS s7, (.tup [wS s6, (.tup [wS s5, (.tup [wS s4, (.tup [wS s3, (.tup [wS s2, (.tup [wS s1, (ld n1), ld n2]), ld n3]), ld n4]), ld n5]), ld n6]), ld n7]), ld n8]), ld n9]), ld n10]), ld n11]), ld 51]) (hp 50 25 [p0, p1, pn 4 n1, ps 6 s1, pn 8 n2, ps 10 s2, pn 12 n3, ps 14 s3, pn 16 n4, ps 18 s4, pn 20 n5, ps 22 s5, pn 24 n6, ps 26 s6, pn 28 n7, ps 30 s7, pn 32 n8, ps 34 s8, pn 36 n9, ps 38 s9, pn 40 n10, ps 42 s10, pn 44 n11, ps 46 s11, pn 48 51, pe 49] tl) :=
    (sSq_nx (evSet e0)).trans ((sSq_nx (evSet (a11_c hn1))).trans ((sSq_nx (a11_all hn1 hs1 hn2 hs2 hn3 hs3 hn4 hs4 hn5 hs5 hn6 hs6 hn7 hs7 hn8 hs8 hn9 hs9 hn10 hs10 hn11 hs11)).trans rfl))
  exact fnR_of (np := 2) (n := 5) (xs := [.obj 0, .int 0]) rfl e1 rfl
theorem a11_p : D.pure (.tup [wS s11, (.tup [wS s10, (.tup [wS s9, (.tup [wS s8, (.tup [wS s7, (.tup [wS s6, (.tup [wS s5, (.tup [wS s4, (.tup [wS s3, (.tup [wS s2, (.tup [wS s1, (ld n1), ld n2]), ld n3]), ld n4]), ld n5]), ld n6]), ld n7]), ld n8]), ld n9]), ld n10]), ld n11]), ld 51]) = true := (tup3 rfl (tup3 rfl (tup3 rfl (tup3 rfl (tup3 rfl (tup3 rfl (tup3 rfl (tup3 rfl (tup3 rfl (tup3 rfl (tup3 rfl (ld_pure _) (ld_pure _)) (ld_pure _)) (ld_pure _)) (ld_pure _)) (ld_pure _)) (ld_pure _)) (ld_pure _)) (ld_pure _)) (ld_pure _)) (ld_pure _)) (ld_pure _))
theorem a11_q (hn1 : NN n1) (hs1 : SA s1) (hn2 : NN n2) (hs2 : SA s2) (hn3 : NN n3) (hs3 : SA s3) (hn4 : NN n4) (hs4 : SA s4) (hn5 : NN n5) (hs5 : SA s5) (hn6 : NN n6) (hs6 : SA s6) (hn7 : NN n7) (hs7 : SA s7) (hn8 : NN n8) (hs8 : SA s8) (hn9 : NN n9) (hs9 : SA s9) (hn10 : NN n10) (hs10 : SA s10) (hn11 : NN n11) (hs11 : SA s11) : c_41 (callF 101) [.obj 0, .int 0] (hp 50 2 [p0, p1, pn 4 n1, ps 6 s1, pn 8 n2, ps 10 s2, pn 12 n3, ps 14 s3, pn 16 n4, ps 18 s4, pn 20 n5, ps 22 s5, pn 24 n6, ps 26 s6, pn 28 n7, ps 30 s7, pn 32 n8, ps 34 s8, pn 36 n9, ps 38 s9, pn 40 n10, ps 42 s10, pn 44 n11, ps 46 s11, pn 48 51, pe 49] tl) = .ok (.tup [wS s11, (.tup [wS s10, (.tup [wS s9, (.tup [wS s8, (.tup [wS s7, (.tup [wS s6, (.tup [wS s5, (.tup [wS s4, (.tup [wS s3, (.tup [wS s2, (.tup [wS s1, (ld n1), ld n2]), ld n3]), ld n4]), ld n5]), ld n6]), ld n7]), ld n8]), ld n9]), ld n10]), ld n11]), ld 51]) (hp 50 25 [p0, p1, pn 4 n1, ps 6 s1, pn 8 n2, ps 10 s2, pn 12 n3, ps 14 s3, pn 16 n4, ps 18 s4, pn 20 n5, ps 22 s5, pn 24 n6, ps 26 s6, pn 28 n7, ps 30 s7, pn 32 n8, ps 34 s8, pn 36 n9, ps 38 s9, pn 40 n10, ps 42 s10, pn 44 n11, ps 46 s11, pn 48 51, pe 49] tl) := a11_r hn1 hs1 hn2 hs2 hn3 hs3 hn4 hs4 hn5 hs5 hn6 hs6 hn7 hs7 hn8 hs8 hn9 hs9 hn10 hs10 hn11 hs11
theorem a11_51 (hn1 : NN n1) (hs1 : SA s1) (hn2 : NN n2) (hs2 : SA s2) (hn3 : NN n3) (hs3 : SA s3) (hn4 : NN n4) (hs4 : SA s4) (hn5 : NN n5) (hs5 : SA s5) (hn6 : NN n6) (hs6 : SA s6) (hn7 : NN n7) (hs7 : SA s7) (hn8 : NN n8) (hs8 : SA s8) (hn9 : NN n9) (hs9 : SA s9) (hn10 : NN n10) (hs10 : SA s10) (hn11 : NN n11) (hs11 : SA s11) : c_51 (callF 102) [.obj 0] (hp 50 0 [p0, p1, pn 4 n1, ps 6 s1, pn 8 n2, ps 10 s2, pn 12 n3, ps 14 s3, pn 16 n4, ps 18 s4, pn 20 n5, ps 22 s5, pn 24 n6, ps 26 s6, pn 28 n7, ps 30 s7, pn 32 n8, ps 34 s8, pn 36 n9, ps 38 s9, pn 40 n10, ps 42 s10, pn 44 n11, ps 46 s11, pn 48 51, pe 49] tl) = .ok (.tup [.str [110, 117, 109, 98, 101, 114], .str [113], (.tup [wS s11, (.tup [wS s10, (.tup [wS s9, (.tup [wS s8, (.tup [wS s7, (.tup [wS s6, (.tup [wS s5, (.tup [wS s4, (.tup [wS s3, (.tup [wS s2, (.tup [wS s1, (ld n1), ld n2]), ld n3]), ld n4]), ld n5]), ld n6]), ld n7]), ld n8]), ld n9]), ld n10]), ld n11]), ld 51])]) (hp 50 25 [p0, p1, pn 4 n1, ps 6 s1, pn 8 n2, ps 10 s2, pn 12 n3, ps 14 s3, pn 16 n4, ps 18 s4, pn 20 n5, ps 22 s5, pn 24 n6, ps 26 s6, pn 28 n7, ps 30 s7, pn 32 n8, ps 34 s8, pn 36 n9, ps 38 s9, pn 40 n10, ps 42 s10, pn 44 n11, ps 46 s11, pn 48 51, pe 49] tl) := by
  have g1 : sSet 1 (eMt 1 (callF 102 39) (eV 0) as0) [some (.obj 0), none, none] (hp 50 0 [p0, p1, pn 4 n1, ps 6 s1, pn 8 n2, ps 10 s2, pn 12 n3, ps 14 s3, pn 16 n4, ps 18 s4, pn 20 n5, ps 22 s5, pn 24 n6, ps 26 s6, pn 28 n7, ps 30 s7, pn 32 n8, ps 34 s8, pn 36 n9, ps 38 s9, pn 40 n10, ps 42 s10, pn 44 n11, ps 46 s11, pn 48 51, pe 49] tl) = .nx [some (.obj 0), some (.str [113]), none] (hp 50 1 [p0, p1, pn 4 n1, ps 6 s1, pn 8 n2, ps 10 s2, pn 12 n3, ps 14 s3, pn 16 n4, ps 18 s4, pn 20 n5, ps 22 s5, pn 24 n6, ps 26 s6, pn 28 n7, ps 30 s7, pn 32 n8, ps 34 s8, pn 36 n9, ps 38 s9, pn 40 n10, ps 42 s10, pn 44 n11, ps 46 s11, pn 48 51, pe 49] tl) := by kernel_rfl
  have g2 : sExp (eMt 1 (callF 102 37) (eV 0) (as1 (eC (.str [61])) as0)) [some (.obj 0), some (.str [113]), none] (hp 50 1 [p0, p1, pn 4 n1, ps 6 s1, pn 8 n2, ps 10 s2, pn 12 n3, ps 14 s3, pn 16 n4, ps 18 s4, pn 20 n5, ps 22 s5, pn 24 n6, ps 26 s6, pn 28 n7, ps 30 s7, pn 32 n8, ps 34 s8, pn 36 n9, ps 38 s9, pn 40 n10, ps 42 s10, pn 44 n11, ps 46 s11, pn 48 51, pe 49] tl) = .nx [some (.obj 0), some (.str [113]), none] (hp 50 2 [p0, p1, pn 4 n1, ps 6 s1, pn 8 n2, ps 10 s2, pn 12 n3, ps 14 s3, pn 16 n4, ps 18 s4, pn 20 n5, ps 22 s5, pn 24 n6, ps 26 s6, pn 28 n7, ps 30 s7, pn 32 n8, ps 34 s8, pn 36 n9, ps 38 s9, pn 40 n10, ps 42 s10, pn 44 n11, ps 46 s11, pn 48 51, pe 49] tl) := by kernel_rfl
  have g3 : sSet 2 (eMt 1 (callF 102 34) (eV 0) as0) [some (.obj 0), some (.str [113]), none] (hp 50 2 [p0, p1, pn 4 n1, ps 6 s1, pn 8 n2, ps 10 s2, pn 12 n3, ps 14 s3, pn 16 n4, ps 18 s4, pn 20 n5, ps 22 s5, pn 24 n6, ps 26 s6, pn 28 n7, ps 30 s7, pn 32 n8, ps 34 s8, pn 36 n9, ps 38 s9, pn 40 n10, ps 42 s10, pn 44 n11, ps 46 s11, pn 48 51, pe 49] tl) = .nx [some (.obj 0), some (.str [113]), some (.str [n1])] (hp 50 2 [p0, p1, pn 4 n1, ps 6 s1, pn 8 n2, ps 10 s2, pn 12 n3, ps 14 s3, pn 16 n4, ps 18 s4, pn 20 n5, ps 22 s5, pn 24 n6, ps 26 s6, pn 28 n7, ps 30 s7, pn 32 n8, ps 34 s8, pn 36 n9, ps 38 s9, pn 40 n10, ps 42 s10, pn 44 n11, ps 46 s11, pn 48 51, pe 49] tl) := by kernel_rfl
  have g4 : tO (tB1 (e2 (oEq true) (eMt 1 (callF 102 33) (eV 0) as0) (eC (.str [119, 111, 114, 100])))) (tB1 (e1 (oInD true d_FIGURE_PARTS) (eV 2))) [some (.obj 0), some (.str [113]), some (.str [n1])] (hp 50 2 [p0, p1, pn 4 n1, ps 6 s1, pn 8 n2, ps 10 s2, pn 12 n3, ps 14 s3, pn 16 n4, ps 18 s4, pn 20 n5, ps 22 s5, pn 24 n6, ps 26 s6, pn 28 n7, ps 30 s7, pn 32 n8, ps 34 s8, pn 36 n9, ps 38 s9, pn 40 n10, ps 42 s10, pn 44 n11, ps 46 s11, pn 48 51, pe 49] tl) = .ok true (hp 50 2 [p0, p1, pn 4 n1, ps 6 s1, pn 8 n2, ps 10 s2, pn 12 n3, ps 14 s3, pn 16 n4, ps 18 s4, pn 20 n5, ps 22 s5, pn 24 n6, ps 26 s6, pn 28 n7, ps 30 s7, pn 32 n8, ps 34 s8, pn 36 n9, ps 38 s9, pn 40 n10, ps 42 s10, pn 44 n11, ps 46 s11, pn 48 51, pe 49] tl) := by
    rcases hn1 with rfl | rfl | rfl <;> kernel_rfl
  have g5 : eTup (as1 (eC (.str [110, 117, 109, 98, 101, 114])) (as1 (eV 1) (as1 (eB (callF 102 41) (as1 (eV 0) (as1 (eC (.int 0)) as0))) as0))) [some (.obj 0), some (.str [113]), some (.str [n1])] (hp 50 2 [p0, p1, pn 4 n1, ps 6 s1, pn 8 n2, ps 10 s2, pn 12 n3, ps 14 s3, pn 16 n4, ps 18 s4, pn 20 n5, ps 22 s5, pn 24 n6, ps 26 s6, pn 28 n7, ps 30 s7, pn 32 n8, ps 34 s8, pn 36 n9, ps 38 s9, pn 40 n10, ps 42 s10, pn 44 n11, ps 46 s11, pn 48 51, pe 49] tl) = .ok (.tup [.str [110, 117, 109, 98, 101, 114], .str [113], (.tup [wS s11, (.tup [wS s10, (.tup [wS s9, (.tup [wS s8, (.tup [wS s7, (.tup [wS s6, (.tup [wS s5, (.tup [wS s4, (.tup [wS s3, (.tup [wS s2, (.tup [wS s1, (ld n1), ld n2]), ld n3]), ld n4]), ld n5]), ld n6]), ld n7]), ld n8]), ld n9]), ld n10]), ld n11]), ld 51])]) (hp 50 25 [p0, p1, pn 4 n1, ps 6 s1, pn 8 n2, ps 10 s2, pn 12 n3, ps 14 s3, pn 16 n4, ps 18 s4, pn 20 n5, ps 22 s5, pn 24 n6, ps 26 s6, pn 28 n7, ps 30 s7, pn 32 n8, ps 34 s8, pn 36 n9, ps 38 s9, pn 40 n10, ps 42 s10, pn 44 n11, ps 46 s11, pn 48 51, pe 49] tl) := evTup (eva1 rfl (eva1 rfl (eva1 (evB (op := callF 102 41) (xs := [.obj 0, .int 0]) rfl (a11_q hn1 hs1 hn2 hs2 hn3 hs3 hn4 hs4 hn5 hs5 hn6 hs6 hn7 hs7 hn8 hs8 hn9 hs9 hn10 hs10 hn11 hs11)) rfl))) (show 3 ≤ M by unfold M; omega)
  have g6 : b_51 (callF 102) [some (.obj 0), none, none] (hp 50 0 [p0, p1, pn 4 n1, ps 6 s1, pn 8 n2, ps 10 s2, pn 12 n3, ps 14 s3, pn 16 n4, ps 18 s4, pn 20 n5, ps 22 s5, pn 24 n6, ps 26 s6, pn 28 n7, ps 30 s7, pn 32 n8, ps 34 s8, pn 36 n9, ps 38 s9, pn 40 n10, ps 42 s10, pn 44 n11, ps 46 s11, pn 48 51, pe 49] tl) = .rt (.tup [.str [110, 117, 109, 98, 101, 114], .str [113], (.tup [wS s11, (.tup [wS s10, (.tup [wS s9, (.tup [wS s8, (.tup [wS s7, (.tup [wS s6, (.tup [wS s5, (.tup [wS s4, (.tup [wS s3, (.tup [wS s2, (.tup [wS s1, (ld n1), ld n2]), ld n3]), ld n4]), ld n5]), ld n6]), ld n7]), ld n8]), ld n9]), ld n10]), ld n11]), ld 51])]) (hp 50 25 [p0, p1, pn 4 n1, ps 6 s1, pn 8 n2, ps 10 s2, pn 12 n3, ps 14 s3, pn 16 n4, ps 18 s4, pn 20 n5, ps 22 s5, pn 24 n6, ps 26 s6, pn 28 n7, ps 30 s7, pn 32 n8, ps 34 s8, pn 36 n9, ps 38 s9, pn 40 n10, ps 42 s10, pn 44 n11, ps 46 s11, pn 48 51, pe 49] tl) :=
    (sSq_nx g1).trans ((sSq_nx g2).trans ((sSq_nx g3).trans (sSq_rt ((sIf_tt g4).trans (sRet_of g5)))))
  exact fnR_of (np := 1) (n := 3) (xs := [.obj 0]) rfl g6 rfl
theorem a11_55 (hn1 : NN n1) (hs1 : SA s1) (hn2 : NN n2) (hs2 : SA s2) (hn3 : NN n3) (hs3 : SA s3) (hn4 : NN n4) (hs4 : SA s4) (hn5 : NN n5) (hs5 : SA s5) (hn6 : NN n6) (hs6 : SA s6) (hn7 : NN n7) (hs7 : SA s7) (hn8 : NN n8) (hs8 : SA s8) (hn9 : NN n9) (hs9 : SA s9) (hn10 : NN n10) (hs10 : SA s10) (hn11 : NN n11) (hs11 : SA s11) : c_55 (callF 103) [.obj 0] (hp 50 0 [p0, p1, pn 4 n1, ps 6 s1, pn 8 n2, ps 10 s2, pn 12 n3, ps 14 s3, pn 16 n4, ps 18 s4, pn 20 n5, ps 22 s5, pn 24 n6, ps 26 s6, pn 28 n7, ps 30 s7, pn 32 n8, ps 34 s8, pn 36 n9, ps 38 s9, pn 40 n10, ps 42 s10, pn 44 n11, ps 46 s11, pn 48 51, pe 49] tl) = .ok (.tup [.str [110, 117, 109, 98, 101, 114], .str [113], (.tup [wS s11, (.tup [wS s10, (.tup [wS s9, (.tup [wS s8, (.tup [wS s7, (.tup [wS s6, (.tup [wS s5, (.tup [wS s4, (.tup [wS s3, (.tup [wS s2, (.tup [wS s1, (ld n1), ld n2]), ld n3]), ld n4]), ld n5]), ld n6]), ld n7]), ld n8]), ld n9]), ld n10]), ld n11]), ld 51])]) (hp 50 26 [p0, p1, pn 4 n1, ps 6 s1, pn 8 n2, ps 10 s2, pn 12 n3, ps 14 s3, pn 16 n4, ps 18 s4, pn 20 n5, ps 22 s5, pn 24 n6, ps 26 s6, pn 28 n7, ps 30 s7, pn 32 n8, ps 34 s8, pn 36 n9, ps 38 s9, pn 40 n10, ps 42 s10, pn 44 n11, ps 46 s11, pn 48 51, pe 49] tl) := by
  have g1 : tV (eMt 1 (callF 103 35) (eV 0) (as1 (eC (.str [97, 115, 107])) as0)) [some (.obj 0), none] (hp 50 0 [p0, p1, pn 4 n1, ps 6 s1, pn 8 n2, ps 10 s2, pn 12 n3, ps 14 s3, pn 16 n4, ps 18 s4, pn 20 n5, ps 22 s5, pn 24 n6, ps 26 s6, pn 28 n7, ps 30 s7, pn 32 n8, ps 34 s8, pn 36 n9, ps 38 s9, pn 40 n10, ps 42 s10, pn 44 n11, ps 46 s11, pn 48 51, pe 49] tl) = .ok false (hp 50 0 [p0, p1, pn 4 n1, ps 6 s1, pn 8 n2, ps 10 s2, pn 12 n3, ps 14 s3, pn 16 n4, ps 18 s4, pn 20 n5, ps 22 s5, pn 24 n6, ps 26 s6, pn 28 n7, ps 30 s7, pn 32 n8, ps 34 s8, pn 36 n9, ps 38 s9, pn 40 n10, ps 42 s10, pn 44 n11, ps 46 s11, pn 48 51, pe 49] tl) := by kernel_rfl
  have g2 : tV (eMt 1 (callF 103 35) (eV 0) (as1 (eC (.str [116, 101, 108, 108])) as0)) [some (.obj 0), none] (hp 50 0 [p0, p1, pn 4 n1, ps 6 s1, pn 8 n2, ps 10 s2, pn 12 n3, ps 14 s3, pn 16 n4, ps 18 s4, pn 20 n5, ps 22 s5, pn 24 n6, ps 26 s6, pn 28 n7, ps 30 s7, pn 32 n8, ps 34 s8, pn 36 n9, ps 38 s9, pn 40 n10, ps 42 s10, pn 44 n11, ps 46 s11, pn 48 51, pe 49] tl) = .ok false (hp 50 0 [p0, p1, pn 4 n1, ps 6 s1, pn 8 n2, ps 10 s2, pn 12 n3, ps 14 s3, pn 16 n4, ps 18 s4, pn 20 n5, ps 22 s5, pn 24 n6, ps 26 s6, pn 28 n7, ps 30 s7, pn 32 n8, ps 34 s8, pn 36 n9, ps 38 s9, pn 40 n10, ps 42 s10, pn 44 n11, ps 46 s11, pn 48 51, pe 49] tl) := by kernel_rfl
  have g3 : sSet 1 (eB (callF 103 51) (as1 (eV 0) as0)) [some (.obj 0), none] (hp 50 0 [p0, p1, pn 4 n1, ps 6 s1, pn 8 n2, ps 10 s2, pn 12 n3, ps 14 s3, pn 16 n4, ps 18 s4, pn 20 n5, ps 22 s5, pn 24 n6, ps 26 s6, pn 28 n7, ps 30 s7, pn 32 n8, ps 34 s8, pn 36 n9, ps 38 s9, pn 40 n10, ps 42 s10, pn 44 n11, ps 46 s11, pn 48 51, pe 49] tl) = .nx [some (.obj 0), some (.tup [.str [110, 117, 109, 98, 101, 114], .str [113], (.tup [wS s11, (.tup [wS s10, (.tup [wS s9, (.tup [wS s8, (.tup [wS s7, (.tup [wS s6, (.tup [wS s5, (.tup [wS s4, (.tup [wS s3, (.tup [wS s2, (.tup [wS s1, (ld n1), ld n2]), ld n3]), ld n4]), ld n5]), ld n6]), ld n7]), ld n8]), ld n9]), ld n10]), ld n11]), ld 51])])] (hp 50 25 [p0, p1, pn 4 n1, ps 6 s1, pn 8 n2, ps 10 s2, pn 12 n3, ps 14 s3, pn 16 n4, ps 18 s4, pn 20 n5, ps 22 s5, pn 24 n6, ps 26 s6, pn 28 n7, ps 30 s7, pn 32 n8, ps 34 s8, pn 36 n9, ps 38 s9, pn 40 n10, ps 42 s10, pn 44 n11, ps 46 s11, pn 48 51, pe 49] tl) := evSet (evB (xs := [.obj 0]) rfl (a11_51 hn1 hs1 hn2 hs2 hn3 hs3 hn4 hs4 hn5 hs5 hn6 hs6 hn7 hs7 hn8 hs8 hn9 hs9 hn10 hs10 hn11 hs11))
  have g4 : ∀ d : D, sExp (eMt 1 (callF 103 38) (eV 0) as0) [some (.obj 0), some d] (hp 50 25 [p0, p1, pn 4 n1, ps 6 s1, pn 8 n2, ps 10 s2, pn 12 n3, ps 14 s3, pn 16 n4, ps 18 s4, pn 20 n5, ps 22 s5, pn 24 n6, ps 26 s6, pn 28 n7, ps 30 s7, pn 32 n8, ps 34 s8, pn 36 n9, ps 38 s9, pn 40 n10, ps 42 s10, pn 44 n11, ps 46 s11, pn 48 51, pe 49] tl) = .nx [some (.obj 0), some d] (hp 50 26 [p0, p1, pn 4 n1, ps 6 s1, pn 8 n2, ps 10 s2, pn 12 n3, ps 14 s3, pn 16 n4, ps 18 s4, pn 20 n5, ps 22 s5, pn 24 n6, ps 26 s6, pn 28 n7, ps 30 s7, pn 32 n8, ps 34 s8, pn 36 n9, ps 38 s9, pn 40 n10, ps 42 s10, pn 44 n11, ps 46 s11, pn 48 51, pe 49] tl) := by intro d; kernel_rfl
  have g5 : b_55 (callF 103) [some (.obj 0), none] (hp 50 0 [p0, p1, pn 4 n1, ps 6 s1, pn 8 n2, ps 10 s2, pn 12 n3, ps 14 s3, pn 16 n4, ps 18 s4, pn 20 n5, ps 22 s5, pn 24 n6, ps 26 s6, pn 28 n7, ps 30 s7, pn 32 n8, ps 34 s8, pn 36 n9, ps 38 s9, pn 40 n10, ps 42 s10, pn 44 n11, ps 46 s11, pn 48 51, pe 49] tl) = .rt (.tup [.str [110, 117, 109, 98, 101, 114], .str [113], (.tup [wS s11, (.tup [wS s10, (.tup [wS s9, (.tup [wS s8, (.tup [wS s7, (.tup [wS s6, (.tup [wS s5, (.tup [wS s4, (.tup [wS s3, (.tup [wS s2, (.tup [wS s1, (ld n1), ld n2]), ld n3]), ld n4]), ld n5]), ld n6]), ld n7]), ld n8]), ld n9]), ld n10]), ld n11]), ld 51])]) (hp 50 26 [p0, p1, pn 4 n1, ps 6 s1, pn 8 n2, ps 10 s2, pn 12 n3, ps 14 s3, pn 16 n4, ps 18 s4, pn 20 n5, ps 22 s5, pn 24 n6, ps 26 s6, pn 28 n7, ps 30 s7, pn 32 n8, ps 34 s8, pn 36 n9, ps 38 s9, pn 40 n10, ps 42 s10, pn 44 n11, ps 46 s11, pn 48 51, pe 49] tl) :=
    (sSq_nx ((sIf_ff g1).trans ((sIf_ff g2).trans g3))).trans ((sSq_nx (g4 _)).trans rfl)
  exact fnR_of (np := 1) (n := 2) (xs := [.obj 0]) rfl g5 rfl
end
end T

end

section
set_option Elab.async false
set_option linter.all false
set_option maxRecDepth 100000
set_option maxHeartbeats 4000000
namespace T
open PySem Sh

section
variable {n1 s1 n2 s2 n3 s3 n4 s4 n5 s5 n6 s6 n7 s7 n8 s8 n9 s9 n10 s10 n11 s11 f : Nat} {x4 : Option D} {t : D} {tl : Hd}
theorem b11_1 (hn : NN n1) : c_43 (callF 99) [.obj 0, .int 0] (hp 50 2 [p0, p1, pn 4 n1, ps 6 s1, pn 8 n2, ps 10 s2, pn 12 n3, ps 14 s3, pn 16 n4, ps 18 s4, pn 20 n5, ps 22 s5, pn 24 n6, ps 26 s6, pn 28 n7, ps 30 s7, pn 32 n8, ps 34 s8, pn 36 n9, ps 38 s9, pn 40 n10, ps 42 s10, pn 44 n11, ps 46 s11, pn 48 51, pe 49] tl) = .ok (ld n1) (hp 50 3 [p0, p1, pn 4 n1, ps 6 s1, pn 8 n2, ps 10 s2, pn 12 n3, ps 14 s3, pn 16 n4, ps 18 s4, pn 20 n5, ps 22 s5, pn 24 n6, ps 26 s6, pn 28 n7, ps 30 s7, pn 32 n8, ps 34 s8, pn 36 n9, ps 38 s9, pn 40 n10, ps 42 s10, pn 44 n11, ps 46 s11, pn 48 51, pe 49] tl) := by
  rcases hn with rfl | rfl | rfl <;> kernel_rfl
theorem b11_c (hn : NN n1) : eQ (callF 100 14) (as1 (eV 2) (as1 (eC k_FACTORS) as0)) [some (.obj 0), some (.int 0), some (ld n1), none, none] (hp 50 3 [p0, p1, pn 4 n1, ps 6 s1, pn 8 n2, ps 10 s2, pn 12 n3, ps 14 s3, pn 16 n4, ps 18 s4, pn 20 n5, ps 22 s5, pn 24 n6, ps 26 s6, pn 28 n7, ps 30 s7, pn 32 n8, ps 34 s8, pn 36 n9, ps 38 s9, pn 40 n10, ps 42 s10, pn 44 n11, ps 46 s11, pn 48 51, pe 49] tl) = .ok (.int 1) (hp 50 3 [p0, p1, pn 4 n1, ps 6 s1, pn 8 n2, ps 10 s2, pn 12 n3, ps 14 s3, pn 16 n4, ps 18 s4, pn 20 n5, ps 22 s5, pn 24 n6, ps 26 s6, pn 28 n7, ps 30 s7, pn 32 n8, ps 34 s8, pn 36 n9, ps 38 s9, pn 40 n10, ps 42 s10, pn 44 n11, ps 46 s11, pn 48 51, pe 49] tl) := by
  rcases hn with rfl | rfl | rfl <;> kernel_rfl
theorem b11_s1 (hs : SB s1) (hn : NN n2) : whR (tP (callF 100)) (bP (callF 100)) (f + 1) [some (.obj 0), some (.int 0), some t, some (.int 1), x4] (hp 50 3 [p0, p1, pn 4 n1, ps 6 s1, pn 8 n2, ps 10 s2, pn 12 n3, ps 14 s3, pn 16 n4, ps 18 s4, pn 20 n5, ps 22 s5, pn 24 n6, ps 26 s6, pn 28 n7, ps 30 s7, pn 32 n8, ps 34 s8, pn 36 n9, ps 38 s9, pn 40 n10, ps 42 s10, pn 44 n11, ps 46 s11, pn 48 51, pe 49] tl) = whR (tP (callF 100)) (bP (callF 100)) f [some (.obj 0), some (.int 0), some (.tup [wS s1, t, ld n2]), some (.int 2), some (wS s1)] (hp 50 5 [p0, p1, pn 4 n1, ps 6 s1, pn 8 n2, ps 10 s2, pn 12 n3, ps 14 s3, pn 16 n4, ps 18 s4, pn 20 n5, ps 22 s5, pn 24 n6, ps 26 s6, pn 28 n7, ps 30 s7, pn 32 n8, ps 34 s8, pn 36 n9, ps 38 s9, pn 40 n10, ps 42 s10, pn 44 n11, ps 46 s11, pn 48 51, pe 49] tl) := by
  rcases hs with rfl | rfl <;> rcases hn with rfl | rfl | rfl <;> kernel_rfl
theorem b11_s2 (hs : SB s2) (hn : NN n3) : whR (tP (callF 100)) (bP (callF 100)) (f + 1) [some (.obj 0), some (.int 0), some t, some (.int 2), x4] (hp 50 5 [p0, p1, pn 4 n1, ps 6 s1, pn 8 n2, ps 10 s2, pn 12 n3, ps 14 s3, pn 16 n4, ps 18 s4, pn 20 n5, ps 22 s5, pn 24 n6, ps 26 s6, pn 28 n7, ps 30 s7, pn 32 n8, ps 34 s8, pn 36 n9, ps 38 s9, pn 40 n10, ps 42 s10, pn 44 n11, ps 46 s11, pn 48 51, pe 49] tl) = whR (tP (callF 100)) (bP (callF 100)) f [some (.obj 0), some (.int 0), some (.tup [wS s2, t, ld n3]), some (.int 3), some (wS s2)] (hp 50 7 [p0, p1, pn 4 n1, ps 6 s1, pn 8 n2, ps 10 s2, pn 12 n3, ps 14 s3, pn 16 n4, ps 18 s4, pn 20 n5, ps 22 s5, pn 24 n6, ps 26 s6, pn 28 n7, ps 30 s7, pn 32 n8, ps 34 s8, pn 36 n9, ps 38 s9, pn 40 n10, ps 42 s10, pn 44 n11, ps 46 s11, pn 48 51, pe 49] tl) := by
  rcases hs with rfl | rfl <;> rcases hn with rfl | rfl | rfl <;> kernel_rfl
theorem b11_s3 (hs : SB s3) (hn : NN n4) : whR (tP (callF 100)) (bP (callF 100)) (f + 1) [some (.obj 0), some (.int 0), some t, some (.int 3), x4] (hp 50 7 [p0, p1, pn 4 n1, ps 6 s1, pn 8 n2, ps 10 s2, pn 12 n3, ps 14 s3, pn 16 n4, ps 18 s4, pn 20 n5, ps 22 s5, pn 24 n6, ps 26 s6, pn 28 n7, ps 30 s7, pn 32 n8, ps 34 s8, pn 36 n9, ps 38 s9, pn 40 n10, ps 42 s10, pn 44 n11, ps 46 s11, pn 48 51, pe 49] tl) = whR (tP (callF 100)) (bP (callF 100)) f [some (.obj 0), some (.int 0), some (.tup [wS s3, t, ld n4]), some (.int 4), some (wS s3)] (hp 50 9 [p0, p1, pn 4 n1, ps 6 s1, pn 8 n2, ps 10 s2, pn 12 n3, ps 14 s3, pn 16 n4, ps 18 s4, pn 20 n5, ps 22 s5, pn 24 n6, ps 26 s6, pn 28 n7, ps 30 s7, pn 32 n8, ps 34 s8, pn 36 n9, ps 38 s9, pn 40 n10, ps 42 s10, pn 44 n11, ps 46 s11, pn 48 51, pe 49] tl) := by
  rcases hs with rfl | rfl <;> rcases hn with rfl | rfl | rfl <;> kernel_rfl
theorem b11_s4 (hs : SB s4) (hn : NN n5) : whR (tP (callF 100)) (bP (callF 100)) (f + 1) [some (.obj 0), some (.int 0), some t, some (.int 4), x4] (hp 50 9 [p0, p1, pn 4 n1, ps 6 s1, pn 8 n2, ps 10 s2, pn 12 n3, ps 14 s3, pn 16 n4, ps 18 s4, pn 20 n5, ps 22 s5, pn 24 n6, ps 26 s6, pn 28 n7, ps 30 s7, pn 32 n8, ps 34 s8, pn 36 n9, ps 38 s9, pn 40 n10, ps 42 s10, pn 44 n11, ps 46 s11, pn 48 51, pe 49] tl) = whR (tP (callF 100)) (bP (callF 100)) f [some (.obj 0), some (.int 0), some (.tup [wS s4, t, ld n5]), some (.int 5), some (wS s4)] (hp 50 11 [p0, p1, pn 4 n1, ps 6 s1, pn 8 n2, ps 10 s2, pn 12 n3, ps 14 s3, pn 16 n4, ps 18 s4, pn 20 n5, ps 22 s5, pn 24 n6, ps 26 s6, pn 28 n7, ps 30 s7, pn 32 n8, ps 34 s8, pn 36 n9, ps 38 s9, pn 40 n10, ps 42 s10, pn 44 n11, ps 46 s11, pn 48 51, pe 49] tl) := by
  rcases hs with rfl | rfl <;> rcases hn with rfl | rfl | rfl <;> kernel_rfl
theorem b11_s5 (hs : SB s5) (hn : NN n6) : whR (tP (callF 100)) (bP (callF 100)) (f + 1) [some (.obj 0), some (.int 0), some t, some (.int 5), x4] (hp 50 11 [p0, p1, pn 4 n1, ps 6 s1, pn 8 n2, ps 10 s2, pn 12 n3, ps 14 s3, pn 16 n4, ps 18 s4, pn 20 n5, ps 22 s5, pn 24 n6, ps 26 s6, pn 28 n7, ps 30 s7, pn 32 n8, ps 34 s8, pn 36 n9, ps 38 s9, pn 40 n10, ps 42 s10, pn 44 n11, ps 46 s11, pn 48 51, pe 49] tl) = whR (tP (callF 100)) (bP (callF 100)) f [some (.obj 0), some (.int 0), some (.tup [wS s5, t, ld n6]), some (.int 6), some (wS s5)] (hp 50 13 [p0, p1, pn 4 n1, ps 6 s1, pn 8 n2, ps 10 s2, pn 12 n3, ps 14 s3, pn 16 n4, ps 18 s4, pn 20 n5, ps 22 s5, pn 24 n6, ps 26 s6, pn 28 n7, ps 30 s7, pn 32 n8, ps 34 s8, pn 36 n9, ps 38 s9, pn 40 n10, ps 42 s10, pn 44 n11, ps 46 s11, pn 48 51, pe 49] tl) := by
  rcases hs with rfl | rfl <;> rcases hn with rfl | rfl | rfl <;> kernel_rfl
theorem b11_s6 (hs : SB s6) (hn : NN n7) : whR (tP (callF 100)) (bP (callF 100)) (f + 1) [some (.obj 0), some (.int 0), some t, some (.int 6), x4] (hp 50 13 [p0, p1, pn 4 n1, ps 6 s1, pn 8 n2, ps 10 s2, pn 12 n3, ps 14 s3, pn 16 n4, ps 18 s4, pn 20 n5, ps 22 s5, pn 24 n6, ps 26 s6, pn 28 n7, ps 30 s7, pn 32 n8, ps 34 s8, pn 36 n9, ps 38 s9, pn 40 n10, ps 42 s10, pn 44 n11, ps 46 s11, pn 48 51, pe 49] tl) = whR (tP (callF 100)) (bP (callF 100)) f [some (.obj 0), some (.int 0), some (.tup [wS s6, t, ld n7]), some (.int 7), some (wS s6)] (hp 50 15 [p0, p1, pn 4 n1, ps 6 s1, pn 8 n2, ps 10 s2, pn 12 n3, ps 14 s3, pn 16 n4, ps 18 s4, pn 20 n5, ps 22 s5, pn 24 n6, ps 26 s6, pn 28 n7, ps 30 s7, pn 32 n8, ps 34 s8, pn 36 n9, ps 38 s9, pn 40 n10, ps 42 s10, pn 44 n11, ps 46 s11, pn 48 51, pe 49] tl) := by
  rcases hs with rfl | rfl <;> rcases hn with rfl | rfl | rfl <;> kernel_rfl
theorem b11_s7 (hs : SB s7) (hn : NN n8) : whR (tP (callF 100)) (bP (callF 100)) (f + 1) [some (.obj 0), some (.int 0), some t, some (.int 7), x4] (hp 50 15 [p0, p1, pn 4 n1, ps 6 s1, pn 8 n2, ps 10 s2, pn 12 n3, ps 14 s3, pn 16 n4, ps 18 s4, pn 20 n5, ps 22 s5, pn 24 n6, ps 26 s6, pn 28 n7, ps 30 s7, pn 32 n8, ps 34 s8, pn 36 n9, ps 38 s9, pn 40 n10, ps 42 s10, pn 44 n11, ps 46 s11, pn 48 51, pe 49] tl) = whR (tP (callF 100)) (bP (callF 100)) f [some (.obj 0), some (.int 0), some (.tup [wS s7, t, ld n8]), some (.int 8), some (wS s7)] (hp 50 17 [p0, p1, pn 4 n1, ps 6 s1, pn 8 n2, ps 10 s2, pn 12 n3, ps 14 s3, pn 16 n4, ps 18 s4, pn 20 n5, ps 22 s5, pn 24 n6, ps 26 s6, pn 28 n7, ps 30 s7, pn 32 n8, ps 34 s8, pn 36 n9, ps 38 s9, pn 40 n10, ps 42 s10, pn 44 n11, ps 46 s11, pn 48 51, pe 49] tl) := by
  rcases hs with rfl | rfl <;> rcases hn with rfl | rfl | rfl <;> kernel_rfl
theorem b11_s8 (hs : SB s8) (hn : NN n9) : whR (tP (callF 100)) (bP (callF 100)) (f + 1) [some (.obj 0), some (.int 0), some t, some (.int 8), x4] (hp 50 17 [p0, p1, pn 4 n1, ps 6 s1, pn 8 n2, ps 10 s2, pn 12 n3, ps 14 s3, pn 16 n4, ps 18 s4, pn 20 n5, ps 22 s5, pn 24 n6, ps 26 s6, pn 28 n7, ps 30 s7, pn 32 n8, ps 34 s8, pn 36 n9, ps 38 s9, pn 40 n10, ps 42 s10, pn 44 n11, ps 46 s11, pn 48 51, pe 49] tl) = whR (tP (callF 100)) (bP (callF 100)) f [some (.obj 0), some (.int 0), some (.tup [wS s8, t, ld n9]), some (.int 9), some (wS s8)] (hp 50 19 [p0, p1, pn 4 n1, ps 6 s1, pn 8 n2, ps 10 s2, pn 12 n3, ps 14 s3, pn 16 n4, ps 18 s4, pn 20 n5, ps 22 s5, pn 24 n6, ps 26 s6, pn 28 n7, ps 30 s7, pn 32 n8, ps 34 s8, pn 36 n9, ps 38 s9, pn 40 n10, ps 42 s10, pn 44 n11, ps 46 s11, pn 48 51, pe 49] tl) := by
  rcases hs with rfl | rfl <;> rcases hn with rfl | rfl | rfl <;> kernel_rfl
theorem b11_s9 (hs : SB s9) (hn : NN n10) : whR (tP (callF 100)) (bP (callF 100)) (f + 1) [some (.obj 0), some (.int 0), some t, some (.int 9), x4] (hp 50 19 [p0, p1, pn 4 n1, ps 6 s1, pn 8 n2, ps 10 s2, pn 12 n3, ps 14 s3, pn 16 n4, ps 18 s4, pn 20 n5, ps 22 s5, pn 24 n6, ps 26 s6, pn 28 n7, ps 30 s7, pn 32 n8, ps 34 s8, pn 36 n9, ps 38 s9, pn 40 n10, ps 42 s10, pn 44 n11, ps 46 s11, pn 48 51, pe 49] tl) = whR (tP (callF 100)) (bP (callF 100)) f [some (.obj 0), some (.int 0), some (.tup [wS s9, t, ld n10]), some (.int 10), some (wS s9)] (hp 50 21 [p0, p1, pn 4 n1, ps 6 s1, pn 8 n2, ps 10 s2, pn 12 n3, ps 14 s3, pn 16 n4, ps 18 s4, pn 20 n5, ps 22 s5, pn 24 n6, ps 26 s6, pn 28 n7, ps 30 s7, pn 32 n8, ps 34 s8, pn 36 n9, ps 38 s9, pn 40 n10, ps 42 s10, pn 44 n11, ps 46 s11, pn 48 51, pe 49] tl) := by
  rcases hs with rfl | rfl <;> rcases hn with rfl | rfl | rfl <;> kernel_rfl
theorem b11_s10 (hs : SB s10) (hn : NN n11) : whR (tP (callF 100)) (bP (callF 100)) (f + 1) [some (.obj 0), some (.int 0), some t, some (.int 10), x4] (hp 50 21 [p0, p1, pn 4 n1, ps 6 s1, pn 8 n2, ps 10 s2, pn 12 n3, ps 14 s3, pn 16 n4, ps 18 s4, pn 20 n5, ps 22 s5, pn 24 n6, ps 26 s6, pn 28 n7, ps 30 s7, pn 32 n8, ps 34 s8, pn 36 n9, ps 38 s9, pn 40 n10, ps 42 s10, pn 44 n11, ps 46 s11, pn 48 51, pe 49] tl) = whR (tP (callF 100)) (bP (callF 100)) f [some (.obj 0), some (.int 0), some (.tup [wS s10, t, ld n11]), some (.int 11), some (wS s10)] (hp 50 23 [p0, p1, pn 4 n1, ps 6 s1, pn 8 n2, ps 10 s2, pn 12 n3, ps 14 s3, pn 16 n4, ps 18 s4, pn 20 n5, ps 22 s5, pn 24 n6, ps 26 s6, pn 28 n7, ps 30 s7, pn 32 n8, ps 34 s8, pn 36 n9, ps 38 s9, pn 40 n10, ps 42 s10, pn 44 n11, ps 46 s11, pn 48 51, pe 49] tl) := by
  rcases hs with rfl | rfl <;> rcases hn with rfl | rfl | rfl <;> kernel_rfl
theorem b11_s11 (hs : SB s11) : whR (tP (callF 100)) (bP (callF 100)) (f + 1) [some (.obj 0), some (.int 0), some t, some (.int 11), x4] (hp 50 23 [p0, p1, pn 4 n1, ps 6 s1, pn 8 n2, ps 10 s2, pn 12 n3, ps 14 s3, pn 16 n4, ps 18 s4, pn 20 n5, ps 22 s5, pn 24 n6, ps 26 s6, pn 28 n7, ps 30 s7, pn 32 n8, ps 34 s8, pn 36 n9, ps 38 s9, pn 40 n10, ps 42 s10, pn 44 n11, ps 46 s11, pn 48 51, pe 49] tl) = whR (tP (callF 100)) (bP (callF 100)) f [some (.obj 0), some (.int 0), some (.tup [wS s11, t, ld 51]), some (.int 12), some (wS s11)] (hp 50 25 [p0, p1, pn 4 n1, ps 6 s1, pn 8 n2, ps 10 s2, pn 12 n3, ps 14 s3, pn 16 n4, ps 18 s4, pn 20 n5, ps 22 s5, pn 24 n6, ps 26 s6, pn 28 n7, ps 30 s7, pn 32 n8, ps 34 s8, pn 36 n9, ps 38 s9, pn 40 n10, ps 42 s10, pn 44 n11, ps 46 s11, pn 48 51, pe 49] tl) := by
  rcases hs with rfl | rfl <;> kernel_rfl
theorem b11_e : whR (tP (callF 100)) (bP (callF 100)) (f + 1) [some (.obj 0), some (.int 0), some t, some (.int 12), x4] (hp 50 25 [p0, p1, pn 4 n1, ps 6 s1, pn 8 n2, ps 10 s2, pn 12 n3, ps 14 s3, pn 16 n4, ps 18 s4, pn 20 n5, ps 22 s5, pn 24 n6, ps 26 s6, pn 28 n7, ps 30 s7, pn 32 n8, ps 34 s8, pn 36 n9, ps 38 s9, pn 40 n10, ps 42 s10, pn 44 n11, ps 46 s11, pn 48 51, pe 49] tl) = .nx [some (.obj 0), some (.int 0), some t, some (.int 12), x4] (hp 50 25 [p0, p1, pn 4 n1, ps 6 s1, pn 8 n2, ps 10 s2, pn 12 n3, ps 14 s3, pn 16 n4, ps 18 s4, pn 20 n5, ps 22 s5, pn 24 n6, ps 26 s6, pn 28 n7, ps 30 s7, pn 32 n8, ps 34 s8, pn 36 n9, ps 38 s9, pn 40 n10, ps 42 s10, pn 44 n11, ps 46 s11, pn 48 51, pe 49] tl) := by kernel_rfl
theorem b11_all (hn1 : NN n1) (hs1 : SB s1) (hn2 : NN n2) (hs2 : SB s2) (hn3 : NN n3) (hs3 : SB s3) (hn4 : NN n4) (hs4 : SB s4) (hn5 : NN n5) (hs5 : SB s5) (hn6 : NN n6) (hs6 : SB s6) (hn7 : NN n7) (hs7 : SB s7) (hn8 : NN n8) (hs8 : SB s8) (hn9 : NN n9) (hs9 : SB s9) (hn10 : NN n10) (hs10 : SB s10) (hn11 : NN n11) (hs11 : SB s11) : whR (tP (callF 100)) (bP (callF 100)) M [some (.obj 0), some (.int 0), some (ld n1), some (.int 1), none] (hp 50 3 [p0, p1, pn 4 n1, ps 6 s1, pn 8 n2, ps 10 s2, pn 12 n3, ps 14 s3, pn 16 n4, ps 18 s4, pn 20 n5, ps 22 s5, pn 24 n6, ps 26 s6, pn 28 n7, ps 30 s7, pn 32 n8, ps 34 s8, pn 36 n9, ps 38 s9, pn 40 n10, ps 42 s10, pn 44 n11, ps 46 s11, pn 48 51, pe 49] tl) = .nx [some (.obj 0), some (.int 0), some (.tup [wS s11, (.tup [wS s10, (.tup [wS s9, (.tup [wS s8, (.tup [wS s7, (.tup [wS s6, (.tup [wS s5, (.tup [wS s4, (.tup [wS s3, (.tup [wS s2, (.tup [wS s1, (ld n1), ld n2]), ld n3]), ld n4]), ld n5]), ld n6]), ld n7]), ld n8]), ld n9]), ld n10]), ld n11]), ld 51]), some (.int 12), some (wS s11)] (hp 50 25 [p0, p1, pn 4 n1, ps 6 s1, pn 8 n2, ps 10 s2, pn 12 n3, ps 14 s3, pn 16 n4, ps 18 s4, pn 20 n5, ps 22 s5, pn 24 n6, ps 26 s6, pn 28 n7, ps 30 s7, pn 32 n8, ps 34 s8, pn 36 n9, ps 38 s9, pn 40 n10, ps 42 s10, pn 44 n11, ps 46 s11, pn 48 51, pe 49] tl) :=
  (((((((((((b11_s1 (f := 999999) hs1 hn2).trans (b11_s2 (f := 999998) hs2 hn3)).trans (b11_s3 (f := 999997) hs3 hn4)).trans (b11_s4 (f := 999996) hs4 hn5)).trans (b11_s5 (f := 999995) hs5 hn6)).trans (b11_s6 (f := 999994) hs6 hn7)).trans (b11_s7 (f := 999993) hs7 hn8)).trans (b11_s8 (f := 999992) hs8 hn9)).trans (b11_s9 (f := 999991) hs9 hn10)).trans (b11_s10 (f := 999990) hs10 hn11)).trans (b11_s11 (f := 999989) hs11)).trans (b11_e (f := 999988))
theorem b11_r (hn1 : NN n1) (hs1 : SB s1) (hn2 : NN n2) (hs2 : SB s2) (hn3 : NN n3) (hs3 : SB s3) (hn4 : NN n4) (hs4 : SB s4) (hn5 : NN n5) (hs5 : SB s5) (hn6 : NN n6) (hs6 : SB s6) (hn7 : NN n7) (hs7 : SB s7) (hn8 : NN n8) (hs8 : SB s8) (hn9 : NN n9) (hs9 : SB s9) (hn10 : NN n10) (hs10 : SB s10) (hn11 : NN n11) (hs11 : SB s11) : c_42 (callF 100) [.obj 0, .int 0] (hp 50 2 [p0, p1, pn 4 n1, ps 6 s1, pn 8 n2, ps 10 s2, pn 12 n3, ps 14 s3, pn 16 n4, ps 18 s4, pn 20 n5, ps 22 s5, pn 24 n6, ps 26 s6, pn 28 n7, ps 30 s7, pn 32 n8, ps 34 s8, pn 36 n9, ps 38 s9, pn 40 n10, ps 42 s10, pn 44 n11, ps 46 s11, pn 48 51, pe 49] tl) = .ok (.tup [wS s11, (.tup [wS s10, (.tup [wS s9, (.tup [wS s8, (.tup [wS s7, (.tup [wS s6, (.tup [wS s5, (.tup [wS s4, (.tup [wS s3, (.tup [wS s2, (.tup [wS s1, (ld n1), ld n2]), ld n3]), ld n4]), ld n5]), ld n6]), ld n7]), ld n8]), ld n9]), ld n10]), ld n11]), ld 51]) (hp 50 25 [p0, p1, pn 4 n1, ps 6 s1, pn 8 n2, ps 10 s2, pn 12 n3, ps 14 s3, pn 16 n4, ps 18 s4, pn 20 n5, ps 22 s5, pn 24 n6, ps 26 s6, pn 28 n7, ps 30 s7, pn 32 n8, ps 34 s8, pn 36 n9, ps 38 s9, pn 40 n10, ps 42 s10, pn 44 n11, ps 46 s11, pn 48 51, pe 49] tl) := by
  have e0 : eB (callF 100 43) (as1 (eV 0) (as1 (eV 1) as0)) [some (.obj 0), some (.int 0), none, none, none] (hp 50 2 [p0, p1, pn 4 n1, ps 6 s1, pn 8 n2, ps 10 s2, pn 12 n3, ps 14 s3, pn 16 n4, ps 18 s4, pn 20 n5, ps 22 s5, pn 24 n6, ps 26 s6, pn 28 n7, ps 30 s7, pn 32 n8, ps 34 s8, pn 36 n9, ps 38 s9, pn 40 n10, ps 42 s10, pn 44 n11, ps 46 s11, pn 48 51, pe 49] tl) = .ok (ld n1) (hp 50 3 [p0, p1, pn 4 n1, ps 6 s1, pn 8 n2, ps 10 s2, pn 12 n3, ps 14 s3, pn 16 n4, ps 18 s4, pn 20 n5, ps 22 s5, pn 24 n6, ps 26 s6, pn 28 n7, ps 30 s7, pn 32 n8, ps 34 s8, pn 36 n9, ps 38 s9, pn 40 n10, ps 42 s10, pn 44 n11, ps 46 s11, pn 48 51, pe 49] tl) := evB (xs := [.obj 0, .int 0]) rfl (b11_1 hn1)
  have e1 : b_42 (callF 100) [some (.obj 0), some (.int 0), none, none, none] (hp 50 2 [p0, p1, pn 4 n1, ps 6 s1, pn 8 n2, ps 10 s2, pn 12 n3, ps 14 s3, pn 16 n4, ps 18 s4, pn 20 n5, ps 22 s5, pn 24 n6, ps 26 s6, pn 28 n7, ps 30 s7, pn 32 n8, ps 34 s8, pn 36 n9, ps 38 s9, pn 40 n10, ps 42 s10, pn 44 n11, ps 46 s11, pn 48 51, pe 49] tl) = .rt (.tup [wS s11, (.tup [wS s10, (.tup [wS s9, (.tup [wS s8, (.tup [wS s7, (.tup [wS s6, (.tup [wS s5, (.tup [wS s4, (.tup [wS s3, (.tup [wS s2, (.tup [wS s1, (ld n1), ld n2]), ld n3]), ld n4]), ld n5]), ld n6]), ld n7]), ld n8]), ld n9]), ld n10]), ld n11]), ld 51]) (hp 50 25 [p0, p1, pn 4 n1, ps 6 s1, pn 8 n2, ps 10 s2, pn 12 n3, ps 14 s3, pn 16 n4, ps 18 s4, pn 20 n5, ps 22 s5, pn 24 n6, ps 26 s6, pn 28 n7, ps 30 s7, pn 32 n8, ps 34 s8, pn 36 n9, ps 38 s9, pn 40 n10, ps 42 s10, pn 44 n11, ps 46 s11, pn 48 51, pe 49] tl) :=
    (sSq_nx (evSet e0)).trans ((sSq_nx (evSet (b11_c hn1))).trans ((sSq_nx (b11_all hn1 hs1 hn2 hs2 hn3 hs3 hn4 hs4 hn5 hs5 hn6 hs6 hn7 hs7 hn8 hs8 hn9 hs9 hn10 hs10 hn11 hs11)).trans rfl))
  exact fnR_of (np := 2) (n := 5) (xs := [.obj 0, .int 0]) rfl e1 rfl
theorem b11_p : D.pure (.tup [wS s11, (.tup [wS s10, (.tup [wS s9, (.tup [wS s8, (.tup [wS s7, (.tup [wS s6, (.tup [wS s5, (.tup [wS s4, (.tup [wS s3, (.tup [wS s2, (.tup [wS s1, (ld n1), ld n2]), ld n3]), ld n4]), ld n5]), ld n6]), ld n7]), ld n8]), ld n9]), ld n10]), ld n11]), ld 51]) = true := (tup3 rfl (tup3 rfl (tup3 rfl (tup3 rfl (tup3 rfl (tup3 rfl (tup3 rfl (tup3 rfl (tup3 rfl (tup3 rfl (tup3 rfl (ld_pure _) (ld_pure _)) (ld_pure _)) (ld_pure _)) (ld_pure _)) (ld_pure _)) (ld_pure _)) (ld_pure _)) (ld_pure _)) (ld_pure _)) (ld_pure _)) (ld_pure _))
theorem b11_q (hn1 : NN n1) (hs1 : SB s1) (hn2 : NN n2) (hs2 : SB s2) (hn3 : NN n3) (hs3 : SB s3) (hn4 : NN n4) (hs4 : SB s4) (hn5 : NN n5) (hs5 : SB s5) (hn6 : NN n6) (hs6 : SB s6) (hn7 : NN n7) (hs7 : SB s7) (hn8 : NN n8) (hs8 : SB s8) (hn9 : NN n9) (hs9 : SB s9) (hn10 : NN n10) (hs10 : SB s10) (hn11 : NN n11) (hs11 : SB s11) : c_41 (callF 101) [.obj 0, .int 0] (hp 50 2 [p0, p1, pn 4 n1, ps 6 s1, pn 8 n2, ps 10 s2, pn 12 n3, ps 14 s3, pn 16 n4, ps 18 s4, pn 20 n5, ps 22 s5, pn 24 n6, ps 26 s6, pn 28 n7, ps 30 s7, pn 32 n8, ps 34 s8, pn 36 n9, ps 38 s9, pn 40 n10, ps 42 s10, pn 44 n11, ps 46 s11, pn 48 51, pe 49] tl) = .ok (.tup [wS s11, (.tup [wS s10, (.tup [wS s9, (.tup [wS s8, (.tup [wS s7, (.tup [wS s6, (.tup [wS s5, (.tup [wS s4, (.tup [wS s3, (.tup [wS s2, (.tup [wS s1, (ld n1), ld n2]), ld n3]), ld n4]), ld n5]), ld n6]), ld n7]), ld n8]), ld n9]), ld n10]), ld n11]), ld 51]) (hp 50 25 [p0, p1, pn 4 n1, ps 6 s1, pn 8 n2, ps 10 s2, pn 12 n3, ps 14 s3, pn 16 n4, ps 18 s4, pn 20 n5, ps 22 s5, pn 24 n6, ps 26 s6, pn 28 n7, ps 30 s7, pn 32 n8, ps 34 s8, pn 36 n9, ps 38 s9, pn 40 n10, ps 42 s10, pn 44 n11, ps 46 s11, pn 48 51, pe 49] tl) := by
  have e0 : eB (callF 101 42) (as1 (eV 0) (as1 (eV 1) as0)) [some (.obj 0), some (.int 0), none, none, none] (hp 50 2 [p0, p1, pn 4 n1, ps 6 s1, pn 8 n2, ps 10 s2, pn 12 n3, ps 14 s3, pn 16 n4, ps 18 s4, pn 20 n5, ps 22 s5, pn 24 n6, ps 26 s6, pn 28 n7, ps 30 s7, pn 32 n8, ps 34 s8, pn 36 n9, ps 38 s9, pn 40 n10, ps 42 s10, pn 44 n11, ps 46 s11, pn 48 51, pe 49] tl) = .ok (.tup [wS s11, (.tup [wS s10, (.tup [wS s9, (.tup [wS s8, (.tup [wS s7, (.tup [wS s6, (.tup [wS s5, (.tup [wS s4, (.tup [wS s3, (.tup [wS s2, (.tup [wS s1, (ld n1), ld n2]), ld n3]), ld n4]), ld n5]), ld n6]), ld n7]), ld n8]), ld n9]), ld n10]), ld n11]), ld 51]) (hp 50 25 [p0, p1, pn 4 n1, ps 6 s1, pn 8 n2, ps 10 s2, pn 12 n3, ps 14 s3, pn 16 n4, ps 18 s4, pn 20 n5, ps 22 s5, pn 24 n6, ps 26 s6, pn 28 n7, ps 30 s7, pn 32 n8, ps 34 s8, pn 36 n9, ps 38 s9, pn 40 n10, ps 42 s10, pn 44 n11, ps 46 s11, pn 48 51, pe 49] tl) := evB (xs := [.obj 0, .int 0]) rfl (b11_r hn1 hs1 hn2 hs2 hn3 hs3 hn4 hs4 hn5 hs5 hn6 hs6 hn7 hs7 hn8 hs8 hn9 hs9 hn10 hs10 hn11 hs11)
  have ec : ∀ t u : D, callF 101 14 [.tup [wS s11, t, u], .int 0] [] = .ok (.int 1) [] := by
    intro t u
    rcases hs11 with rfl | rfl <;> kernel_rfl
  have e1 : eQ (callF 101 14) (as1 (eV 2) (as1 (eC k_TERMS) as0)) [some (.obj 0), some (.int 0), some (.tup [wS s11, (.tup [wS s10, (.tup [wS s9, (.tup [wS s8, (.tup [wS s7, (.tup [wS s6, (.tup [wS s5, (.tup [wS s4, (.tup [wS s3, (.tup [wS s2, (.tup [wS s1, (ld n1), ld n2]), ld n3]), ld n4]), ld n5]), ld n6]), ld n7]), ld n8]), ld n9]), ld n10]), ld n11]), ld 51]), none, none] (hp 50 25 [p0, p1, pn 4 n1, ps 6 s1, pn 8 n2, ps 10 s2, pn 12 n3, ps 14 s3, pn 16 n4, ps 18 s4, pn 20 n5, ps 22 s5, pn 24 n6, ps 26 s6, pn 28 n7, ps 30 s7, pn 32 n8, ps 34 s8, pn 36 n9, ps 38 s9, pn 40 n10, ps 42 s10, pn 44 n11, ps 46 s11, pn 48 51, pe 49] tl) = .ok (.int 1) (hp 50 25 [p0, p1, pn 4 n1, ps 6 s1, pn 8 n2, ps 10 s2, pn 12 n3, ps 14 s3, pn 16 n4, ps 18 s4, pn 20 n5, ps 22 s5, pn 24 n6, ps 26 s6, pn 28 n7, ps 30 s7, pn 32 n8, ps 34 s8, pn 36 n9, ps 38 s9, pn 40 n10, ps 42 s10, pn 44 n11, ps 46 s11, pn 48 51, pe 49] tl) :=
    eQ_of rfl (show (D.pure (.tup [wS s11, (.tup [wS s10, (.tup [wS s9, (.tup [wS s8, (.tup [wS s7, (.tup [wS s6, (.tup [wS s5, (.tup [wS s4, (.tup [wS s3, (.tup [wS s2, (.tup [wS s1, (ld n1), ld n2]), ld n3]), ld n4]), ld n5]), ld n6]), ld n7]), ld n8]), ld n9]), ld n10]), ld n11]), ld 51]) && (D.pures [.int 0])) = true by rw [b11_p]; rfl) (ec _ _) rfl
  have ew : ∀ t : D, whR (tS (callF 101)) (bS (callF 101)) M [some (.obj 0), some (.int 0), some t, some (.int 1), none] (hp 50 25 [p0, p1, pn 4 n1, ps 6 s1, pn 8 n2, ps 10 s2, pn 12 n3, ps 14 s3, pn 16 n4, ps 18 s4, pn 20 n5, ps 22 s5, pn 24 n6, ps 26 s6, pn 28 n7, ps 30 s7, pn 32 n8, ps 34 s8, pn 36 n9, ps 38 s9, pn 40 n10, ps 42 s10, pn 44 n11, ps 46 s11, pn 48 51, pe 49] tl) = .nx [some (.obj 0), some (.int 0), some t, some (.int 1), none] (hp 50 25 [p0, p1, pn 4 n1, ps 6 s1, pn 8 n2, ps 10 s2, pn 12 n3, ps 14 s3, pn 16 n4, ps 18 s4, pn 20 n5, ps 22 s5, pn 24 n6, ps 26 s6, pn 28 n7, ps 30 s7, pn 32 n8, ps 34 s8, pn 36 n9, ps 38 s9, pn 40 n10, ps 42 s10, pn 44 n11, ps 46 s11, pn 48 51, pe 49] tl) := by
    intro t
    kernel_rfl
  have e2 : b_41 (callF 101) [some (.obj 0), some (.int 0), none, none, none] (hp 50 2 [p0, p1, pn 4 n1, ps 6 s1, pn 8 n2, ps 10 s2, pn 12 n3, ps 14 s3, pn 16 n4, ps 18 s4, pn 20 n5, ps 22 s5, pn 24 n6, ps 26 s6, pn 28 n7, ps 30 s7, pn 32 n8, ps 34 s8, pn 36 n9, ps 38 s9, pn 40 n10, ps 42 s10, pn 44 n11, ps 46 s11, pn 48 51, pe 49] tl) = .rt (.tup [wS s11, (.tup [wS s10, (.tup [wS s9, (.tup [wS s8, (.tup [wS s7, (.tup [wS s6, (.tup [wS s5, (.tup [wS s4, (.tup [wS s3, (.tup [wS s2, (.tup [wS s1, (ld n1), ld n2]), ld n3]), ld n4]), ld n5]), ld n6]), ld n7]), ld n8]), ld n9]), ld n10]), ld n11]), ld 51]) (hp 50 25 [p0, p1, pn 4 n1, ps 6 s1, pn 8 n2, ps 10 s2, pn 12 n3, ps 14 s3, pn 16 n4, ps 18 s4, pn 20 n5, ps 22 s5, pn 24 n6, ps 26 s6, pn 28 n7, ps 30 s7, pn 32 n8, ps 34 s8, pn 36 n9, ps 38 s9, pn 40 n10, ps 42 s10, pn 44 n11, ps 46 s11, pn 48 51, pe 49] tl) :=
    (sSq_nx (evSet e0)).trans ((sSq_nx (evSet e1)).trans ((sSq_nx (ew _)).trans rfl))
  exact fnR_of (np := 2) (n := 5) (xs := [.obj 0, .int 0]) rfl e2 rfl
theorem b11_51 (hn1 : NN n1) (hs1 : SB s1) (hn2 : NN n2) (hs2 : SB s2) (hn3 : NN n3) (hs3 : SB s3) (hn4 : NN n4) (hs4 : SB s4) (hn5 : NN n5) (hs5 : SB s5) (hn6 : NN n6) (hs6 : SB s6) (hn7 : NN n7) (hs7 : SB s7) (hn8 : NN n8) (hs8 : SB s8) (hn9 : NN n9) (hs9 : SB s9) (hn10 : NN n10) (hs10 : SB s10) (hn11 : NN n11) (hs11 : SB s11) : c_51 (callF 102) [.obj 0] (hp 50 0 [p0, p1, pn 4 n1, ps 6 s1, pn 8 n2, ps 10 s2, pn 12 n3, ps 14 s3, pn 16 n4, ps 18 s4, pn 20 n5, ps 22 s5, pn 24 n6, ps 26 s6, pn 28 n7, ps 30 s7, pn 32 n8, ps 34 s8, pn 36 n9, ps 38 s9, pn 40 n10, ps 42 s10, pn 44 n11, ps 46 s11, pn 48 51, pe 49] tl) = .ok (.tup [.str [110, 117, 109, 98, 101, 114], .str [113], (.tup [wS s11, (.tup [wS s10, (.tup [wS s9, (.tup [wS s8, (.tup [wS s7, (.tup [wS s6, (.tup [wS s5, (.tup [wS s4, (.tup [wS s3, (.tup [wS s2, (.tup [wS s1, (ld n1), ld n2]), ld n3]), ld n4]), ld n5]), ld n6]), ld n7]), ld n8]), ld n9]), ld n10]), ld n11]), ld 51])]) (hp 50 25 [p0, p1, pn 4 n1, ps 6 s1, pn 8 n2, ps 10 s2, pn 12 n3, ps 14 s3, pn 16 n4, ps 18 s4, pn 20 n5, ps 22 s5, pn 24 n6, ps 26 s6, pn 28 n7, ps 30 s7, pn 32 n8, ps 34 s8, pn 36 n9, ps 38 s9, pn 40 n10, ps 42 s10, pn 44 n11, ps 46 s11, pn 48 51, pe 49] tl) := by
  have g1 : sSet 1 (eMt 1 (callF 102 39) (eV 0) as0) [some (.obj 0), none, none] (hp 50 0 [p0, p1, pn 4 n1, ps 6 s1, pn 8 n2, ps 10 s2, pn 12 n3, ps 14 s3, pn 16 n4, ps 18 s4, pn 20 n5, ps 22 s5, pn 24 n6, ps 26 s6, pn 28 n7, ps 30 s7, pn 32 n8, ps 34 s8, pn 36 n9, ps 38 s9, pn 40 n10, ps 42 s10, pn 44 n11, ps 46 s11, pn 48 51, pe 49] tl) = .nx [some (.obj 0), some (.str [113]), none] (hp 50 1 [p0, p1, pn 4 n1, ps 6 s1, pn 8 n2, ps 10 s2, pn 12 n3, ps 14 s3, pn 16 n4, ps 18 s4, pn 20 n5, ps 22 s5, pn 24 n6, ps 26 s6, pn 28 n7, ps 30 s7, pn 32 n8, ps 34 s8, pn 36 n9, ps 38 s9, pn 40 n10, ps 42 s10, pn 44 n11, ps 46 s11, pn 48 51, pe 49] tl) := by kernel_rfl
  have g2 : sExp (eMt 1 (callF 102 37) (eV 0) (as1 (eC (.str [61])) as0)) [some (.obj 0), some (.str [113]), none] (hp 50 1 [p0, p1, pn 4 n1, ps 6 s1, pn 8 n2, ps 10 s2, pn 12 n3, ps 14 s3, pn 16 n4, ps 18 s4, pn 20 n5, ps 22 s5, pn 24 n6, ps 26 s6, pn 28 n7, ps 30 s7, pn 32 n8, ps 34 s8, pn 36 n9, ps 38 s9, pn 40 n10, ps 42 s10, pn 44 n11, ps 46 s11, pn 48 51, pe 49] tl) = .nx [some (.obj 0), some (.str [113]), none] (hp 50 2 [p0, p1, pn 4 n1, ps 6 s1, pn 8 n2, ps 10 s2, pn 12 n3, ps 14 s3, pn 16 n4, ps 18 s4, pn 20 n5, ps 22 s5, pn 24 n6, ps 26 s6, pn 28 n7, ps 30 s7, pn 32 n8, ps 34 s8, pn 36 n9, ps 38 s9, pn 40 n10, ps 42 s10, pn 44 n11, ps 46 s11, pn 48 51, pe 49] tl) := by kernel_rfl
  have g3 : sSet 2 (eMt 1 (callF 102 34) (eV 0) as0) [some (.obj 0), some (.str [113]), none] (hp 50 2 [p0, p1, pn 4 n1, ps 6 s1, pn 8 n2, ps 10 s2, pn 12 n3, ps 14 s3, pn 16 n4, ps 18 s4, pn 20 n5, ps 22 s5, pn 24 n6, ps 26 s6, pn 28 n7, ps 30 s7, pn 32 n8, ps 34 s8, pn 36 n9, ps 38 s9, pn 40 n10, ps 42 s10, pn 44 n11, ps 46 s11, pn 48 51, pe 49] tl) = .nx [some (.obj 0), some (.str [113]), some (.str [n1])] (hp 50 2 [p0, p1, pn 4 n1, ps 6 s1, pn 8 n2, ps 10 s2, pn 12 n3, ps 14 s3, pn 16 n4, ps 18 s4, pn 20 n5, ps 22 s5, pn 24 n6, ps 26 s6, pn 28 n7, ps 30 s7, pn 32 n8, ps 34 s8, pn 36 n9, ps 38 s9, pn 40 n10, ps 42 s10, pn 44 n11, ps 46 s11, pn 48 51, pe 49] tl) := by kernel_rfl
  have g4 : tO (tB1 (e2 (oEq true) (eMt 1 (callF 102 33) (eV 0) as0) (eC (.str [119, 111, 114, 100])))) (tB1 (e1 (oInD true d_FIGURE_PARTS) (eV 2))) [some (.obj 0), some (.str [113]), some (.str [n1])] (hp 50 2 [p0, p1, pn 4 n1, ps 6 s1, pn 8 n2, ps 10 s2, pn 12 n3, ps 14 s3, pn 16 n4, ps 18 s4, pn 20 n5, ps 22 s5, pn 24 n6, ps 26 s6, pn 28 n7, ps 30 s7, pn 32 n8, ps 34 s8, pn 36 n9, ps 38 s9, pn 40 n10, ps 42 s10, pn 44 n11, ps 46 s11, pn 48 51, pe 49] tl) = .ok true (hp 50 2 [p0, p1, pn 4 n1, ps 6 s1, pn 8 n2, ps 10 s2, pn 12 n3, ps 14 s3, pn 16 n4, ps 18 s4, pn 20 n5, ps 22 s5, pn 24 n6, ps 26 s6, pn 28 n7, ps 30 s7, pn 32 n8, ps 34 s8, pn 36 n9, ps 38 s9, pn 40 n10, ps 42 s10, pn 44 n11, ps 46 s11, pn 48 51, pe 49] tl) := by
    rcases hn1 with rfl | rfl | rfl <;> kernel_rfl
  have g5 : eTup (as1 (eC (.str [110, 117, 109, 98, 101, 114])) (as1 (eV 1) (as1 (eB (callF 102 41) (as1 (eV 0) (as1 (eC (.int 0)) as0))) as0))) [some (.obj 0), some (.str [113]), some (.str [n1])] (hp 50 2 [p0, p1, pn 4 n1, ps 6 s1, pn 8 n2, ps 10 s2, pn 12 n3, ps 14 s3, pn 16 n4, ps 18 s4, pn 20 n5, ps 22 s5, pn 24 n6, ps 26 s6, pn 28 n7, ps 30 s7, pn 32 n8, ps 34 s8, pn 36 n9, ps 38 s9, pn 40 n10, ps 42 s10, pn 44 n11, ps 46 s11, pn 48 51, pe 49] tl) = .ok (.tup [.str [110, 117, 109, 98, 101, 114], .str [113], (.tup [wS s11, (.tup [wS s10, (.tup [wS s9, (.tup [wS s8, (.tup [wS s7, (.tup [wS s6, (.tup [wS s5, (.tup [wS s4, (.tup [wS s3, (.tup [wS s2, (.tup [wS s1, (ld n1), ld n2]), ld n3]), ld n4]), ld n5]), ld n6]), ld n7]), ld n8]), ld n9]), ld n10]), ld n11]), ld 51])]) (hp 50 25 [p0, p1, pn 4 n1, ps 6 s1, pn 8 n2, ps 10 s2, pn 12 n3, ps 14 s3, pn 16 n4, ps 18 s4, pn 20 n5, ps 22 s5, pn 24 n6, ps 26 s6, pn 28 n7, ps 30 s7, pn 32 n8, ps 34 s8, pn 36 n9, ps 38 s9, pn 40 n10, ps 42 s10, pn 44 n11, ps 46 s11, pn 48 51, pe 49] tl) := evTup (eva1 rfl (eva1 rfl (eva1 (evB (op := callF 102 41) (xs := [.obj 0, .int 0]) rfl (b11_q hn1 hs1 hn2 hs2 hn3 hs3 hn4 hs4 hn5 hs5 hn6 hs6 hn7 hs7 hn8 hs8 hn9 hs9 hn10 hs10 hn11 hs11)) rfl))) (show 3 ≤ M by unfold M; omega)
  have g6 : b_51 (callF 102) [some (.obj 0), none, none] (hp 50 0 [p0, p1, pn 4 n1, ps 6 s1, pn 8 n2, ps 10 s2, pn 12 n3, ps 14 s3, pn 16 n4, ps 18 s4, pn 20 n5, ps 22 s5, pn 24 n6, ps 26 s6, pn 28 n7, ps 30 s7, pn 32 n8, ps 34 s8, pn 36 n9, ps 38 s9, pn 40 n10, ps 42 s10, pn 44 n11, ps 46 s11, pn 48 51, pe 49] tl) = .rt (.tup [.str [110, 117, 109, 98, 101, 114], .str [113], (.tup [wS s11, (.tup [wS s10, (.tup [wS s9, (.tup [wS s8, (.tup [wS s7, (.tup [wS s6, (.tup [wS s5, (.tup [wS s4, (.tup [wS s3, (.tup [wS s2, (.tup [wS s1, (ld n1), ld n2]), ld n3]), ld n4]), ld n5]), ld n6]), ld n7]), ld n8]), ld n9]), ld n10]), ld n11]), ld 51])]) (hp 50 25 [p0, p1, pn 4 n1, ps 6 s1, pn 8 n2, ps 10 s2, pn 12 n3, ps 14 s3, pn 16 n4, ps 18 s4, pn 20 n5, ps 22 s5, pn 24 n6, ps 26 s6, pn 28 n7, ps 30 s7, pn 32 n8, ps 34 s8, pn 36 n9, ps 38 s9, pn 40 n10, ps 42 s10, pn 44 n11, ps 46 s11, pn 48 51, pe 49] tl) :=
    (sSq_nx g1).trans ((sSq_nx g2).trans ((sSq_nx g3).trans (sSq_rt ((sIf_tt g4).trans (sRet_of g5)))))
  exact fnR_of (np := 1) (n := 3) (xs := [.obj 0]) rfl g6 rfl
theorem b11_55 (hn1 : NN n1) (hs1 : SB s1) (hn2 : NN n2) (hs2 : SB s2) (hn3 : NN n3) (hs3 : SB s3) (hn4 : NN n4) (hs4 : SB s4) (hn5 : NN n5) (hs5 : SB s5) (hn6 : NN n6) (hs6 : SB s6) (hn7 : NN n7) (hs7 : SB s7) (hn8 : NN n8) (hs8 : SB s8) (hn9 : NN n9) (hs9 : SB s9) (hn10 : NN n10) (hs10 : SB s10) (hn11 : NN n11) (hs11 : SB s11) : c_55 (callF 103) [.obj 0] (hp 50 0 [p0, p1, pn 4 n1, ps 6 s1, pn 8 n2, ps 10 s2, pn 12 n3, ps 14 s3, pn 16 n4, ps 18 s4, pn 20 n5, ps 22 s5, pn 24 n6, ps 26 s6, pn 28 n7, ps 30 s7, pn 32 n8, ps 34 s8, pn 36 n9, ps 38 s9, pn 40 n10, ps 42 s10, pn 44 n11, ps 46 s11, pn 48 51, pe 49] tl) = .ok (.tup [.str [110, 117, 109, 98, 101, 114], .str [113], (.tup [wS s11, (.tup [wS s10, (.tup [wS s9, (.tup [wS s8, (.tup [wS s7, (.tup [wS s6, (.tup [wS s5, (.tup [wS s4, (.tup [wS s3, (.tup [wS s2, (.tup [wS s1, (ld n1), ld n2]), ld n3]), ld n4]), ld n5]), ld n6]), ld n7]), ld n8]), ld n9]), ld n10]), ld n11]), ld 51])]) (hp 50 26 [p0, p1, pn 4 n1, ps 6 s1, pn 8 n2, ps 10 s2, pn 12 n3, ps 14 s3, pn 16 n4, ps 18 s4, pn 20 n5, ps 22 s5, pn 24 n6, ps 26 s6, pn 28 n7, ps 30 s7, pn 32 n8, ps 34 s8, pn 36 n9, ps 38 s9, pn 40 n10, ps 42 s10, pn 44 n11, ps 46 s11, pn 48 51, pe 49] tl) := by
  have g1 : tV (eMt 1 (callF 103 35) (eV 0) (as1 (eC (.str [97, 115, 107])) as0)) [some (.obj 0), none] (hp 50 0 [p0, p1, pn 4 n1, ps 6 s1, pn 8 n2, ps 10 s2, pn 12 n3, ps 14 s3, pn 16 n4, ps 18 s4, pn 20 n5, ps 22 s5, pn 24 n6, ps 26 s6, pn 28 n7, ps 30 s7, pn 32 n8, ps 34 s8, pn 36 n9, ps 38 s9, pn 40 n10, ps 42 s10, pn 44 n11, ps 46 s11, pn 48 51, pe 49] tl) = .ok false (hp 50 0 [p0, p1, pn 4 n1, ps 6 s1, pn 8 n2, ps 10 s2, pn 12 n3, ps 14 s3, pn 16 n4, ps 18 s4, pn 20 n5, ps 22 s5, pn 24 n6, ps 26 s6, pn 28 n7, ps 30 s7, pn 32 n8, ps 34 s8, pn 36 n9, ps 38 s9, pn 40 n10, ps 42 s10, pn 44 n11, ps 46 s11, pn 48 51, pe 49] tl) := by kernel_rfl
  have g2 : tV (eMt 1 (callF 103 35) (eV 0) (as1 (eC (.str [116, 101, 108, 108])) as0)) [some (.obj 0), none] (hp 50 0 [p0, p1, pn 4 n1, ps 6 s1, pn 8 n2, ps 10 s2, pn 12 n3, ps 14 s3, pn 16 n4, ps 18 s4, pn 20 n5, ps 22 s5, pn 24 n6, ps 26 s6, pn 28 n7, ps 30 s7, pn 32 n8, ps 34 s8, pn 36 n9, ps 38 s9, pn 40 n10, ps 42 s10, pn 44 n11, ps 46 s11, pn 48 51, pe 49] tl) = .ok false (hp 50 0 [p0, p1, pn 4 n1, ps 6 s1, pn 8 n2, ps 10 s2, pn 12 n3, ps 14 s3, pn 16 n4, ps 18 s4, pn 20 n5, ps 22 s5, pn 24 n6, ps 26 s6, pn 28 n7, ps 30 s7, pn 32 n8, ps 34 s8, pn 36 n9, ps 38 s9, pn 40 n10, ps 42 s10, pn 44 n11, ps 46 s11, pn 48 51, pe 49] tl) := by kernel_rfl
  have g3 : sSet 1 (eB (callF 103 51) (as1 (eV 0) as0)) [some (.obj 0), none] (hp 50 0 [p0, p1, pn 4 n1, ps 6 s1, pn 8 n2, ps 10 s2, pn 12 n3, ps 14 s3, pn 16 n4, ps 18 s4, pn 20 n5, ps 22 s5, pn 24 n6, ps 26 s6, pn 28 n7, ps 30 s7, pn 32 n8, ps 34 s8, pn 36 n9, ps 38 s9, pn 40 n10, ps 42 s10, pn 44 n11, ps 46 s11, pn 48 51, pe 49] tl) = .nx [some (.obj 0), some (.tup [.str [110, 117, 109, 98, 101, 114], .str [113], (.tup [wS s11, (.tup [wS s10, (.tup [wS s9, (.tup [wS s8, (.tup [wS s7, (.tup [wS s6, (.tup [wS s5, (.tup [wS s4, (.tup [wS s3, (.tup [wS s2, (.tup [wS s1, (ld n1), ld n2]), ld n3]), ld n4]), ld n5]), ld n6]), ld n7]), ld n8]), ld n9]), ld n10]), ld n11]), ld 51])])] (hp 50 25 [p0, p1, pn 4 n1, ps 6 s1, pn 8 n2, ps 10 s2, pn 12 n3, ps 14 s3, pn 16 n4, ps 18 s4, pn 20 n5, ps 22 s5, pn 24 n6, ps 26 s6, pn 28 n7, ps 30 s7, pn 32 n8, ps 34 s8, pn 36 n9, ps 38 s9, pn 40 n10, ps 42 s10, pn 44 n11, ps 46 s11, pn 48 51, pe 49] tl) := evSet (evB (xs := [.obj 0]) rfl (b11_51 hn1 hs1 hn2 hs2 hn3 hs3 hn4 hs4 hn5 hs5 hn6 hs6 hn7 hs7 hn8 hs8 hn9 hs9 hn10 hs10 hn11 hs11))
  have g4 : ∀ d : D, sExp (eMt 1 (callF 103 38) (eV 0) as0) [some (.obj 0), some d] (hp 50 25 [p0, p1, pn 4 n1, ps 6 s1, pn 8 n2, ps 10 s2, pn 12 n3, ps 14 s3, pn 16 n4, ps 18 s4, pn 20 n5, ps 22 s5, pn 24 n6, ps 26 s6, pn 28 n7, ps 30 s7, pn 32 n8, ps 34 s8, pn 36 n9, ps 38 s9, pn 40 n10, ps 42 s10, pn 44 n11, ps 46 s11, pn 48 51, pe 49] tl) = .nx [some (.obj 0), some d] (hp 50 26 [p0, p1, pn 4 n1, ps 6 s1, pn 8 n2, ps 10 s2, pn 12 n3, ps 14 s3, pn 16 n4, ps 18 s4, pn 20 n5, ps 22 s5, pn 24 n6, ps 26 s6, pn 28 n7, ps 30 s7, pn 32 n8, ps 34 s8, pn 36 n9, ps 38 s9, pn 40 n10, ps 42 s10, pn 44 n11, ps 46 s11, pn 48 51, pe 49] tl) := by intro d; kernel_rfl
  have g5 : b_55 (callF 103) [some (.obj 0), none] (hp 50 0 [p0, p1, pn 4 n1, ps 6 s1, pn 8 n2, ps 10 s2, pn 12 n3, ps 14 s3, pn 16 n4, ps 18 s4, pn 20 n5, ps 22 s5, pn 24 n6, ps 26 s6, pn 28 n7, ps 30 s7, pn 32 n8, ps 34 s8, pn 36 n9, ps 38 s9, pn 40 n10, ps 42 s10, pn 44 n11, ps 46 s11, pn 48 51, pe 49] tl) = .rt (.tup [.str [110, 117, 109, 98, 101, 114], .str [113], (.tup [wS s11, (.tup [wS s10, (.tup [wS s9, (.tup [wS s8, (.tup [wS s7, (.tup [wS s6, (.tup [wS s5, (.tup [wS s4, (.tup [wS s3, (.tup [wS s2, (.tup [wS s1, (ld n1), ld n2]), ld n3]), ld n4]), ld n5]), ld n6]), ld n7]), ld n8]), ld n9]), ld n10]), ld n11]), ld 51])]) (hp 50 26 [p0, p1, pn 4 n1, ps 6 s1, pn 8 n2, ps 10 s2, pn 12 n3, ps 14 s3, pn 16 n4, ps 18 s4, pn 20 n5, ps 22 s5, pn 24 n6, ps 26 s6, pn 28 n7, ps 30 s7, pn 32 n8, ps 34 s8, pn 36 n9, ps 38 s9, pn 40 n10, ps 42 s10, pn 44 n11, ps 46 s11, pn 48 51, pe 49] tl) :=
    (sSq_nx ((sIf_ff g1).trans ((sIf_ff g2).trans g3))).trans ((sSq_nx (g4 _)).trans rfl)
  exact fnR_of (np := 1) (n := 2) (xs := [.obj 0]) rfl g5 rfl
end
end T

end

section
set_option Elab.async false
set_option linter.all false
set_option maxRecDepth 100000
set_option maxHeartbeats 4000000
namespace T
open PySem Sh

section
variable {n1 s1 n2 s2 n3 s3 n4 s4 n5 s5 n6 s6 n7 s7 n8 s8 n9 s9 n10 s10 n11 s11 n12 s12 f : Nat} {x4 : Option D} {t : D} {tl : Hd}
theorem a12_1 (hn : NN n1) (hs : SA s1) : c_42 (callF 100) [.obj 0, .int 0] (hp 54 2 [p0, p1, pn 4 n1, ps 6 s1, pn 8 n2, ps 10 s2, pn 12 n3, ps 14 s3, pn 16 n4, ps 18 s4, pn 20 n5, ps 22 s5, pn 24 n6, ps 26 s6, pn 28 n7, ps 30 s7, pn 32 n8, ps 34 s8, pn 36 n9, ps 38 s9, pn 40 n10, ps 42 s10, pn 44 n11, ps 46 s11, pn 48 n12, ps 50 s12, pn 52 51, pe 53] tl) = .ok (ld n1) (hp 54 3 [p0, p1, pn 4 n1, ps 6 s1, pn 8 n2, ps 10 s2, pn 12 n3, ps 14 s3, pn 16 n4, ps 18 s4, pn 20 n5, ps 22 s5, pn 24 n6, ps 26 s6, pn 28 n7, ps 30 s7, pn 32 n8, ps 34 s8, pn 36 n9, ps 38 s9, pn 40 n10, ps 42 s10, pn 44 n11, ps 46 s11, pn 48 n12, ps 50 s12, pn 52 51, pe 53] tl) := by
  rcases hn with rfl | rfl | rfl <;> rcases hs with rfl | rfl <;> kernel_rfl
theorem a12_c (hn : NN n1) : eQ (callF 101 14) (as1 (eV 2) (as1 (eC k_TERMS) as0)) [some (.obj 0), some (.int 0), some (ld n1), none, none] (hp 54 3 [p0, p1, pn 4 n1, ps 6 s1, pn 8 n2, ps 10 s2, pn 12 n3, ps 14 s3, pn 16 n4, ps 18 s4, pn 20 n5, ps 22 s5, pn 24 n6, ps 26 s6, pn 28 n7, ps 30 s7, pn 32 n8, ps 34 s8, pn 36 n9, ps 38 s9, pn 40 n10, ps 42 s10, pn 44 n11, ps 46 s11, pn 48 n12, ps 50 s12, pn 52 51, pe 53] tl) = .ok (.int 1) (hp 54 3 [p0, p1, pn 4 n1, ps 6 s1, pn 8 n2, ps 10 s2, pn 12 n3, ps 14 s3, pn 16 n4, ps 18 s4, pn 20 n5, ps 22 s5, pn 24 n6, ps 26 s6, pn 28 n7, ps 30 s7, pn 32 n8, ps 34 s8, pn 36 n9, ps 38 s9, pn 40 n10, ps 42 s10, pn 44 n11, ps 46 s11, pn 48 n12, ps 50 s12, pn 52 51, pe 53] tl) := by
  rcases hn with rfl | rfl | rfl <;> kernel_rfl
theorem a12_s1 (hs : SA s1) (hn : NN n2) (hz : SA s2) : whR (tS (callF 101)) (bS (callF 101)) (f + 1) [some (.obj 0), some (.int 0), some t, some (.int 1), x4] (hp 54 3 [p0, p1, pn 4 n1, ps 6 s1, pn 8 n2, ps 10 s2, pn 12 n3, ps 14 s3, pn 16 n4, ps 18 s4, pn 20 n5, ps 22 s5, pn 24 n6, ps 26 s6, pn 28 n7, ps 30 s7, pn 32 n8, ps 34 s8, pn 36 n9, ps 38 s9, pn 40 n10, ps 42 s10, pn 44 n11, ps 46 s11, pn 48 n12, ps 50 s12, pn 52 51, pe 53] tl) = whR (tS (callF 101)) (bS (callF 101)) f [some (.obj 0), some (.int 0), some (.tup [wS s1, t, ld n2]), some (.int 2), some (wS s1)] (hp 54 5 [p0, p1, pn 4 n1, ps 6 s1, pn 8 n2, ps 10 s2, pn 12 n3, ps 14 s3, pn 16 n4, ps 18 s4, pn 20 n5, ps 22 s5, pn 24 n6, ps 26 s6, pn 28 n7, ps 30 s7, pn 32 n8, ps 34 s8, pn 36 n9, ps 38 s9, pn 40 n10, ps 42 s10, pn 44 n11, ps 46 s11, pn 48 n12, ps 50 s12, pn 52 51, pe 53] tl) := by
  rcases hs with rfl | rfl <;> rcases hn with rfl | rfl | rfl <;> rcases hz with rfl | rfl <;> kernel_rfl
theorem a12_s2 (hs : SA s2) (hn : NN n3) (hz : SA s3) : whR (tS (callF 101)) (bS (callF 101)) (f + 1) [some (.obj 0), some (.int 0), some t, some (.int 2), x4] (hp 54 5 [p0, p1, pn 4 n1, ps 6 s1, pn 8 n2, ps 10 s2, pn 12 n3, ps 14 s3, pn 16 n4, ps 18 s4, pn 20 n5, ps 22 s5, pn 24 n6, ps 26 s6, pn 28 n7, ps 30 s7, pn 32 n8, ps 34 s8, pn 36 n9, ps 38 s9, pn 40 n10, ps 42 s10, pn 44 n11, ps 46 s11, pn 48 n12, ps 50 s12, pn 52 51, pe 53] tl) = whR (tS (callF 101)) (bS (callF 101)) f [some (.obj 0), some (.int 0), some (.tup [wS s2, t, ld n3]), some (.int 3), some (wS s2)] (hp 54 7 [p0, p1, pn 4 n1, ps 6 s1, pn 8 n2, ps 10 s2, pn 12 n3, ps 14 s3, pn 16 n4, ps 18 s4, pn 20 n5, ps 22 s5, pn 24 n6, ps 26 s6, pn 28 n7, ps 30 s7, pn 32 n8, ps 34 s8, pn 36 n9, ps 38 s9, pn 40 n10, ps 42 s10, pn 44 n11, ps 46 s11, pn 48 n12, ps 50 s12, pn 52 51, pe 53] tl) := by
  rcases hs with rfl | rfl <;> rcases hn with rfl | rfl | rfl <;> rcases hz with rfl | rfl <;> kernel_rfl
theorem a12_s3 (hs : SA s3) (hn : NN n4) (hz : SA s4) : whR (tS (callF 101)) (bS (callF 101)) (f + 1) [some (.obj 0), some (.int 0), some t, some (.int 3), x4] (hp 54 7 [p0, p1, pn 4 n1, ps 6 s1, pn 8 n2, ps 10 s2, pn 12 n3, ps 14 s3, pn 16 n4, ps 18 s4, pn 20 n5, ps 22 s5, pn 24 n6, ps 26 s6, pn 28 n7, ps 30 s7, pn 32 n8, ps 34 s8, pn 36 n9, ps 38 s9, pn 40 n10, ps 42 s10, pn 44 n11, ps 46 s11, pn 48 n12, ps 50 s12, pn 52 51, pe 53] tl) = whR (tS (callF 101)) (bS (callF 101)) f [some (.obj 0), some (.int 0), some (.tup [wS s3, t, ld n4]), some (.int 4), some (wS s3)] (hp 54 9 [p0, p1, pn 4 n1, ps 6 s1, pn 8 n2, ps 10 s2, pn 12 n3, ps 14 s3, pn 16 n4, ps 18 s4, pn 20 n5, ps 22 s5, pn 24 n6, ps 26 s6, pn 28 n7, ps 30 s7, pn 32 n8, ps 34 s8, pn 36 n9, ps 38 s9, pn 40 n10, ps 42 s10, pn 44 n11, ps 46 s11, pn 48 n12, ps 50 s12, pn 52 51, pe 53] tl) := by
  rcases hs with rfl | rfl <;> rcases hn with rfl | rfl | rfl <;> rcases hz with rfl | rfl <;> kernel_rfl
theorem a12_s4 (hs : SA s4) (hn : NN n5) (hz : SA s5) : whR (tS (callF 101)) (bS (callF 101)) (f + 1) [some (.obj 0), some (.int 0), some t, some (.int 4), x4] (hp 54 9 [p0, p1, pn 4 n1, ps 6 s1, pn 8 n2, ps 10 s2, pn 12 n3, ps 14 s3, pn 16 n4, ps 18 s4, pn 20 n5, ps 22 s5, pn 24 n6, ps 26 s6, pn 28 n7, ps 30 s7, pn 32 n8, ps 34 s8, pn 36 n9, ps 38 s9, pn 40 n10, ps 42 s10, pn 44 n11, ps 46 s11, pn 48 n12, ps 50 s12, pn 52 51, pe 53] tl) = whR (tS (callF 101)) (bS (callF 101)) f [some (.obj 0), some (.int 0), some (.tup [wS s4, t, ld n5]), some (.int 5), some (wS s4)] (hp 54 11 [p0, p1, pn 4 n1, ps 6 s1, pn 8 n2, ps 10 s2, pn 12 n3, ps 14 s3, pn 16 n4, ps 18 s4, pn 20 n5, ps 22 s5, pn 24 n6, ps 26 s6, pn 28 n7, ps 30 s7, pn 32 n8, ps 34 s8, pn 36 n9, ps 38 s9, pn 40 n10, ps 42 s10, pn 44 n11, ps 46 s11, pn 48 n12, ps 50 s12, pn 52 51, pe 53] tl) := by
  rcases hs with rfl | rfl <;> rcases hn with rfl | rfl | rfl <;> rcases hz with rfl | rfl <;> kernel_rfl
theorem a12_s5 (hs : SA s5) (hn : NN n6) (hz : SA s6) : whR (tS (callF 101)) (bS (callF 101)) (f + 1) [some (.obj 0), some (.int 0), some t, some (.int 5), x4] (hp 54 11 [p0, p1, pn 4 n1, ps 6 s1, pn 8 n2, ps 10 s2, pn 12 n3, ps 14 s3, pn 16 n4, ps 18 s4, pn 20 n5, ps 22 s5, pn 24 n6, ps 26 s6, pn 28 n7, ps 30 s7, pn 32 n8, ps 34 s8, pn 36 n9, ps 38 s9, pn 40 n10, ps 42 s10, pn 44 n11, ps 46 s11, pn 48 n12, ps 50 s12, pn 52 51, pe 53] tl) = whR (tS (callF 101)) (bS (callF 101)) f [some (.obj 0), some (.int 0), some (.tup [wS s5, t, ld n6]), some (.int 6), some (wS s5)] (hp 54 13 [p0, p1, pn 4 n1, ps 6 s1, pn 8 n2, ps 10 s2, pn 12 n3, ps 14 s3, pn 16 n4, ps 18 s4, pn 20 n5, ps 22 s5, pn 24 n6, ps 26 s6, pn 28 n7, ps 30 s7, pn 32 n8, ps 34 s8, pn 36 n9, ps 38 s9, pn 40 n10, ps 42 s10, pn 44 n11, ps 46 s11, pn 48 n12, ps 50 s12, pn 52 51, pe 53] tl) := by
  rcases hs with rfl | rfl <;> rcases hn with rfl | rfl | rfl <;> rcases hz with rfl | rfl <;> kernel_rfl
theorem a12_s6 (hs : SA s6) (hn : NN n7) (hz : SA s7) : whR (tS (callF 101)) (bS (callF 101)) (f + 1) [some (.obj 0), some (.int 0), some t, some (.int 6), x4] (hp 54 13 [p0, p1, pn 4 n1, ps 6 s1, pn 8 n2, ps 10 s2, pn 12 n3, ps 14 s3, pn 16 n4, ps 18 s4, pn 20 n5, ps 22 s5, pn 24 n6, ps 26 s6, pn 28 n7, ps 30 s7, pn 32 n8, ps 34 s8, pn 36 n9, ps 38 s9, pn 40 n10, ps 42 s10, pn 44 n11, ps 46 s11, pn 48 n12, ps 50 s12, pn 52 51, pe 53] tl) = whR (tS (callF 101)) (bS (callF 101)) f [some (.obj 0), some (.int 0), some (.tup [wS s6, t, ld n7]), some (.int 7), some (wS s6)] (hp 54 15 [p0, p1, pn 4 n1, ps 6 s1, pn 8 n2, ps 10 s2, pn 12 n3, ps 14 s3, pn 16 n4, ps 18 s4, pn 20 n5, ps 22 s5, pn 24 n6, ps 26 s6, pn 28 n7, ps 30 s7, pn 32 n8, ps 34 s8, pn 36 n9, ps 38 s9, pn 40 n10, ps 42 s10, pn 44 n11, ps 46 s11, pn 48 n12, ps 50 s12, pn 52 51, pe 53] tl) := by
  rcases hs with rfl | rfl <;> rcases hn with rfl | rfl | rfl <;> rcases hz with rfl | rfl <;> kernel_rfl
theorem a12_s7 (hs : SA s7) (hn : NN n8) (hz : SA s8) : whR (tS (callF 101)) (bS (callF 101)) (f + 1) [some (.obj 0), some (.int 0), some t, some (.int 7), x4] (hp 54 15 [p0, p1, pn 4 n1, ps 6 s1, pn 8 n2, ps 10 s2, pn 12 n3, ps 14 s3, pn 16 n4, ps 18 s4, pn 20 n5, ps 22 s5, pn 24 n6, ps 26 s6, pn 28 n7, ps 30 s7, pn 32 n8, ps 34 s8, pn 36 n9, ps 38 s9, pn 40 n10, ps 42 s10, pn 44 n11, ps 46 s11, pn 48 n12, ps 50 s12, pn 52 51, pe 53] tl) = whR (tS (callF 101)) (bS (callF 101)) f [some (.obj 0), some (.int 0), some (.tup [wS s7, t, ld n8]), some (.int 8), some (wS s7)] (hp 54 17 [p0, p1, pn 4 n1, ps 6 s1, pn 8 n2, ps 10 s2, pn 12 n3, ps 14 s3, pn 16 n4, ps 18 s4, pn 20 n5, ps 22 s5, pn 24 n6, ps 26 s6, pn 28 n7, ps 30 s7, pn 32 n8, ps 34 s8, pn 36 n9, ps 38 s9, pn 40 n10, ps 42 s10, pn 44 n11, ps 46 s11, pn 48 n12, ps 50 s12, pn 52 51, pe 53] tl) := by
  rcases hs with rfl | rfl <;> rcases hn with rfl | rfl | rfl <;> rcases hz with rfl | rfl <;> kernel_rfl
theorem a12_s8 (hs : SA s8) (hn : NN n9) (hz : SA s9) : whR (tS (callF 101)) (bS (callF 101)) (f + 1) [some (.obj 0), some (.int 0), some t, some (.int 8), x4] (hp 54 17 [p0, p1, pn 4 n1, ps 6 s1, pn 8 n2, ps 10 s2, pn 12 n3, ps 14 s3, pn 16 n4, ps 18 s4, pn 20 n5, ps 22 s5, pn 24 n6, ps 26 s6, pn 28 n7, ps 30 s7, pn 32 n8, ps 34 s8, pn 36 n9, ps 38 s9, pn 40 n10, ps 42 s10, pn 44 n11, ps 46 s11, pn 48 n12, ps 50 s12, pn 52 51, pe 53] tl) = whR (tS (callF 101)) (bS (callF 101)) f [some (.obj 0), some (.int 0), some (.tup [wS s8, t, ld n9]), some (.int 9), some (wS s8)] (hp 54 19 [p0, p1, pn 4 n1, ps 6 s1, pn 8 n2, ps 10 s2, pn 12 n3, ps 14 s3, pn 16 n4, ps 18 s4, pn 20 n5, ps 22 s5, pn 24 n6, ps 26 s6, pn 28 n7, ps 30 s7, pn 32 n8, ps 34 s8, pn 36 n9, ps 38 s9, pn 40 n10, ps 42 s10, pn 44 n11, ps 46 s11, pn 48 n12, ps 50 s12, pn 52 51, pe 53] tl) := by
  rcases hs with rfl | rfl <;> rcases hn with rfl | rfl | rfl <;> rcases hz with rfl | rfl <;> kernel_rfl
theorem a12_s9 (hs : SA s9) (hn : NN n10) (hz : SA s10) : whR (tS (callF 101)) (bS (callF 101)) (f + 1) [some (.obj 0), some (.int 0), some t, some (.int 9), x4] (hp 54 19 [p0, p1, pn 4 n1, ps 6 s1, pn 8 n2, ps 10 s2, pn 12 n3, ps 14 s3, pn 16 n4, ps 18 s4, pn 20 n5, ps 22 s5, pn 24 n6, ps 26 s6, pn 28 n7, ps 30 s7, pn 32 n8, ps 34 s8, pn 36 n9, ps 38 s9, pn 40 n10, ps 42 s10, pn 44 n11, ps 46 s11, pn 48 n12, ps 50 s12, pn 52 51, pe 53] tl) = whR (tS (callF 101)) (bS (callF 101)) f [some (.obj 0), some (.int 0), some (.tup [wS s9, t, ld n10]), some (.int 10), some (wS s9)] (hp 54 21 [p0, p1, pn 4 n1, ps 6 s1, pn 8 n2, ps 10 s2, pn 12 n3, ps 14 s3, pn 16 n4, ps 18 s4, pn 20 n5, ps 22 s5, pn 24 n6, ps 26 s6, pn 28 n7, ps 30 s7, pn 32 n8, ps 34 s8, pn 36 n9, ps 38 s9, pn 40 n10, ps 42 s10, pn 44 n11, ps 46 s11, pn 48 n12, ps 50 s12, pn 52 51, pe 53] tl) := by
  rcases hs with rfl | rfl <;> rcases hn with rfl | rfl | rfl <;> rcases hz with rfl | rfl <;> kernel_rfl
theorem a12_s10 (hs : SA s10) (hn : NN n11) (hz : SA s11) : whR (tS (callF 101)) (bS (callF 101)) (f + 1) [some (.obj 0), some (.int 0), some t, some (.int 10), x4] (hp 54 21 [p0, p1, pn 4 n1, ps 6 s1, pn 8 n2, ps 10 s2, pn 12 n3, ps 14 s3, pn 16 n4, ps 18 s4, pn 20 n5, ps 22 s5, pn 24 n6, ps 26 s6, pn 28 n7, ps 30 s7, pn 32 n8, ps 34 s8, pn 36 n9, ps 38 s9, pn 40 n10, ps 42 s10, pn 44 n11, ps 46 s11, pn 48 n12, ps 50 s12, pn 52 51, pe 53] tl) = whR (tS (callF 101)) (bS (callF 101)) f [some (.obj 0), some (.int 0), some (.tup [wS s10, t, ld n11]), some (.int 11), some (wS s10)] (hp 54 23 [p0, p1, pn 4 n1, ps 6 s1, pn 8 n2, ps 10 s2, pn 12 n3, ps 14 s3, pn 16 n4, ps 18 s4, pn 20 n5, ps 22 s5, pn 24 n6, ps 26 s6, pn 28 n7, ps 30 s7, pn 32 n8, ps 34 s8, pn 36 n9, ps 38 s9, pn 40 n10, ps 42 s10, pn 44 n11, ps 46 s11, pn 48 n12, ps 50 s12, pn 52 51, pe 53] tl) := by
  rcases hs with rfl | rfl <;> rcases hn with rfl | rfl | rfl <;> rcases hz with rfl | rfl <;> kernel_rfl
theorem a12_s11 (hs : SA s11) (hn : NN n12) (hz : SA s12) : whR (tS (callF 101)) (bS (callF 101)) (f + 1) [some (.obj 0), some (.int 0), some t, some (.int 11), x4] (hp 54 23 [p0, p1, pn 4 n1, ps 6 s1, pn 8 n2, ps 10 s2, pn 12 n3, ps 14 s3, pn 16 n4, ps 18 s4, pn 20 n5, ps 22 s5, pn 24 n6, ps 26 s6, pn 28 n7, ps 30 s7, pn 32 n8, ps 34 s8, pn 36 n9, ps 38 s9, pn 40 n10, ps 42 s10, pn 44 n11, ps 46 s11, pn 48 n12, ps 50 s12, pn 52 51, pe 53] tl) = whR (tS (callF 101)) (bS (callF 101)) f [some (.obj 0), some (.int 0), some (.tup [wS s11, t, ld n12]), some (.int 12), some (wS s11)] (hp 54 25 [p0, p1, pn 4 n1, ps 6 s1, pn 8 n2, ps 10 s2, pn 12 n3, ps 14 s3, pn 16 n4, ps 18 s4, pn 20 n5, ps 22 s5, pn 24 n6, ps 26 s6, pn 28 n7, ps 30 s7, pn 32 n8, ps 34 s8, pn 36 n9, ps 38 s9, pn 40 n10, ps 42 s10, pn 44 n11, ps 46 s11, pn 48 n12, ps 50 s12, pn 52 51, pe 53] tl) := by
  rcases hs with rfl | rfl <;> rcases hn with rfl | rfl | rfl <;> rcases hz with rfl | rfl <;> kernel_rfl
theorem a12_e : whR (tS (callF 101)) (bS (callF 101)) (f + 1) [some (.obj 0), some (.int 0), some t, some (.int 12), x4] (hp 54 25 [p0, p1, pn 4 n1, ps 6 s1, pn 8 n2, ps 10 s2, pn 12 n3, ps 14 s3, pn 16 n4, ps 18 s4, pn 20 n5, ps 22 s5, pn 24 n6, ps 26 s6, pn 28 n7, ps 30 s7, pn 32 n8, ps 34 s8, pn 36 n9, ps 38 s9, pn 40 n10, ps 42 s10, pn 44 n11, ps 46 s11, pn 48 n12, ps 50 s12, pn 52 51, pe 53] tl) = .nx [some (.obj 0), some (.int 0), some t, some (.int 12), x4] (hp 54 25 [p0, p1, pn 4 n1, ps 6 s1, pn 8 n2, ps 10 s2, pn 12 n3, ps 14 s3, pn 16 n4, ps 18 s4, pn 20 n5, ps 22 s5, pn 24 n6, ps 26 s6, pn 28 n7, ps 30 s7, pn 32 n8, ps 34 s8, pn 36 n9, ps 38 s9, pn 40 n10, ps 42 s10, pn 44 n11, ps 46 s11, pn 48 n12, ps 50 s12, pn 52 51, pe 53] tl) := by kernel_rfl
theorem a12_all (hn1 : NN n1) (hs1 : SA s1) (hn2 : NN n2) (hs2 : SA s2) (hn3 : NN n3) (hs3 : SA s3) (hn4 : NN n4) (hs4 : SA s4) (hn5 : NN n5) (hs5 : SA s5) (hn6 : NN n6) (hs6 : SA s6) (hn7 : NN n7) (hs7 : SA s7) (hn8 : NN n8) (hs8 : SA s8) (hn9 : NN n9) (hs9 : SA s9) (hn10 : NN n10) (hs10 : SA s10) (hn11 : NN n11) (hs11 : SA s11) (hn12 : NN n12) (hs12 : SA s12) : whR (tS (callF 101)) (bS (callF 101)) M [some (.obj 0), some (.int 0), some (ld n1), some (.int 1), none] (hp 54 3 [p0, p1, pn 4 n1, ps 6 s1, pn 8 n2, ps 10 s2, pn 12 n3, ps 14 s3, pn 16 n4, ps 18 s4, pn 20 n5, ps 22 s5, pn 24 n6, ps 26 s6, pn 28 n7, ps 30 s7, pn 32 n8, ps 34 s8, pn 36 n9, ps 38 s9, pn 40 n10, ps 42 s10, pn 44 n11, ps 46 s11, pn 48 n12, ps 50 s12, pn 52 51, pe 53] tl) = .nx [some (.obj 0), some (.int 0), some (.tup [wS s11, (.tup [wS s10, (.tup [wS s9, (.tup [wS s8, (.tup [wS s7, (.tup [wS s6, (.tup [wS s5, (.tup [wS s4, (.tup [wS s3, (.tup [wS s2, (.tup [wS s1, (ld n1), ld n2]), ld n3]), ld n4]), ld n5]), ld n6]), ld n7]), ld n8]), ld n9]), ld n10]), ld n11]), ld n12]), some (.int 12), some (wS s11)] (hp 54 25 [p0, p1, pn 4 n1, ps 6 s1, pn 8 n2, ps 10 s2, pn 12 n3, ps 14 s3, pn 16 n4, ps 18 s4, pn 20 n5, ps 22 s5, pn 24 n6, ps 26 s6, pn 28 n7, ps 30 s7, pn 32 n8, ps 34 s8, pn 36 n9, ps 38 s9, pn 40 n10, ps 42 s10, pn 44 n11, ps 46 s11, pn 48 n12, ps 50 s12, pn 52 51, pe 53] tl) :=
  (((((((((((a12_s1 (f := 999999) hs1 hn2 hs2).trans (a12_s2 (f := 999998) hs2 hn3 hs3)).trans (a12_s3 (f := 999997) hs3 hn4 hs4)).trans (a12_s4 (f := 999996) hs4 hn5 hs5)).trans (a12_s5 (f := 999995) hs5 hn6 hs6)).trans (a12_s6 (f := 999994) hs6 hn7 hs7)).trans (a12_s7 (f := 999993) hs7 hn8 hs8)).trans (a12_s8 (f := 999992) hs8 hn9 hs9)).trans (a12_s9 (f := 999991) hs9 hn10 hs10)).trans (a12_s10 (f := 999990) hs10 hn11 hs11)).trans (a12_s11 (f := 999989) hs11 hn12 hs12)).trans (a12_e (f := 999988))
theorem a12_r (hn1 : NN n1) (hs1 : SA s1) (hn2 : NN n2) (hs2 : SA s2) (hn3 : NN n3) (hs3 : SA s3) (hn4 : NN n4) (hs4 : SA s4) (hn5 : NN n5) (hs5 : SA s5) (hn6 : NN n6) (hs6 : SA s6) (hn7 : NN n7) (hs7 : SA s7) (hn8 : NN n8) (hs8 : SA s8) (hn9 : NN n9) (hs9 : SA s9) (hn10 : NN n10) (hs10 : SA s10) (hn11 : NN n11) (hs11 : SA s11) (hn12 : NN n12) (hs12 : SA s12) : c_41 (callF 101) [.obj 0, .int 0] (hp 54 2 [p0, p1, pn 4 n1, ps 6 s1, pn 8 n2, ps 10 s2, pn 12 n3, ps 14 s3, pn 16 n4, ps 18 s4, pn 20 n5, ps 22 s5, pn 24 n6, ps 26 s6, pn 28 n7, ps 30 s7, pn 32 n8, ps 34 s8, pn 36 n9, ps 38 s9, pn 40 n10, ps 42 s10, pn 44 n11, ps 46 s11, pn 48 n12, ps 50 s12, pn 52 51, pe 53] tl) = .ok (.tup [wS s11, (.tup [wS s10, (.tup [wS s9, (.tup [wS s8, (.tup [wS s7, (.tup [wS s6, (.tup [wS s5, (.tup [wS s4, (.tup [wS s3, (.tup [wS s2, (.tup [wS s1, (ld n1), ld n2]), ld n3]), ld n4]), ld n5]), ld n6]), ld n7]), ld n8]), ld n9]), ld n10]), ld n11]), ld n12]) (hp 54 25 [p0, p1, pn 4 n1, ps 6 s1, pn 8 n2, ps 10 s2, pn 12 n3, ps 14 s3, pn 16 n4, ps 18 s4, pn 20 n5, ps 22 s5, pn 24 n6, ps 26 s6, pn 28 n7, ps 30 s7, pn 32 n8, ps 34 s8, pn 36 n9, ps 38 s9, pn 40 n10, ps 42 s10, pn 44 n11, ps 46 s11, pn 48 n12, ps 50 s12, pn 52 51, pe 53] tl) := by
  have e0 : eB (callF 101 42) (as1 (eV 0) (as1 (eV 1) as0)) [some (.obj 0), some (.int 0), none, none, none] (hp 54 2 [p0, p1, pn 4 n1, ps 6 s1, pn 8 n2, ps 10 s2, pn 12 n3, ps 14 s3, pn 16 n4, ps 18 s4, pn 20 n5, ps 22 s5, pn 24 n6, ps 26 s6, pn 28 n7, ps 30 s7, pn 32 n8, ps 34 s8, pn 36 n9, ps 38 s9, pn 40 n10, ps 42 s10, pn 44 n11, ps 46 s11, pn 48 n12, ps 50 s12, pn 52 51, pe 53] tl) = .ok (ld n1) (hp 54 3 [p0, p1, pn 4 n1, ps 6 s1, pn 8 n2, ps 10 s2, pn 12 n3, ps 14 s3, pn 16 n4, ps 18 s4, pn 20 n5, ps 22 s5, pn 24 n6, ps 26 s6, pn 28 n7, ps 30 s7, pn 32 n8, ps 34 s8, pn 36 n9, ps 38 s9, pn 40 n10, ps 42 s10, pn 44 n11, ps 46 s11, pn 48 n12, ps 50 s12, pn 52 51, pe 53] tl) := evB (xs := [.obj 0, .int 0]) rfl (a12_1 hn1 hs1)
  have e1 : b_41 (callF 101) [some (.obj 0), some (.int 0), none, none, none] (hp 54 2 [p0, p1, pn 4 n1, ps 6 s1, pn 8 n2, ps 10 s2, pn 12 n3, ps 14 s3, pn 16 n4, ps 18 s4, pn 20 n5, ps 22 s5, pn 24 n6, ps 26 s6, pn 28 n7, ps 30 s7, pn 32 n8, ps 34 s8, pn 36 n9, ps 38 s9, pn 40 n10, ps 42 s10, pn 44 n11, ps 46 s11, pn 48 n12, ps 50 s12, pn 52 51, pe 53] tl) = .rt (.tup [wS s11, (.tup [wS s10, (.tup [wS s9, (.tup [wS s8, (.tup [wS s7, (.tup [wS s6, (.tup [wS s5, (.tup [wS s4, (.tup [wS s3, (.tup [wS s2, (.tup [wS s1, (ld n1), ld n2]), ld n3]), ld n4]), ld n5]), ld n6]), ld n7]), ld n8]), ld n9]), ld n10]), ld n11]), ld n12]) (hp 54 25 [p0, p1, pn 4 n1, ps 6 s1, pn 8 n2, ps 10 s2, pn 12 n3, ps 14 s3, pn 16 n4, ps 18 s4, pn 20 n5, ps 22 s5, pn 24 n6, ps 26 s6, pn 28 n7, ps 30 s7, pn 32 n8, ps 34 s8, pn 36 n9, ps 38 s9, pn 40 n10, ps 42 s10, pn 44 n11, ps 46 s11, pn 48 n12, ps 50 s12, pn 52 51, pe 53] tl) :=
    (sSq_nx (evSet e0)).trans ((sSq_nx (evSet (a12_c hn1))).trans ((sSq_nx (a12_all hn1 hs1 hn2 hs2 hn3 hs3 hn4 hs4 hn5 hs5 hn6 hs6 hn7 hs7 hn8 hs8 hn9 hs9 hn10 hs10 hn11 hs11 hn12 hs12)).trans rfl))
  exact fnR_of (np := 2) (n := 5) (xs := [.obj 0, .int 0]) rfl e1 rfl
theorem a12_p : D.pure (.tup [wS s11, (.tup [wS s10, (.tup [wS s9, (.tup [wS s8, (.tup [wS s7, (.tup [wS s6, (.tup [wS s5, (.tup [wS s4, (.tup [wS s3, (.tup [wS s2, (.tup [wS s1, (ld n1), ld n2]), ld n3]), ld n4]), ld n5]), ld n6]), ld n7]), ld n8]), ld n9]), ld n10]), ld n11]), ld n12]) = true := (tup3 rfl (tup3 rfl (tup3 rfl (tup3 rfl (tup3 rfl (tup3 rfl (tup3 rfl (tup3 rfl (tup3 rfl (tup3 rfl (tup3 rfl (ld_pure _) (ld_pure _)) (ld_pure _)) (ld_pure _)) (ld_pure _)) (ld_pure _)) (ld_pure _)) (ld_pure _)) (ld_pure _)) (ld_pure _)) (ld_pure _)) (ld_pure _))
theorem a12_q (hn1 : NN n1) (hs1 : SA s1) (hn2 : NN n2) (hs2 : SA s2) (hn3 : NN n3) (hs3 : SA s3) (hn4 : NN n4) (hs4 : SA s4) (hn5 : NN n5) (hs5 : SA s5) (hn6 : NN n6) (hs6 : SA s6) (hn7 : NN n7) (hs7 : SA s7) (hn8 : NN n8) (hs8 : SA s8) (hn9 : NN n9) (hs9 : SA s9) (hn10 : NN n10) (hs10 : SA s10) (hn11 : NN n11) (hs11 : SA s11) (hn12 : NN n12) (hs12 : SA s12) : c_41 (callF 101) [.obj 0, .int 0] (hp 54 2 [p0, p1, pn 4 n1, ps 6 s1, pn 8 n2, ps 10 s2, pn 12 n3, ps 14 s3, pn 16 n4, ps 18 s4, pn 20 n5, ps 22 s5, pn 24 n6, ps 26 s6, pn 28 n7, ps 30 s7, pn 32 n8, ps 34 s8, pn 36 n9, ps 38 s9, pn 40 n10, ps 42 s10, pn 44 n11, ps 46 s11, pn 48 n12, ps 50 s12, pn 52 51, pe 53] tl) = .ok (.tup [wS s11, (.tup [wS s10, (.tup [wS s9, (.tup [wS s8, (.tup [wS s7, (.tup [wS s6, (.tup [wS s5, (.tup [wS s4, (.tup [wS s3, (.tup [wS s2, (.tup [wS s1, (ld n1), ld n2]), ld n3]), ld n4]), ld n5]), ld n6]), ld n7]), ld n8]), ld n9]), ld n10]), ld n11]), ld n12]) (hp 54 25 [p0, p1, pn 4 n1, ps 6 s1, pn 8 n2, ps 10 s2, pn 12 n3, ps 14 s3, pn 16 n4, ps 18 s4, pn 20 n5, ps 22 s5, pn 24 n6, ps 26 s6, pn 28 n7, ps 30 s7, pn 32 n8, ps 34 s8, pn 36 n9, ps 38 s9, pn 40 n10, ps 42 s10, pn 44 n11, ps 46 s11, pn 48 n12, ps 50 s12, pn 52 51, pe 53] tl) := a12_r hn1 hs1 hn2 hs2 hn3 hs3 hn4 hs4 hn5 hs5 hn6 hs6 hn7 hs7 hn8 hs8 hn9 hs9 hn10 hs10 hn11 hs11 hn12 hs12
theorem a12_51 (hn1 : NN n1) (hs1 : SA s1) (hn2 : NN n2) (hs2 : SA s2) (hn3 : NN n3) (hs3 : SA s3) (hn4 : NN n4) (hs4 : SA s4) (hn5 : NN n5) (hs5 : SA s5) (hn6 : NN n6) (hs6 : SA s6) (hn7 : NN n7) (hs7 : SA s7) (hn8 : NN n8) (hs8 : SA s8) (hn9 : NN n9) (hs9 : SA s9) (hn10 : NN n10) (hs10 : SA s10) (hn11 : NN n11) (hs11 : SA s11) (hn12 : NN n12) (hs12 : SA s12) : c_51 (callF 102) [.obj 0] (hp 54 0 [p0, p1, pn 4 n1, ps 6 s1, pn 8 n2, ps 10 s2, pn 12 n3, ps 14 s3, pn 16 n4, ps 18 s4, pn 20 n5, ps 22 s5, pn 24 n6, ps 26 s6, pn 28 n7, ps 30 s7, pn 32 n8, ps 34 s8, pn 36 n9, ps 38 s9, pn 40 n10, ps 42 s10, pn 44 n11, ps 46 s11, pn 48 n12, ps 50 s12, pn 52 51, pe 53] tl) = .ok (.tup [.str [110, 117, 109, 98, 101, 114], .str [113], (.tup [wS s11, (.tup [wS s10, (.tup [wS s9, (.tup [wS s8, (.tup [wS s7, (.tup [wS s6, (.tup [wS s5, (.tup [wS s4, (.tup [wS s3, (.tup [wS s2, (.tup [wS s1, (ld n1), ld n2]), ld n3]), ld n4]), ld n5]), ld n6]), ld n7]), ld n8]), ld n9]), ld n10]), ld n11]), ld n12])]) (hp 54 25 [p0, p1, pn 4 n1, ps 6 s1, pn 8 n2, ps 10 s2, pn 12 n3, ps 14 s3, pn 16 n4, ps 18 s4, pn 20 n5, ps 22 s5, pn 24 n6, ps 26 s6, pn 28 n7, ps 30 s7, pn 32 n8, ps 34 s8, pn 36 n9, ps 38 s9, pn 40 n10, ps 42 s10, pn 44 n11, ps 46 s11, pn 48 n12, ps 50 s12, pn 52 51, pe 53] tl) := by
  have g1 : sSet 1 (eMt 1 (callF 102 39) (eV 0) as0) [some (.obj 0), none, none] (hp 54 0 [p0, p1, pn 4 n1, ps 6 s1, pn 8 n2, ps 10 s2, pn 12 n3, ps 14 s3, pn 16 n4, ps 18 s4, pn 20 n5, ps 22 s5, pn 24 n6, ps 26 s6, pn 28 n7, ps 30 s7, pn 32 n8, ps 34 s8, pn 36 n9, ps 38 s9, pn 40 n10, ps 42 s10, pn 44 n11, ps 46 s11, pn 48 n12, ps 50 s12, pn 52 51, pe 53] tl) = .nx [some (.obj 0), some (.str [113]), none] (hp 54 1 [p0, p1, pn 4 n1, ps 6 s1, pn 8 n2, ps 10 s2, pn 12 n3, ps 14 s3, pn 16 n4, ps 18 s4, pn 20 n5, ps 22 s5, pn 24 n6, ps 26 s6, pn 28 n7, ps 30 s7, pn 32 n8, ps 34 s8, pn 36 n9, ps 38 s9, pn 40 n10, ps 42 s10, pn 44 n11, ps 46 s11, pn 48 n12, ps 50 s12, pn 52 51, pe 53] tl) := by kernel_rfl
  have g2 : sExp (eMt 1 (callF 102 37) (eV 0) (as1 (eC (.str [61])) as0)) [some (.obj 0), some (.str [113]), none] (hp 54 1 [p0, p1, pn 4 n1, ps 6 s1, pn 8 n2, ps 10 s2, pn 12 n3, ps 14 s3, pn 16 n4, ps 18 s4, pn 20 n5, ps 22 s5, pn 24 n6, ps 26 s6, pn 28 n7, ps 30 s7, pn 32 n8, ps 34 s8, pn 36 n9, ps 38 s9, pn 40 n10, ps 42 s10, pn 44 n11, ps 46 s11, pn 48 n12, ps 50 s12, pn 52 51, pe 53] tl) = .nx [some (.obj 0), some (.str [113]), none] (hp 54 2 [p0, p1, pn 4 n1, ps 6 s1, pn 8 n2, ps 10 s2, pn 12 n3, ps 14 s3, pn 16 n4, ps 18 s4, pn 20 n5, ps 22 s5, pn 24 n6, ps 26 s6, pn 28 n7, ps 30 s7, pn 32 n8, ps 34 s8, pn 36 n9, ps 38 s9, pn 40 n10, ps 42 s10, pn 44 n11, ps 46 s11, pn 48 n12, ps 50 s12, pn 52 51, pe 53] tl) := by kernel_rfl
  have g3 : sSet 2 (eMt 1 (callF 102 34) (eV 0) as0) [some (.obj 0), some (.str [113]), none] (hp 54 2 [p0, p1, pn 4 n1, ps 6 s1, pn 8 n2, ps 10 s2, pn 12 n3, ps 14 s3, pn 16 n4, ps 18 s4, pn 20 n5, ps 22 s5, pn 24 n6, ps 26 s6, pn 28 n7, ps 30 s7, pn 32 n8, ps 34 s8, pn 36 n9, ps 38 s9, pn 40 n10, ps 42 s10, pn 44 n11, ps 46 s11, pn 48 n12, ps 50 s12, pn 52 51, pe 53] tl) = .nx [some (.obj 0), some (.str [113]), some (.str [n1])] (hp 54 2 [p0, p1, pn 4 n1, ps 6 s1, pn 8 n2, ps 10 s2, pn 12 n3, ps 14 s3, pn 16 n4, ps 18 s4, pn 20 n5, ps 22 s5, pn 24 n6, ps 26 s6, pn 28 n7, ps 30 s7, pn 32 n8, ps 34 s8, pn 36 n9, ps 38 s9, pn 40 n10, ps 42 s10, pn 44 n11, ps 46 s11, pn 48 n12, ps 50 s12, pn 52 51, pe 53] tl) := by kernel_rfl
  have g4 : tO (tB1 (e2 (oEq true) (eMt 1 (callF 102 33) (eV 0) as0) (eC (.str [119, 111, 114, 100])))) (tB1 (e1 (oInD true d_FIGURE_PARTS) (eV 2))) [some (.obj 0), some (.str [113]), some (.str [n1])] (hp 54 2 [p0, p1, pn 4 n1, ps 6 s1, pn 8 n2, ps 10 s2, pn 12 n3, ps 14 s3, pn 16 n4, ps 18 s4, pn 20 n5, ps 22 s5, pn 24 n6, ps 26 s6, pn 28 n7, ps 30 s7, pn 32 n8, ps 34 s8, pn 36 n9, ps 38 s9, pn 40 n10, ps 42 s10, pn 44 n11, ps 46 s11, pn 48 n12, ps 50 s12, pn 52 51, pe 53] tl) = .ok true (hp 54 2 [p0, p1, pn 4 n1, ps 6 s1, pn 8 n2, ps 10 s2, pn 12 n3, ps 14 s3, pn 16 n4, ps 18 s4, pn 20 n5, ps 22 s5, pn 24 n6, ps 26 s6, pn 28 n7, ps 30 s7, pn 32 n8, ps 34 s8, pn 36 n9, ps 38 s9, pn 40 n10, ps 42 s10, pn 44 n11, ps 46 s11, pn 48 n12, ps 50 s12, pn 52 51, pe 53] tl) := by
    rcases hn1 with rfl | rfl | rfl <;> kernel_rfl
  have g5 : eTup (as1 (eC (.str [110, 117, 109, 98, 101, 114])) (as1 (eV 1) (as1 (eB (callF 102 41) (as1 (eV 0) (as1 (eC (.int 0)) as0))) as0))) [some (.obj 0), some (.str [113]), some (.str [n1])] (hp 54 2 [p0, p1, pn 4 n1, ps 6 s1, pn 8 n2, ps 10 s2, pn 12 n3, ps 14 s3, pn 16 n4, ps 18 s4, pn 20 n5, ps 22 s5, pn 24 n6, ps 26 s6, pn 28 n7, ps 30 s7, pn 32 n8, ps 34 s8, pn 36 n9, ps 38 s9, pn 40 n10, ps 42 s10, pn 44 n11, ps 46 s11, pn 48 n12, ps 50 s12, pn 52 51, pe 53] tl) = .ok (.tup [.str [110, 117, 109, 98, 101, 114], .str [113], (.tup [wS s11, (.tup [wS s10, (.tup [wS s9, (.tup [wS s8, (.tup [wS s7, (.tup [wS s6, (.tup [wS s5, (.tup [wS s4, (.tup [wS s3, (.tup [wS s2, (.tup [wS s1, (ld n1), ld n2]), ld n3]), ld n4]), ld n5]), ld n6]), ld n7]), ld n8]), ld n9]), ld n10]), ld n11]), ld n12])]) (hp 54 25 [p0, p1, pn 4 n1, ps 6 s1, pn 8 n2, ps 10 s2, pn 12 n3, ps 14 s3, pn 16 n4, ps 18 s4, pn 20 n5, ps 22 s5, pn 24 n6, ps 26 s6, pn 28 n7, ps 30 s7, pn 32 n8, ps 34 s8, pn 36 n9, ps 38 s9, pn 40 n10, ps 42 s10, pn 44 n11, ps 46 s11, pn 48 n12, ps 50 s12, pn 52 51, pe 53] tl) := evTup (eva1 rfl (eva1 rfl (eva1 (evB (op := callF 102 41) (xs := [.obj 0, .int 0]) rfl (a12_q hn1 hs1 hn2 hs2 hn3 hs3 hn4 hs4 hn5 hs5 hn6 hs6 hn7 hs7 hn8 hs8 hn9 hs9 hn10 hs10 hn11 hs11 hn12 hs12)) rfl))) (show 3 ≤ M by unfold M; omega)
  have g6 : b_51 (callF 102) [some (.obj 0), none, none] (hp 54 0 [p0, p1, pn 4 n1, ps 6 s1, pn 8 n2, ps 10 s2, pn 12 n3, ps 14 s3, pn 16 n4, ps 18 s4, pn 20 n5, ps 22 s5, pn 24 n6, ps 26 s6, pn 28 n7, ps 30 s7, pn 32 n8, ps 34 s8, pn 36 n9, ps 38 s9, pn 40 n10, ps 42 s10, pn 44 n11, ps 46 s11, pn 48 n12, ps 50 s12, pn 52 51, pe 53] tl) = .rt (.tup [.str [110, 117, 109, 98, 101, 114], .str [113], (.tup [wS s11, (.tup [wS s10, (.tup [wS s9, (.tup [wS s8, (.tup [wS s7, (.tup [wS s6, (.tup [wS s5, (.tup [wS s4, (.tup [wS s3, (.tup [wS s2, (.tup [wS s1, (ld n1), ld n2]), ld n3]), ld n4]), ld n5]), ld n6]), ld n7]), ld n8]), ld n9]), ld n10]), ld n11]), ld n12])]) (hp 54 25 [p0, p1, pn 4 n1, ps 6 s1, pn 8 n2, ps 10 s2, pn 12 n3, ps 14 s3, pn 16 n4, ps 18 s4, pn 20 n5, ps 22 s5, pn 24 n6, ps 26 s6, pn 28 n7, ps 30 s7, pn 32 n8, ps 34 s8, pn 36 n9, ps 38 s9, pn 40 n10, ps 42 s10, pn 44 n11, ps 46 s11, pn 48 n12, ps 50 s12, pn 52 51, pe 53] tl) :=
    (sSq_nx g1).trans ((sSq_nx g2).trans ((sSq_nx g3).trans (sSq_rt ((sIf_tt g4).trans (sRet_of g5)))))
  exact fnR_of (np := 1) (n := 3) (xs := [.obj 0]) rfl g6 rfl
theorem a12_55 (hn1 : NN n1) (hs1 : SA s1) (hn2 : NN n2) (hs2 : SA s2) (hn3 : NN n3) (hs3 : SA s3) (hn4 : NN n4) (hs4 : SA s4) (hn5 : NN n5) (hs5 : SA s5) (hn6 : NN n6) (hs6 : SA s6) (hn7 : NN n7) (hs7 : SA s7) (hn8 : NN n8) (hs8 : SA s8) (hn9 : NN n9) (hs9 : SA s9) (hn10 : NN n10) (hs10 : SA s10) (hn11 : NN n11) (hs11 : SA s11) (hn12 : NN n12) (hs12 : SA s12) : c_55 (callF 103) [.obj 0] (hp 54 0 [p0, p1, pn 4 n1, ps 6 s1, pn 8 n2, ps 10 s2, pn 12 n3, ps 14 s3, pn 16 n4, ps 18 s4, pn 20 n5, ps 22 s5, pn 24 n6, ps 26 s6, pn 28 n7, ps 30 s7, pn 32 n8, ps 34 s8, pn 36 n9, ps 38 s9, pn 40 n10, ps 42 s10, pn 44 n11, ps 46 s11, pn 48 n12, ps 50 s12, pn 52 51, pe 53] tl) = .exc 3 [.int 50] (hp 54 25 [p0, p1, pn 4 n1, ps 6 s1, pn 8 n2, ps 10 s2, pn 12 n3, ps 14 s3, pn 16 n4, ps 18 s4, pn 20 n5, ps 22 s5, pn 24 n6, ps 26 s6, pn 28 n7, ps 30 s7, pn 32 n8, ps 34 s8, pn 36 n9, ps 38 s9, pn 40 n10, ps 42 s10, pn 44 n11, ps 46 s11, pn 48 n12, ps 50 s12, pn 52 51, pe 53] tl) := by
  have g1 : tV (eMt 1 (callF 103 35) (eV 0) (as1 (eC (.str [97, 115, 107])) as0)) [some (.obj 0), none] (hp 54 0 [p0, p1, pn 4 n1, ps 6 s1, pn 8 n2, ps 10 s2, pn 12 n3, ps 14 s3, pn 16 n4, ps 18 s4, pn 20 n5, ps 22 s5, pn 24 n6, ps 26 s6, pn 28 n7, ps 30 s7, pn 32 n8, ps 34 s8, pn 36 n9, ps 38 s9, pn 40 n10, ps 42 s10, pn 44 n11, ps 46 s11, pn 48 n12, ps 50 s12, pn 52 51, pe 53] tl) = .ok false (hp 54 0 [p0, p1, pn 4 n1, ps 6 s1, pn 8 n2, ps 10 s2, pn 12 n3, ps 14 s3, pn 16 n4, ps 18 s4, pn 20 n5, ps 22 s5, pn 24 n6, ps 26 s6, pn 28 n7, ps 30 s7, pn 32 n8, ps 34 s8, pn 36 n9, ps 38 s9, pn 40 n10, ps 42 s10, pn 44 n11, ps 46 s11, pn 48 n12, ps 50 s12, pn 52 51, pe 53] tl) := by kernel_rfl
  have g2 : tV (eMt 1 (callF 103 35) (eV 0) (as1 (eC (.str [116, 101, 108, 108])) as0)) [some (.obj 0), none] (hp 54 0 [p0, p1, pn 4 n1, ps 6 s1, pn 8 n2, ps 10 s2, pn 12 n3, ps 14 s3, pn 16 n4, ps 18 s4, pn 20 n5, ps 22 s5, pn 24 n6, ps 26 s6, pn 28 n7, ps 30 s7, pn 32 n8, ps 34 s8, pn 36 n9, ps 38 s9, pn 40 n10, ps 42 s10, pn 44 n11, ps 46 s11, pn 48 n12, ps 50 s12, pn 52 51, pe 53] tl) = .ok false (hp 54 0 [p0, p1, pn 4 n1, ps 6 s1, pn 8 n2, ps 10 s2, pn 12 n3, ps 14 s3, pn 16 n4, ps 18 s4, pn 20 n5, ps 22 s5, pn 24 n6, ps 26 s6, pn 28 n7, ps 30 s7, pn 32 n8, ps 34 s8, pn 36 n9, ps 38 s9, pn 40 n10, ps 42 s10, pn 44 n11, ps 46 s11, pn 48 n12, ps 50 s12, pn 52 51, pe 53] tl) := by kernel_rfl
  have g3 : sSet 1 (eB (callF 103 51) (as1 (eV 0) as0)) [some (.obj 0), none] (hp 54 0 [p0, p1, pn 4 n1, ps 6 s1, pn 8 n2, ps 10 s2, pn 12 n3, ps 14 s3, pn 16 n4, ps 18 s4, pn 20 n5, ps 22 s5, pn 24 n6, ps 26 s6, pn 28 n7, ps 30 s7, pn 32 n8, ps 34 s8, pn 36 n9, ps 38 s9, pn 40 n10, ps 42 s10, pn 44 n11, ps 46 s11, pn 48 n12, ps 50 s12, pn 52 51, pe 53] tl) = .nx [some (.obj 0), some (.tup [.str [110, 117, 109, 98, 101, 114], .str [113], (.tup [wS s11, (.tup [wS s10, (.tup [wS s9, (.tup [wS s8, (.tup [wS s7, (.tup [wS s6, (.tup [wS s5, (.tup [wS s4, (.tup [wS s3, (.tup [wS s2, (.tup [wS s1, (ld n1), ld n2]), ld n3]), ld n4]), ld n5]), ld n6]), ld n7]), ld n8]), ld n9]), ld n10]), ld n11]), ld n12])])] (hp 54 25 [p0, p1, pn 4 n1, ps 6 s1, pn 8 n2, ps 10 s2, pn 12 n3, ps 14 s3, pn 16 n4, ps 18 s4, pn 20 n5, ps 22 s5, pn 24 n6, ps 26 s6, pn 28 n7, ps 30 s7, pn 32 n8, ps 34 s8, pn 36 n9, ps 38 s9, pn 40 n10, ps 42 s10, pn 44 n11, ps 46 s11, pn 48 n12, ps 50 s12, pn 52 51, pe 53] tl) := evSet (evB (xs := [.obj 0]) rfl (a12_51 hn1 hs1 hn2 hs2 hn3 hs3 hn4 hs4 hn5 hs5 hn6 hs6 hn7 hs7 hn8 hs8 hn9 hs9 hn10 hs10 hn11 hs11 hn12 hs12))
  have g4 : ∀ d : D, sExp (eMt 1 (callF 103 38) (eV 0) as0) [some (.obj 0), some d] (hp 54 25 [p0, p1, pn 4 n1, ps 6 s1, pn 8 n2, ps 10 s2, pn 12 n3, ps 14 s3, pn 16 n4, ps 18 s4, pn 20 n5, ps 22 s5, pn 24 n6, ps 26 s6, pn 28 n7, ps 30 s7, pn 32 n8, ps 34 s8, pn 36 n9, ps 38 s9, pn 40 n10, ps 42 s10, pn 44 n11, ps 46 s11, pn 48 n12, ps 50 s12, pn 52 51, pe 53] tl) = .exc 3 [.int 50] [some (.obj 0), some d] (hp 54 25 [p0, p1, pn 4 n1, ps 6 s1, pn 8 n2, ps 10 s2, pn 12 n3, ps 14 s3, pn 16 n4, ps 18 s4, pn 20 n5, ps 22 s5, pn 24 n6, ps 26 s6, pn 28 n7, ps 30 s7, pn 32 n8, ps 34 s8, pn 36 n9, ps 38 s9, pn 40 n10, ps 42 s10, pn 44 n11, ps 46 s11, pn 48 n12, ps 50 s12, pn 52 51, pe 53] tl) := by
    intro d
    rcases hs12 with rfl | rfl <;> kernel_rfl
  have g5 : b_55 (callF 103) [some (.obj 0), none] (hp 54 0 [p0, p1, pn 4 n1, ps 6 s1, pn 8 n2, ps 10 s2, pn 12 n3, ps 14 s3, pn 16 n4, ps 18 s4, pn 20 n5, ps 22 s5, pn 24 n6, ps 26 s6, pn 28 n7, ps 30 s7, pn 32 n8, ps 34 s8, pn 36 n9, ps 38 s9, pn 40 n10, ps 42 s10, pn 44 n11, ps 46 s11, pn 48 n12, ps 50 s12, pn 52 51, pe 53] tl) = .exc 3 [.int 50] [some (.obj 0), some (.tup [.str [110, 117, 109, 98, 101, 114], .str [113], (.tup [wS s11, (.tup [wS s10, (.tup [wS s9, (.tup [wS s8, (.tup [wS s7, (.tup [wS s6, (.tup [wS s5, (.tup [wS s4, (.tup [wS s3, (.tup [wS s2, (.tup [wS s1, (ld n1), ld n2]), ld n3]), ld n4]), ld n5]), ld n6]), ld n7]), ld n8]), ld n9]), ld n10]), ld n11]), ld n12])])] (hp 54 25 [p0, p1, pn 4 n1, ps 6 s1, pn 8 n2, ps 10 s2, pn 12 n3, ps 14 s3, pn 16 n4, ps 18 s4, pn 20 n5, ps 22 s5, pn 24 n6, ps 26 s6, pn 28 n7, ps 30 s7, pn 32 n8, ps 34 s8, pn 36 n9, ps 38 s9, pn 40 n10, ps 42 s10, pn 44 n11, ps 46 s11, pn 48 n12, ps 50 s12, pn 52 51, pe 53] tl) :=
    (sSq_nx ((sIf_ff g1).trans ((sIf_ff g2).trans g3))).trans (sSq_exc (g4 _))
  exact fnR_exc (np := 1) (n := 2) (xs := [.obj 0]) rfl g5
end
end T

end

section
set_option Elab.async false
set_option linter.all false
set_option maxRecDepth 100000
set_option maxHeartbeats 4000000
namespace T
open PySem Sh

section
variable {n1 s1 n2 s2 n3 s3 n4 s4 n5 s5 n6 s6 n7 s7 n8 s8 n9 s9 n10 s10 n11 s11 n12 s12 f : Nat} {x4 : Option D} {t : D} {tl : Hd}
theorem b12_1 (hn : NN n1) : c_43 (callF 99) [.obj 0, .int 0] (hp 54 2 [p0, p1, pn 4 n1, ps 6 s1, pn 8 n2, ps 10 s2, pn 12 n3, ps 14 s3, pn 16 n4, ps 18 s4, pn 20 n5, ps 22 s5, pn 24 n6, ps 26 s6, pn 28 n7, ps 30 s7, pn 32 n8, ps 34 s8, pn 36 n9, ps 38 s9, pn 40 n10, ps 42 s10, pn 44 n11, ps 46 s11, pn 48 n12, ps 50 s12, pn 52 51, pe 53] tl) = .ok (ld n1) (hp 54 3 [p0, p1, pn 4 n1, ps 6 s1, pn 8 n2, ps 10 s2, pn 12 n3, ps 14 s3, pn 16 n4, ps 18 s4, pn 20 n5, ps 22 s5, pn 24 n6, ps 26 s6, pn 28 n7, ps 30 s7, pn 32 n8, ps 34 s8, pn 36 n9, ps 38 s9, pn 40 n10, ps 42 s10, pn 44 n11, ps 46 s11, pn 48 n12, ps 50 s12, pn 52 51, pe 53] tl) := by
  rcases hn with rfl | rfl | rfl <;> kernel_rfl
theorem b12_c (hn : NN n1) : eQ (callF 100 14) (as1 (eV 2) (as1 (eC k_FACTORS) as0)) [some (.obj 0), some (.int 0), some (ld n1), none, none] (hp 54 3 [p0, p1, pn 4 n1, ps 6 s1, pn 8 n2, ps 10 s2, pn 12 n3, ps 14 s3, pn 16 n4, ps 18 s4, pn 20 n5, ps 22 s5, pn 24 n6, ps 26 s6, pn 28 n7, ps 30 s7, pn 32 n8, ps 34 s8, pn 36 n9, ps 38 s9, pn 40 n10, ps 42 s10, pn 44 n11, ps 46 s11, pn 48 n12, ps 50 s12, pn 52 51, pe 53] tl) = .ok (.int 1) (hp 54 3 [p0, p1, pn 4 n1, ps 6 s1, pn 8 n2, ps 10 s2, pn 12 n3, ps 14 s3, pn 16 n4, ps 18 s4, pn 20 n5, ps 22 s5, pn 24 n6, ps 26 s6, pn 28 n7, ps 30 s7, pn 32 n8, ps 34 s8, pn 36 n9, ps 38 s9, pn 40 n10, ps 42 s10, pn 44 n11, ps 46 s11, pn 48 n12, ps 50 s12, pn 52 51, pe 53] tl) := by
  rcases hn with rfl | rfl | rfl <;> kernel_rfl
theorem b12_s1 (hs : SB s1) (hn : NN n2) : whR (tP (callF 100)) (bP (callF 100)) (f + 1) [some (.obj 0), some (.int 0), some t, some (.int 1), x4] (hp 54 3 [p0, p1, pn 4 n1, ps 6 s1, pn 8 n2, ps 10 s2, pn 12 n3, ps 14 s3, pn 16 n4, ps 18 s4, pn 20 n5, ps 22 s5, pn 24 n6, ps 26 s6, pn 28 n7, ps 30 s7, pn 32 n8, ps 34 s8, pn 36 n9, ps 38 s9, pn 40 n10, ps 42 s10, pn 44 n11, ps 46 s11, pn 48 n12, ps 50 s12, pn 52 51, pe 53] tl) = whR (tP (callF 100)) (bP (callF 100)) f [some (.obj 0), some (.int 0), some (.tup [wS s1, t, ld n2]), some (.int 2), some (wS s1)] (hp 54 5 [p0, p1, pn 4 n1, ps 6 s1, pn 8 n2, ps 10 s2, pn 12 n3, ps 14 s3, pn 16 n4, ps 18 s4, pn 20 n5, ps 22 s5, pn 24 n6, ps 26 s6, pn 28 n7, ps 30 s7, pn 32 n8, ps 34 s8, pn 36 n9, ps 38 s9, pn 40 n10, ps 42 s10, pn 44 n11, ps 46 s11, pn 48 n12, ps 50 s12, pn 52 51, pe 53] tl) := by
  rcases hs with rfl | rfl <;> rcases hn with rfl | rfl | rfl <;> kernel_rfl
theorem b12_s2 (hs : SB s2) (hn : NN n3) : whR (tP (callF 100)) (bP (callF 100)) (f + 1) [some (.obj 0), some (.int 0), some t, some (.int 2), x4] (hp 54 5 [p0, p1, pn 4 n1, ps 6 s1, pn 8 n2, ps 10 s2, pn 12 n3, ps 14 s3, pn 16 n4, ps 18 s4, pn 20 n5, ps 22 s5, pn 24 n6, ps 26 s6, pn 28 n7, ps 30 s7, pn 32 n8, ps 34 s8, pn 36 n9, ps 38 s9, pn 40 n10, ps 42 s10, pn 44 n11, ps 46 s11, pn 48 n12, ps 50 s12, pn 52 51, pe 53] tl) = whR (tP (callF 100)) (bP (callF 100)) f [some (.obj 0), some (.int 0), some (.tup [wS s2, t, ld n3]), some (.int 3), some (wS s2)] (hp 54 7 [p0, p1, pn 4 n1, ps 6 s1, pn 8 n2, ps 10 s2, pn 12 n3, ps 14 s3, pn 16 n4, ps 18 s4, pn 20 n5, ps 22 s5, pn 24 n6, ps 26 s6, pn 28 n7, ps 30 s7, pn 32 n8, ps 34 s8, pn 36 n9, ps 38 s9, pn 40 n10, ps 42 s10, pn 44 n11, ps 46 s11, pn 48 n12, ps 50 s12, pn 52 51, pe 53] tl) := by
  rcases hs with rfl | rfl <;> rcases hn with rfl | rfl | rfl <;> kernel_rfl
theorem b12_s3 (hs : SB s3) (hn : NN n4) : whR (tP (callF 100)) (bP (callF 100)) (f + 1) [some (.obj 0), some (.int 0), some t, some (.int 3), x4] (hp 54 7 [p0, p1, pn 4 n1, ps 6 s1, pn 8 n2, ps 10 s2, pn 12 n3, ps 14 s3, pn 16 n4, ps 18 s4, pn 20 n5, ps 22 s5, pn 24 n6, ps 26 s6, pn 28 n7, ps 30 s7, pn 32 n8, ps 34 s8, pn 36 n9, ps 38 s9, pn 40 n10, ps 42 s10, pn 44 n11, ps 46 s11, pn 48 n12, ps 50 s12, pn 52 51, pe 53] tl) = whR (tP (callF 100)) (bP (callF 100)) f [some (.obj 0), some (.int 0), some (.tup [wS s3, t, ld n4]), some (.int 4), some (wS s3)] (hp 54 9 [p0, p1, pn 4 n1, ps 6 s1, pn 8 n2, ps 10 s2, pn 12 n3, ps 14 s3, pn 16 n4, ps 18 s4, pn 20 n5, ps 22 s5, pn 24 n6, ps 26 s6, pn 28 n7, ps 30 s7, pn 32 n8, ps 34 s8, pn 36 n9, ps 38 s9, pn 40 n10, ps 42 s10, pn 44 n11, ps 46 s11, pn 48 n12, ps 50 s12, pn 52 51, pe 53] tl) := by
  rcases hs with rfl | rfl <;> rcases hn with rfl | rfl | rfl <;> kernel_rfl
theorem b12_s4 (hs : SB s4) (hn : NN n5) : whR (tP (callF 100)) (bP (callF 100)) (f + 1) [some (.obj 0), some (.int 0), some t, some (.int 4), x4] (hp 54 9 [p0, p1, pn 4 n1, ps 6 s1, pn 8 n2, ps 10 s2, pn 12 n3, ps 14 s3, pn 16 n4, ps 18 s4, pn 20 n5, ps 22 s5, pn 24 n6, ps 26 s6, pn 28 n7, ps 30 s7, pn 32 n8, ps 34 s8, pn 36 n9, ps 38 s9, pn 40 n10, ps 42 s10, pn 44 n11, ps 46 s11, pn 48 n12, ps 50 s12, pn 52 51, pe 53] tl) = whR (tP (callF 100)) (bP (callF 100)) f [some (.obj 0), some (.int 0), some (.tup [wS s4, t, ld n5]), some (.int 5), some (wS s4)] (hp 54 11 [p0, p1, pn 4 n1, ps 6 s1, pn 8 n2, ps 10 s2, pn 12 n3, ps 14 s3, pn 16 n4, ps 18 s4, pn 20 n5, ps 22 s5, pn 24 n6, ps 26 s6, pn 28 n7, ps 30 s7, pn 32 n8, ps 34 s8, pn 36 n9, ps 38 s9, pn 40 n10, ps 42 s10, pn 44 n11, ps 46 s11, pn 48 n12, ps 50 s12, pn 52 51, pe 53] tl) := by
  rcases hs with rfl | rfl <;> rcases hn with rfl | rfl | rfl <;> kernel_rfl
theorem b12_s5 (hs : SB s5) (hn : NN n6) : whR (tP (callF 100)) (bP (callF 100)) (f + 1) [some (.obj 0), some (.int 0), some t, some (.int 5), x4] (hp 54 11 [p0, p1, pn 4 n1, ps 6 s1, pn 8 n2, ps 10 s2, pn 12 n3, ps 14 s3, pn 16 n4, ps 18 s4, pn 20 n5, ps 22 s5, pn 24 n6, ps 26 s6, pn 28 n7, ps 30 s7, pn 32 n8, ps 34 s8, pn 36 n9, ps 38 s9, pn 40 n10, ps 42 s10, pn 44 n11, ps 46 s11, pn 48 n12, ps 50 s12, pn 52 51, pe 53] tl) = whR (tP (callF 100)) (bP (callF 100)) f [some (.obj 0), some (.int 0), some (.tup [wS s5, t, ld n6]), some (.int 6), some (wS s5)] (hp 54 13 [p0, p1, pn 4 n1, ps 6 s1, pn 8 n2, ps 10 s2, pn 12 n3, ps 14 s3, pn 16 n4, ps 18 s4, pn 20 n5, ps 22 s5, pn 24 n6, ps 26 s6, pn 28 n7, ps 30 s7, pn 32 n8, ps 34 s8, pn 36 n9, ps 38 s9, pn 40 n10, ps 42 s10, pn 44 n11, ps 46 s11, pn 48 n12, ps 50 s12, pn 52 51, pe 53] tl) := by
  rcases hs with rfl | rfl <;> rcases hn with rfl | rfl | rfl <;> kernel_rfl
theorem b12_s6 (hs : SB s6) (hn : NN n7) : whR (tP (callF 100)) (bP (callF 100)) (f + 1) [some (.obj 0), some (.int 0), some t, some (.int 6), x4] (hp 54 13 [p0, p1, pn 4 n1, ps 6 s1, pn 8 n2, ps 10 s2, pn 12 n3, ps 14 s3, pn 16 n4, ps 18 s4, pn 20 n5, ps 22 s5, pn 24 n6, ps 26 s6, pn 28 n7, ps 30 s7, pn 32 n8, ps 34 s8, pn 36 n9, ps 38 s9, pn 40 n10, ps 42 s10, pn 44 n11, ps 46 s11, pn 48 n12, ps 50 s12, pn 52 51, pe 53] tl) = whR (tP (callF 100)) (bP (callF 100)) f [some (.obj 0), some (.int 0), some (.tup [wS s6, t, ld n7]), some (.int 7), some (wS s6)] (hp 54 15 [p0, p1, pn 4 n1, ps 6 s1, pn 8 n2, ps 10 s2, pn 12 n3, ps 14 s3, pn 16 n4, ps 18 s4, pn 20 n5, ps 22 s5, pn 24 n6, ps 26 s6, pn 28 n7, ps 30 s7, pn 32 n8, ps 34 s8, pn 36 n9, ps 38 s9, pn 40 n10, ps 42 s10, pn 44 n11, ps 46 s11, pn 48 n12, ps 50 s12, pn 52 51, pe 53] tl) := by
  rcases hs with rfl | rfl <;> rcases hn with rfl | rfl | rfl <;> kernel_rfl
theorem b12_s7 (hs : SB s7) (hn : NN n8) : whR (tP (callF 100)) (bP (callF 100)) (f + 1) [some (.obj 0), some (.int 0), some t, some (.int 7), x4] (hp 54 15 [p0, p1, pn 4 n1, ps 6 s1, pn 8 n2, ps 10 s2, pn 12 n3, ps 14 s3, pn 16 n4, ps 18 s4, pn 20 n5, ps 22 s5, pn 24 n6, ps 26 s6, pn 28 n7, ps 30 s7, pn 32 n8, ps 34 s8, pn 36 n9, ps 38 s9, pn 40 n10, ps 42 s10, pn 44 n11, ps 46 s11, pn 48 n12, ps 50 s12, pn 52 51, pe 53] tl) = whR (tP (callF 100)) (bP (callF 100)) f [some (.obj 0), some (.int 0), some (.tup [wS s7, t, ld n8]), some (.int 8), some (wS s7)] (hp 54 17 [p0, p1, pn 4 n1, ps 6 s1, pn 8 n2, ps 10 s2, pn 12 n3, ps 14 s3, pn 16 n4, ps 18 s4, pn 20 n5, ps 22 s5, pn 24 n6, ps 26 s6, pn 28 n7, ps 30 s7, pn 32 n8, ps 34 s8, pn 36 n9, ps 38 s9, pn 40 n10, ps 42 s10, pn 44 n11, ps 46 s11, pn 48 n12, ps 50 s12, pn 52 51, pe 53] tl) := by
  rcases hs with rfl | rfl <;> rcases hn with rfl | rfl | rfl <;> kernel_rfl
theorem b12_s8 (hs : SB s8) (hn : NN n9) : whR (tP (callF 100)) (bP (callF 100)) (f + 1) [some (.obj 0), some (.int 0), some t, some (.int 8), x4] (hp 54 17 [p0, p1, pn 4 n1, ps 6 s1, pn 8 n2, ps 10 s2, pn 12 n3, ps 14 s3, pn 16 n4, ps 18 s4, pn 20 n5, ps 22 s5, pn 24 n6, ps 26 s6, pn 28 n7, ps 30 s7, pn 32 n8, ps 34 s8, pn 36 n9, ps 38 s9, pn 40 n10, ps 42 s10, pn 44 n11, ps 46 s11, pn 48 n12, ps 50 s12, pn 52 51, pe 53] tl) = whR (tP (callF 100)) (bP (callF 100)) f [some (.obj 0), some (.int 0), some (.tup [wS s8, t, ld n9]), some (.int 9), some (wS s8)] (hp 54 19 [p0, p1, pn 4 n1, ps 6 s1, pn 8 n2, ps 10 s2, pn 12 n3, ps 14 s3, pn 16 n4, ps 18 s4, pn 20 n5, ps 22 s5, pn 24 n6, ps 26 s6, pn 28 n7, ps 30 s7, pn 32 n8, ps 34 s8, pn 36 n9, ps 38 s9, pn 40 n10, ps 42 s10, pn 44 n11, ps 46 s11, pn 48 n12, ps 50 s12, pn 52 51, pe 53] tl) := by
  rcases hs with rfl | rfl <;> rcases hn with rfl | rfl | rfl <;> kernel_rfl
theorem b12_s9 (hs : SB s9) (hn : NN n10) : whR (tP (callF 100)) (bP (callF 100)) (f + 1) [some (.obj 0), some (.int 0), some t, some (.int 9), x4] (hp 54 19 [p0, p1, pn 4 n1, ps 6 s1, pn 8 n2, ps 10 s2, pn 12 n3, ps 14 s3, pn 16 n4, ps 18 s4, pn 20 n5, ps 22 s5, pn 24 n6, ps 26 s6, pn 28 n7, ps 30 s7, pn 32 n8, ps 34 s8, pn 36 n9, ps 38 s9, pn 40 n10, ps 42 s10, pn 44 n11, ps 46 s11, pn 48 n12, ps 50 s12, pn 52 51, pe 53] tl) = whR (tP (callF 100)) (bP (callF 100)) f [some (.obj 0), some (.int 0), some (.tup [wS s9, t, ld n10]), some (.int 10), some (wS s9)] (hp 54 21 [p0, p1, pn 4 n1, ps 6 s1, pn 8 n2, ps 10 s2, pn 12 n3, ps 14 s3, pn 16 n4, ps 18 s4, pn 20 n5, ps 22 s5, pn 24 n6, ps 26 s6, pn 28 n7, ps 30 s7, pn 32 n8, ps 34 s8, pn 36 n9, ps 38 s9, pn 40 n10, ps 42 s10, pn 44 n11, ps 46 s11, pn 48 n12, ps 50 s12, pn 52 51, pe 53] tl) := by
  rcases hs with rfl | rfl <;> rcases hn with rfl | rfl | rfl <;> kernel_rfl
theorem b12_s10 (hs : SB s10) (hn : NN n11) : whR (tP (callF 100)) (bP (callF 100)) (f + 1) [some (.obj 0), some (.int 0), some t, some (.int 10), x4] (hp 54 21 [p0, p1, pn 4 n1, ps 6 s1, pn 8 n2, ps 10 s2, pn 12 n3, ps 14 s3, pn 16 n4, ps 18 s4, pn 20 n5, ps 22 s5, pn 24 n6, ps 26 s6, pn 28 n7, ps 30 s7, pn 32 n8, ps 34 s8, pn 36 n9, ps 38 s9, pn 40 n10, ps 42 s10, pn 44 n11, ps 46 s11, pn 48 n12, ps 50 s12, pn 52 51, pe 53] tl) = whR (tP (callF 100)) (bP (callF 100)) f [some (.obj 0), some (.int 0), some (.tup [wS s10, t, ld n11]), some (.int 11), some (wS s10)] (hp 54 23 [p0, p1, pn 4 n1, ps 6 s1, pn 8 n2, ps 10 s2, pn 12 n3, ps 14 s3, pn 16 n4, ps 18 s4, pn 20 n5, ps 22 s5, pn 24 n6, ps 26 s6, pn 28 n7, ps 30 s7, pn 32 n8, ps 34 s8, pn 36 n9, ps 38 s9, pn 40 n10, ps 42 s10, pn 44 n11, ps 46 s11, pn 48 n12, ps 50 s12, pn 52 51, pe 53] tl) := by
  rcases hs with rfl | rfl <;> rcases hn with rfl | rfl | rfl <;> kernel_rfl
theorem b12_s11 (hs : SB s11) (hn : NN n12) : whR (tP (callF 100)) (bP (callF 100)) (f + 1) [some (.obj 0), some (.int 0), some t, some (.int 11), x4] (hp 54 23 [p0, p1, pn 4 n1, ps 6 s1, pn 8 n2, ps 10 s2, pn 12 n3, ps 14 s3, pn 16 n4, ps 18 s4, pn 20 n5, ps 22 s5, pn 24 n6, ps 26 s6, pn 28 n7, ps 30 s7, pn 32 n8, ps 34 s8, pn 36 n9, ps 38 s9, pn 40 n10, ps 42 s10, pn 44 n11, ps 46 s11, pn 48 n12, ps 50 s12, pn 52 51, pe 53] tl) = whR (tP (callF 100)) (bP (callF 100)) f [some (.obj 0), some (.int 0), some (.tup [wS s11, t, ld n12]), some (.int 12), some (wS s11)] (hp 54 25 [p0, p1, pn 4 n1, ps 6 s1, pn 8 n2, ps 10 s2, pn 12 n3, ps 14 s3, pn 16 n4, ps 18 s4, pn 20 n5, ps 22 s5, pn 24 n6, ps 26 s6, pn 28 n7, ps 30 s7, pn 32 n8, ps 34 s8, pn 36 n9, ps 38 s9, pn 40 n10, ps 42 s10, pn 44 n11, ps 46 s11, pn 48 n12, ps 50 s12, pn 52 51, pe 53] tl) := by
  rcases hs with rfl | rfl <;> rcases hn with rfl | rfl | rfl <;> kernel_rfl
theorem b12_e : whR (tP (callF 100)) (bP (callF 100)) (f + 1) [some (.obj 0), some (.int 0), some t, some (.int 12), x4] (hp 54 25 [p0, p1, pn 4 n1, ps 6 s1, pn 8 n2, ps 10 s2, pn 12 n3, ps 14 s3, pn 16 n4, ps 18 s4, pn 20 n5, ps 22 s5, pn 24 n6, ps 26 s6, pn 28 n7, ps 30 s7, pn 32 n8, ps 34 s8, pn 36 n9, ps 38 s9, pn 40 n10, ps 42 s10, pn 44 n11, ps 46 s11, pn 48 n12, ps 50 s12, pn 52 51, pe 53] tl) = .nx [some (.obj 0), some (.int 0), some t, some (.int 12), x4] (hp 54 25 [p0, p1, pn 4 n1, ps 6 s1, pn 8 n2, ps 10 s2, pn 12 n3, ps 14 s3, pn 16 n4, ps 18 s4, pn 20 n5, ps 22 s5, pn 24 n6, ps 26 s6, pn 28 n7, ps 30 s7, pn 32 n8, ps 34 s8, pn 36 n9, ps 38 s9, pn 40 n10, ps 42 s10, pn 44 n11, ps 46 s11, pn 48 n12, ps 50 s12, pn 52 51, pe 53] tl) := by kernel_rfl
theorem b12_all (hn1 : NN n1) (hs1 : SB s1) (hn2 : NN n2) (hs2 : SB s2) (hn3 : NN n3) (hs3 : SB s3) (hn4 : NN n4) (hs4 : SB s4) (hn5 : NN n5) (hs5 : SB s5) (hn6 : NN n6) (hs6 : SB s6) (hn7 : NN n7) (hs7 : SB s7) (hn8 : NN n8) (hs8 : SB s8) (hn9 : NN n9) (hs9 : SB s9) (hn10 : NN n10) (hs10 : SB s10) (hn11 : NN n11) (hs11 : SB s11) (hn12 : NN n12) (hs12 : SB s12) : whR (tP (callF 100)) (bP (callF 100)) M [some (.obj 0), some (.int 0), some (ld n1), some (.int 1), none] (hp 54 3 [p0, p1, pn 4 n1, ps 6 s1, pn 8 n2, ps 10 s2, pn 12 n3, ps 14 s3, pn 16 n4, ps 18 s4, pn 20 n5, ps 22 s5, pn 24 n6, ps 26 s6, pn 28 n7, ps 30 s7, pn 32 n8, ps 34 s8, pn 36 n9, ps 38 s9, pn 40 n10, ps 42 s10, pn 44 n11, ps 46 s11, pn 48 n12, ps 50 s12, pn 52 51, pe 53] tl) = .nx [some (.obj 0), some (.int 0), some (.tup [wS s11, (.tup [wS s10, (.tup [wS s9, (.tup [wS s8, (.tup [wS s7, (.tup [wS s6, (.tup [wS s5, (.tup [wS s4, (.tup [wS s3, (.tup [wS s2, (.tup [wS s1, (ld n1), ld n2]), ld n3]), ld n4]), ld n5]), ld n6]), ld n7]), ld n8]), ld n9]), ld n10]), ld n11]), ld n12]), some (.int 12), some (wS s11)] (hp 54 25 [p0, p1, pn 4 n1, ps 6 s1, pn 8 n2, ps 10 s2, pn 12 n3, ps 14 s3, pn 16 n4, ps 18 s4, pn 20 n5, ps 22 s5, pn 24 n6, ps 26 s6, pn 28 n7, ps 30 s7, pn 32 n8, ps 34 s8, pn 36 n9, ps 38 s9, pn 40 n10, ps 42 s10, pn 44 n11, ps 46 s11, pn 48 n12, ps 50 s12, pn 52 51, pe 53] tl) :=
  (((((((((((b12_s1 (f := 999999) hs1 hn2).trans (b12_s2 (f := 999998) hs2 hn3)).trans (b12_s3 (f := 999997) hs3 hn4)).trans (b12_s4 (f := 999996) hs4 hn5)).trans (b12_s5 (f := 999995) hs5 hn6)).trans (b12_s6 (f := 999994) hs6 hn7)).trans (b12_s7 (f := 999993) hs7 hn8)).trans (b12_s8 (f := 999992) hs8 hn9)).trans (b12_s9 (f := 999991) hs9 hn10)).trans (b12_s10 (f := 999990) hs10 hn11)).trans (b12_s11 (f := 999989) hs11 hn12)).trans (b12_e (f := 999988))
theorem b12_r (hn1 : NN n1) (hs1 : SB s1) (hn2 : NN n2) (hs2 : SB s2) (hn3 : NN n3) (hs3 : SB s3) (hn4 : NN n4) (hs4 : SB s4) (hn5 : NN n5) (hs5 : SB s5) (hn6 : NN n6) (hs6 : SB s6) (hn7 : NN n7) (hs7 : SB s7) (hn8 : NN n8) (hs8 : SB s8) (hn9 : NN n9) (hs9 : SB s9) (hn10 : NN n10) (hs10 : SB s10) (hn11 : NN n11) (hs11 : SB s11) (hn12 : NN n12) (hs12 : SB s12) : c_42 (callF 100) [.obj 0, .int 0] (hp 54 2 [p0, p1, pn 4 n1, ps 6 s1, pn 8 n2, ps 10 s2, pn 12 n3, ps 14 s3, pn 16 n4, ps 18 s4, pn 20 n5, ps 22 s5, pn 24 n6, ps 26 s6, pn 28 n7, ps 30 s7, pn 32 n8, ps 34 s8, pn 36 n9, ps 38 s9, pn 40 n10, ps 42 s10, pn 44 n11, ps 46 s11, pn 48 n12, ps 50 s12, pn 52 51, pe 53] tl) = .ok (.tup [wS s11, (.tup [wS s10, (.tup [wS s9, (.tup [wS s8, (.tup [wS s7, (.tup [wS s6, (.tup [wS s5, (.tup [wS s4, (.tup [wS s3, (.tup [wS s2, (.tup [wS s1, (ld n1), ld n2]), ld n3]), ld n4]), ld n5]), ld n6]), ld n7]), ld n8]), ld n9]), ld n10]), ld n11]), ld n12]) (hp 54 25 [p0, p1, pn 4 n1, ps 6 s1, pn 8 n2, ps 10 s2, pn 12 n3, ps 14 s3, pn 16 n4, ps 18 s4, pn 20 n5, ps 22 s5, pn 24 n6, ps 26 s6, pn 28 n7, ps 30 s7, pn 32 n8, ps 34 s8, pn 36 n9, ps 38 s9, pn 40 n10, ps 42 s10, pn 44 n11, ps 46 s11, pn 48 n12, ps 50 s12, pn 52 51, pe 53] tl) := by
  have e0 : eB (callF 100 43) (as1 (eV 0) (as1 (eV 1) as0)) [some (.obj 0), some (.int 0), none, none, none] (hp 54 2 [p0, p1, pn 4 n1, ps 6 s1, pn 8 n2, ps 10 s2, pn 12 n3, ps 14 s3, pn 16 n4, ps 18 s4, pn 20 n5, ps 22 s5, pn 24 n6, ps 26 s6, pn 28 n7, ps 30 s7, pn 32 n8, ps 34 s8, pn 36 n9, ps 38 s9, pn 40 n10, ps 42 s10, pn 44 n11, ps 46 s11, pn 48 n12, ps 50 s12, pn 52 51, pe 53] tl) = .ok (ld n1) (hp 54 3 [p0, p1, pn 4 n1, ps 6 s1, pn 8 n2, ps 10 s2, pn 12 n3, ps 14 s3, pn 16 n4, ps 18 s4, pn 20 n5, ps 22 s5, pn 24 n6, ps 26 s6, pn 28 n7, ps 30 s7, pn 32 n8, ps 34 s8, pn 36 n9, ps 38 s9, pn 40 n10, ps 42 s10, pn 44 n11, ps 46 s11, pn 48 n12, ps 50 s12, pn 52 51, pe 53] tl) := evB (xs := [.obj 0, .int 0]) rfl (b12_1 hn1)
  have e1 : b_42 (callF 100) [some (.obj 0), some (.int 0), none, none, none] (hp 54 2 [p0, p1, pn 4 n1, ps 6 s1, pn 8 n2, ps 10 s2, pn 12 n3, ps 14 s3, pn 16 n4, ps 18 s4, pn 20 n5, ps 22 s5, pn 24 n6, ps 26 s6, pn 28 n7, ps 30 s7, pn 32 n8, ps 34 s8, pn 36 n9, ps 38 s9, pn 40 n10, ps 42 s10, pn 44 n11, ps 46 s11, pn 48 n12, ps 50 s12, pn 52 51, pe 53] tl) = .rt (.tup [wS s11, (.tup [wS s10, (.tup [wS s9, (.tup [wS s8, (.tup [wS s7, (.tup [wS s6, (.tup [wS s5, (.tup [wS s4, (.tup [wS s3, (.tup [wS s2, (.tup [wS s1, (ld n1), ld n2]), ld n3]), ld n4]), ld n5]), ld n6]), ld n7]), ld n8]), ld n9]), ld n10]), ld n11]), ld n12]) (hp 54 25 [p0, p1, pn 4 n1, ps 6 s1, pn 8 n2, ps 10 s2, pn 12 n3, ps 14 s3, pn 16 n4, ps 18 s4, pn 20 n5, ps 22 s5, pn 24 n6, ps 26 s6, pn 28 n7, ps 30 s7, pn 32 n8, ps 34 s8, pn 36 n9, ps 38 s9, pn 40 n10, ps 42 s10, pn 44 n11, ps 46 s11, pn 48 n12, ps 50 s12, pn 52 51, pe 53] tl) :=
    (sSq_nx (evSet e0)).trans ((sSq_nx (evSet (b12_c hn1))).trans ((sSq_nx (b12_all hn1 hs1 hn2 hs2 hn3 hs3 hn4 hs4 hn5 hs5 hn6 hs6 hn7 hs7 hn8 hs8 hn9 hs9 hn10 hs10 hn11 hs11 hn12 hs12)).trans rfl))
  exact fnR_of (np := 2) (n := 5) (xs := [.obj 0, .int 0]) rfl e1 rfl
theorem b12_p : D.pure (.tup [wS s11, (.tup [wS s10, (.tup [wS s9, (.tup [wS s8, (.tup [wS s7, (.tup [wS s6, (.tup [wS s5, (.tup [wS s4, (.tup [wS s3, (.tup [wS s2, (.tup [wS s1, (ld n1), ld n2]), ld n3]), ld n4]), ld n5]), ld n6]), ld n7]), ld n8]), ld n9]), ld n10]), ld n11]), ld n12]) = true := (tup3 rfl (tup3 rfl (tup3 rfl (tup3 rfl (tup3 rfl (tup3 rfl (tup3 rfl (tup3 rfl (tup3 rfl (tup3 rfl (tup3 rfl (ld_pure _) (ld_pure _)) (ld_pure _)) (ld_pure _)) (ld_pure _)) (ld_pure _)) (ld_pure _)) (ld_pure _)) (ld_pure _)) (ld_pure _)) (ld_pure _)) (ld_pure _))
theorem b12_q (hn1 : NN n1) (hs1 : SB s1) (hn2 : NN n2) (hs2 : SB s2) (hn3 : NN n3) (hs3 : SB s3) (hn4 : NN n4) (hs4 : SB s4) (hn5 : NN n5) (hs5 : SB s5) (hn6 : NN n6) (hs6 : SB s6) (hn7 : NN n7) (hs7 : SB s7) (hn8 : NN n8) (hs8 : SB s8) (hn9 : NN n9) (hs9 : SB s9) (hn10 : NN n10) (hs10 : SB s10) (hn11 : NN n11) (hs11 : SB s11) (hn12 : NN n12) (hs12 : SB s12) : c_41 (callF 101) [.obj 0, .int 0] (hp 54 2 [p0, p1, pn 4 n1, ps 6 s1, pn 8 n2, ps 10 s2, pn 12 n3, ps 14 s3, pn 16 n4, ps 18 s4, pn 20 n5, ps 22 s5, pn 24 n6, ps 26 s6, pn 28 n7, ps 30 s7, pn 32 n8, ps 34 s8, pn 36 n9, ps 38 s9, pn 40 n10, ps 42 s10, pn 44 n11, ps 46 s11, pn 48 n12, ps 50 s12, pn 52 51, pe 53] tl) = .ok (.tup [wS s11, (.tup [wS s10, (.tup [wS s9, (.tup [wS s8, (.tup [wS s7, (.tup [wS s6, (.tup [wS s5, (.tup [wS s4, (.tup [wS s3, (.tup [wS s2, (.tup [wS s1, (ld n1), ld n2]), ld n3]), ld n4]), ld n5]), ld n6]), ld n7]), ld n8]), ld n9]), ld n10]), ld n11]), ld n12]) (hp 54 25 [p0, p1, pn 4 n1, ps 6 s1, pn 8 n2, ps 10 s2, pn 12 n3, ps 14 s3, pn 16 n4, ps 18 s4, pn 20 n5, ps 22 s5, pn 24 n6, ps 26 s6, pn 28 n7, ps 30 s7, pn 32 n8, ps 34 s8, pn 36 n9, ps 38 s9, pn 40 n10, ps 42 s10, pn 44 n11, ps 46 s11, pn 48 n12, ps 50 s12, pn 52 51, pe 53] tl) := by
  have e0 : eB (callF 101 42) (as1 (eV 0) (as1 (eV 1) as0)) [some (.obj 0), some (.int 0), none, none, none] (hp 54 2 [p0, p1, pn 4 n1, ps 6 s1, pn 8 n2, ps 10 s2, pn 12 n3, ps 14 s3, pn 16 n4, ps 18 s4, pn 20 n5, ps 22 s5, pn 24 n6, ps 26 s6, pn 28 n7, ps 30 s7, pn 32 n8, ps 34 s8, pn 36 n9, ps 38 s9, pn 40 n10, ps 42 s10, pn 44 n11, ps 46 s11, pn 48 n12, ps 50 s12, pn 52 51, pe 53] tl) = .ok (.tup [wS s11, (.tup [wS s10, (.tup [wS s9, (.tup [wS s8, (.tup [wS s7, (.tup [wS s6, (.tup [wS s5, (.tup [wS s4, (.tup [wS s3, (.tup [wS s2, (.tup [wS s1, (ld n1), ld n2]), ld n3]), ld n4]), ld n5]), ld n6]), ld n7]), ld n8]), ld n9]), ld n10]), ld n11]), ld n12]) (hp 54 25 [p0, p1, pn 4 n1, ps 6 s1, pn 8 n2, ps 10 s2, pn 12 n3, ps 14 s3, pn 16 n4, ps 18 s4, pn 20 n5, ps 22 s5, pn 24 n6, ps 26 s6, pn 28 n7, ps 30 s7, pn 32 n8, ps 34 s8, pn 36 n9, ps 38 s9, pn 40 n10, ps 42 s10, pn 44 n11, ps 46 s11, pn 48 n12, ps 50 s12, pn 52 51, pe 53] tl) := evB (xs := [.obj 0, .int 0]) rfl (b12_r hn1 hs1 hn2 hs2 hn3 hs3 hn4 hs4 hn5 hs5 hn6 hs6 hn7 hs7 hn8 hs8 hn9 hs9 hn10 hs10 hn11 hs11 hn12 hs12)
  have ec : ∀ t u : D, callF 101 14 [.tup [wS s11, t, u], .int 0] [] = .ok (.int 1) [] := by
    intro t u
    rcases hs11 with rfl | rfl <;> kernel_rfl
  have e1 : eQ (callF 101 14) (as1 (eV 2) (as1 (eC k_TERMS) as0)) [some (.obj 0), some (.int 0), some (.tup [wS s11, (.tup [wS s10, (.tup [wS s9, (.tup [wS s8, (.tup [wS s7, (.tup [wS s6, (.tup [wS s5, (.tup [wS s4, (.tup [wS s3, (.tup [wS s2, (.tup [wS s1, (ld n1), ld n2]), ld n3]), ld n4]), ld n5]), ld n6]), ld n7]), ld n8]), ld n9]), ld n10]), ld n11]), ld n12]), none, none] (hp 54 25 [p0, p1, pn 4 n1, ps 6 s1, pn 8 n2, ps 10 s2, pn 12 n3, ps 14 s3, pn 16 n4, ps 18 s4, pn 20 n5, ps 22 s5, pn 24 n6, ps 26 s6, pn 28 n7, ps 30 s7, pn 32 n8, ps 34 s8, pn 36 n9, ps 38 s9, pn 40 n10, ps 42 s10, pn 44 n11, ps 46 s11, pn 48 n12, ps 50 s12, pn 52 51, pe 53] tl) = .ok (.int 1) (hp 54 25 [p0, p1, pn 4 n1, ps 6 s1, pn 8 n2, ps 10 s2, pn 12 n3, ps 14 s3, pn 16 n4, ps 18 s4, pn 20 n5, ps 22 s5, pn 24 n6, ps 26 s6, pn 28 n7, ps 30 s7, pn 32 n8, ps 34 s8, pn 36 n9, ps 38 s9, pn 40 n10, ps 42 s10, pn 44 n11, ps 46 s11, pn 48 n12, ps 50 s12, pn 52 51, pe 53] tl) :=
    eQ_of rfl (show (D.pure (.tup [wS s11, (.tup [wS s10, (.tup [wS s9, (.tup [wS s8, (.tup [wS s7, (.tup [wS s6, (.tup [wS s5, (.tup [wS s4, (.tup [wS s3, (.tup [wS s2, (.tup [wS s1, (ld n1), ld n2]), ld n3]), ld n4]), ld n5]), ld n6]), ld n7]), ld n8]), ld n9]), ld n10]), ld n11]), ld n12]) && (D.pures [.int 0])) = true by rw [b12_p]; rfl) (ec _ _) rfl
  have ew : ∀ t : D, whR (tS (callF 101)) (bS (callF 101)) M [some (.obj 0), some (.int 0), some t, some (.int 1), none] (hp 54 25 [p0, p1, pn 4 n1, ps 6 s1, pn 8 n2, ps 10 s2, pn 12 n3, ps 14 s3, pn 16 n4, ps 18 s4, pn 20 n5, ps 22 s5, pn 24 n6, ps 26 s6, pn 28 n7, ps 30 s7, pn 32 n8, ps 34 s8, pn 36 n9, ps 38 s9, pn 40 n10, ps 42 s10, pn 44 n11, ps 46 s11, pn 48 n12, ps 50 s12, pn 52 51, pe 53] tl) = .nx [some (.obj 0), some (.int 0), some t, some (.int 1), none] (hp 54 25 [p0, p1, pn 4 n1, ps 6 s1, pn 8 n2, ps 10 s2, pn 12 n3, ps 14 s3, pn 16 n4, ps 18 s4, pn 20 n5, ps 22 s5, pn 24 n6, ps 26 s6, pn 28 n7, ps 30 s7, pn 32 n8, ps 34 s8, pn 36 n9, ps 38 s9, pn 40 n10, ps 42 s10, pn 44 n11, ps 46 s11, pn 48 n12, ps 50 s12, pn 52 51, pe 53] tl) := by
    intro t
    rcases hs12 with rfl | rfl <;> kernel_rfl
  have e2 : b_41 (callF 101) [some (.obj 0), some (.int 0), none, none, none] (hp 54 2 [p0, p1, pn 4 n1, ps 6 s1, pn 8 n2, ps 10 s2, pn 12 n3, ps 14 s3, pn 16 n4, ps 18 s4, pn 20 n5, ps 22 s5, pn 24 n6, ps 26 s6, pn 28 n7, ps 30 s7, pn 32 n8, ps 34 s8, pn 36 n9, ps 38 s9, pn 40 n10, ps 42 s10, pn 44 n11, ps 46 s11, pn 48 n12, ps 50 s12, pn 52 51, pe 53] tl) = .rt (.tup [wS s11, (.tup [wS s10, (.tup [wS s9, (.tup [wS s8, (.tup [wS s7, (.tup [wS s6, (.tup [wS s5, (.tup [wS s4, (.tup [wS s3, (.tup [wS s2, (.tup [wS s1, (ld n1), ld n2]), ld n3]), ld n4]), ld n5]), ld n6]), ld n7]), ld n8]), ld n9]), ld n10]), ld n11]), ld n12]) (hp 54 25 [p0, p1, pn 4 n1, ps 6 s1, pn 8 n2, ps 10 s2, pn 12 n3, ps 14 s3, pn 16 n4, ps 18 s4, pn 20 n5, ps 22 s5, pn 24 n6, ps 26 s6, pn 28 n7, ps 30 s7, pn 32 n8, ps 34 s8, pn 36 n9, ps 38 s9, pn 40 n10, ps 42 s10, pn 44 n11, ps 46 s11, pn 48 n12, ps 50 s12, pn 52 51, pe 53] tl) :=
    (sSq_nx (evSet e0)).trans ((sSq_nx (evSet e1)).trans ((sSq_nx (ew _)).trans rfl))
  exact fnR_of (np := 2) (n := 5) (xs := [.obj 0, .int 0]) rfl e2 rfl
theorem b12_51 (hn1 : NN n1) (hs1 : SB s1) (hn2 : NN n2) (hs2 : SB s2) (hn3 : NN n3) (hs3 : SB s3) (hn4 : NN n4) (hs4 : SB s4) (hn5 : NN n5) (hs5 : SB s5) (hn6 : NN n6) (hs6 : SB s6) (hn7 : NN n7) (hs7 : SB s7) (hn8 : NN n8) (hs8 : SB s8) (hn9 : NN n9) (hs9 : SB s9) (hn10 : NN n10) (hs10 : SB s10) (hn11 : NN n11) (hs11 : SB s11) (hn12 : NN n12) (hs12 : SB s12) : c_51 (callF 102) [.obj 0] (hp 54 0 [p0, p1, pn 4 n1, ps 6 s1, pn 8 n2, ps 10 s2, pn 12 n3, ps 14 s3, pn 16 n4, ps 18 s4, pn 20 n5, ps 22 s5, pn 24 n6, ps 26 s6, pn 28 n7, ps 30 s7, pn 32 n8, ps 34 s8, pn 36 n9, ps 38 s9, pn 40 n10, ps 42 s10, pn 44 n11, ps 46 s11, pn 48 n12, ps 50 s12, pn 52 51, pe 53] tl) = .ok (.tup [.str [110, 117, 109, 98, 101, 114], .str [113], (.tup [wS s11, (.tup [wS s10, (.tup [wS s9, (.tup [wS s8, (.tup [wS s7, (.tup [wS s6, (.tup [wS s5, (.tup [wS s4, (.tup [wS s3, (.tup [wS s2, (.tup [wS s1, (ld n1), ld n2]), ld n3]), ld n4]), ld n5]), ld n6]), ld n7]), ld n8]), ld n9]), ld n10]), ld n11]), ld n12])]) (hp 54 25 [p0, p1, pn 4 n1, ps 6 s1, pn 8 n2, ps 10 s2, pn 12 n3, ps 14 s3, pn 16 n4, ps 18 s4, pn 20 n5, ps 22 s5, pn 24 n6, ps 26 s6, pn 28 n7, ps 30 s7, pn 32 n8, ps 34 s8, pn 36 n9, ps 38 s9, pn 40 n10, ps 42 s10, pn 44 n11, ps 46 s11, pn 48 n12, ps 50 s12, pn 52 51, pe 53] tl) := by
  have g1 : sSet 1 (eMt 1 (callF 102 39) (eV 0) as0) [some (.obj 0), none, none] (hp 54 0 [p0, p1, pn 4 n1, ps 6 s1, pn 8 n2, ps 10 s2, pn 12 n3, ps 14 s3, pn 16 n4, ps 18 s4, pn 20 n5, ps 22 s5, pn 24 n6, ps 26 s6, pn 28 n7, ps 30 s7, pn 32 n8, ps 34 s8, pn 36 n9, ps 38 s9, pn 40 n10, ps 42 s10, pn 44 n11, ps 46 s11, pn 48 n12, ps 50 s12, pn 52 51, pe 53] tl) = .nx [some (.obj 0), some (.str [113]), none] (hp 54 1 [p0, p1, pn 4 n1, ps 6 s1, pn 8 n2, ps 10 s2, pn 12 n3, ps 14 s3, pn 16 n4, ps 18 s4, pn 20 n5, ps 22 s5, pn 24 n6, ps 26 s6, pn 28 n7, ps 30 s7, pn 32 n8, ps 34 s8, pn 36 n9, ps 38 s9, pn 40 n10, ps 42 s10, pn 44 n11, ps 46 s11, pn 48 n12, ps 50 s12, pn 52 51, pe 53] tl) := by kernel_rfl
  have g2 : sExp (eMt 1 (callF 102 37) (eV 0) (as1 (eC (.str [61])) as0)) [some (.obj 0), some (.str [113]), none] (hp 54 1 [p0, p1, pn 4 n1, ps 6 s1, pn 8 n2, ps 10 s2, pn 12 n3, ps 14 s3, pn 16 n4, ps 18 s4, pn 20 n5, ps 22 s5, pn 24 n6, ps 26 s6, pn 28 n7, ps 30 s7, pn 32 n8, ps 34 s8, pn 36 n9, ps 38 s9, pn 40 n10, ps 42 s10, pn 44 n11, ps 46 s11, pn 48 n12, ps 50 s12, pn 52 51, pe 53] tl) = .nx [some (.obj 0), some (.str [113]), none] (hp 54 2 [p0, p1, pn 4 n1, ps 6 s1, pn 8 n2, ps 10 s2, pn 12 n3, ps 14 s3, pn 16 n4, ps 18 s4, pn 20 n5, ps 22 s5, pn 24 n6, ps 26 s6, pn 28 n7, ps 30 s7, pn 32 n8, ps 34 s8, pn 36 n9, ps 38 s9, pn 40 n10, ps 42 s10, pn 44 n11, ps 46 s11, pn 48 n12, ps 50 s12, pn 52 51, pe 53] tl) := by kernel_rfl
  have g3 : sSet 2 (eMt 1 (callF 102 34) (eV 0) as0) [some (.obj 0), some (.str [113]), none] (hp 54 2 [p0, p1, pn 4 n1, ps 6 s1, pn 8 n2, ps 10 s2, pn 12 n3, ps 14 s3, pn 16 n4, ps 18 s4, pn 20 n5, ps 22 s5, pn 24 n6, ps 26 s6, pn 28 n7, ps 30 s7, pn 32 n8, ps 34 s8, pn 36 n9, ps 38 s9, pn 40 n10, ps 42 s10, pn 44 n11, ps 46 s11, pn 48 n12, ps 50 s12, pn 52 51, pe 53] tl) = .nx [some (.obj 0), some (.str [113]), some (.str [n1])] (hp 54 2 [p0, p1, pn 4 n1, ps 6 s1, pn 8 n2, ps 10 s2, pn 12 n3, ps 14 s3, pn 16 n4, ps 18 s4, pn 20 n5, ps 22 s5, pn 24 n6, ps 26 s6, pn 28 n7, ps 30 s7, pn 32 n8, ps 34 s8, pn 36 n9, ps 38 s9, pn 40 n10, ps 42 s10, pn 44 n11, ps 46 s11, pn 48 n12, ps 50 s12, pn 52 51, pe 53] tl) := by kernel_rfl
  have g4 : tO (tB1 (e2 (oEq true) (eMt 1 (callF 102 33) (eV 0) as0) (eC (.str [119, 111, 114, 100])))) (tB1 (e1 (oInD true d_FIGURE_PARTS) (eV 2))) [some (.obj 0), some (.str [113]), some (.str [n1])] (hp 54 2 [p0, p1, pn 4 n1, ps 6 s1, pn 8 n2, ps 10 s2, pn 12 n3, ps 14 s3, pn 16 n4, ps 18 s4, pn 20 n5, ps 22 s5, pn 24 n6, ps 26 s6, pn 28 n7, ps 30 s7, pn 32 n8, ps 34 s8, pn 36 n9, ps 38 s9, pn 40 n10, ps 42 s10, pn 44 n11, ps 46 s11, pn 48 n12, ps 50 s12, pn 52 51, pe 53] tl) = .ok true (hp 54 2 [p0, p1, pn 4 n1, ps 6 s1, pn 8 n2, ps 10 s2, pn 12 n3, ps 14 s3, pn 16 n4, ps 18 s4, pn 20 n5, ps 22 s5, pn 24 n6, ps 26 s6, pn 28 n7, ps 30 s7, pn 32 n8, ps 34 s8, pn 36 n9, ps 38 s9, pn 40 n10, ps 42 s10, pn 44 n11, ps 46 s11, pn 48 n12, ps 50 s12, pn 52 51, pe 53] tl) := by
    rcases hn1 with rfl | rfl | rfl <;> kernel_rfl
  have g5 : eTup (as1 (eC (.str [110, 117, 109, 98, 101, 114])) (as1 (eV 1) (as1 (eB (callF 102 41) (as1 (eV 0) (as1 (eC (.int 0)) as0))) as0))) [some (.obj 0), some (.str [113]), some (.str [n1])] (hp 54 2 [p0, p1, pn 4 n1, ps 6 s1, pn 8 n2, ps 10 s2, pn 12 n3, ps 14 s3, pn 16 n4, ps 18 s4, pn 20 n5, ps 22 s5, pn 24 n6, ps 26 s6, pn 28 n7, ps 30 s7, pn 32 n8, ps 34 s8, pn 36 n9, ps 38 s9, pn 40 n10, ps 42 s10, pn 44 n11, ps 46 s11, pn 48 n12, ps 50 s12, pn 52 51, pe 53] tl) = .ok (.tup [.str [110, 117, 109, 98, 101, 114], .str [113], (.tup [wS s11, (.tup [wS s10, (.tup [wS s9, (.tup [wS s8, (.tup [wS s7, (.tup [wS s6, (.tup [wS s5, (.tup [wS s4, (.tup [wS s3, (.tup [wS s2, (.tup [wS s1, (ld n1), ld n2]), ld n3]), ld n4]), ld n5]), ld n6]), ld n7]), ld n8]), ld n9]), ld n10]), ld n11]), ld n12])]) (hp 54 25 [p0, p1, pn 4 n1, ps 6 s1, pn 8 n2, ps 10 s2, pn 12 n3, ps 14 s3, pn 16 n4, ps 18 s4, pn 20 n5, ps 22 s5, pn 24 n6, ps 26 s6, pn 28 n7, ps 30 s7, pn 32 n8, ps 34 s8, pn 36 n9, ps 38 s9, pn 40 n10, ps 42 s10, pn 44 n11, ps 46 s11, pn 48 n12, ps 50 s12, pn 52 51, pe 53] tl) := evTup (eva1 rfl (eva1 rfl (eva1 (evB (op := callF 102 41) (xs := [.obj 0, .int 0]) rfl (b12_q hn1 hs1 hn2 hs2 hn3 hs3 hn4 hs4 hn5 hs5 hn6 hs6 hn7 hs7 hn8 hs8 hn9 hs9 hn10 hs10 hn11 hs11 hn12 hs12)) rfl))) (show 3 ≤ M by unfold M; omega)
  have g6 : b_51 (callF 102) [some (.obj 0), none, none] (hp 54 0 [p0, p1, pn 4 n1, ps 6 s1, pn 8 n2, ps 10 s2, pn 12 n3, ps 14 s3, pn 16 n4, ps 18 s4, pn 20 n5, ps 22 s5, pn 24 n6, ps 26 s6, pn 28 n7, ps 30 s7, pn 32 n8, ps 34 s8, pn 36 n9, ps 38 s9, pn 40 n10, ps 42 s10, pn 44 n11, ps 46 s11, pn 48 n12, ps 50 s12, pn 52 51, pe 53] tl) = .rt (.tup [.str [110, 117, 109, 98, 101, 114], .str [113], (.tup [wS s11, (.tup [wS s10, (.tup [wS s9, (.tup [wS s8, (.tup [wS s7, (.tup [wS s6, (.tup [wS s5, (.tup [wS s4, (.tup [wS s3, (.tup [wS s2, (.tup [wS s1, (ld n1), ld n2]), ld n3]), ld n4]), ld n5]), ld n6]), ld n7]), ld n8]), ld n9]), ld n10]), ld n11]), ld n12])]) (hp 54 25 [p0, p1, pn 4 n1, ps 6 s1, pn 8 n2, ps 10 s2, pn 12 n3, ps 14 s3, pn 16 n4, ps 18 s4, pn 20 n5, ps 22 s5, pn 24 n6, ps 26 s6, pn 28 n7, ps 30 s7, pn 32 n8, ps 34 s8, pn 36 n9, ps 38 s9, pn 40 n10, ps 42 s10, pn 44 n11, ps 46 s11, pn 48 n12, ps 50 s12, pn 52 51, pe 53] tl) :=
    (sSq_nx g1).trans ((sSq_nx g2).trans ((sSq_nx g3).trans (sSq_rt ((sIf_tt g4).trans (sRet_of g5)))))
  exact fnR_of (np := 1) (n := 3) (xs := [.obj 0]) rfl g6 rfl
theorem b12_55 (hn1 : NN n1) (hs1 : SB s1) (hn2 : NN n2) (hs2 : SB s2) (hn3 : NN n3) (hs3 : SB s3) (hn4 : NN n4) (hs4 : SB s4) (hn5 : NN n5) (hs5 : SB s5) (hn6 : NN n6) (hs6 : SB s6) (hn7 : NN n7) (hs7 : SB s7) (hn8 : NN n8) (hs8 : SB s8) (hn9 : NN n9) (hs9 : SB s9) (hn10 : NN n10) (hs10 : SB s10) (hn11 : NN n11) (hs11 : SB s11) (hn12 : NN n12) (hs12 : SB s12) : c_55 (callF 103) [.obj 0] (hp 54 0 [p0, p1, pn 4 n1, ps 6 s1, pn 8 n2, ps 10 s2, pn 12 n3, ps 14 s3, pn 16 n4, ps 18 s4, pn 20 n5, ps 22 s5, pn 24 n6, ps 26 s6, pn 28 n7, ps 30 s7, pn 32 n8, ps 34 s8, pn 36 n9, ps 38 s9, pn 40 n10, ps 42 s10, pn 44 n11, ps 46 s11, pn 48 n12, ps 50 s12, pn 52 51, pe 53] tl) = .exc 3 [.int 50] (hp 54 25 [p0, p1, pn 4 n1, ps 6 s1, pn 8 n2, ps 10 s2, pn 12 n3, ps 14 s3, pn 16 n4, ps 18 s4, pn 20 n5, ps 22 s5, pn 24 n6, ps 26 s6, pn 28 n7, ps 30 s7, pn 32 n8, ps 34 s8, pn 36 n9, ps 38 s9, pn 40 n10, ps 42 s10, pn 44 n11, ps 46 s11, pn 48 n12, ps 50 s12, pn 52 51, pe 53] tl) := by
  have g1 : tV (eMt 1 (callF 103 35) (eV 0) (as1 (eC (.str [97, 115, 107])) as0)) [some (.obj 0), none] (hp 54 0 [p0, p1, pn 4 n1, ps 6 s1, pn 8 n2, ps 10 s2, pn 12 n3, ps 14 s3, pn 16 n4, ps 18 s4, pn 20 n5, ps 22 s5, pn 24 n6, ps 26 s6, pn 28 n7, ps 30 s7, pn 32 n8, ps 34 s8, pn 36 n9, ps 38 s9, pn 40 n10, ps 42 s10, pn 44 n11, ps 46 s11, pn 48 n12, ps 50 s12, pn 52 51, pe 53] tl) = .ok false (hp 54 0 [p0, p1, pn 4 n1, ps 6 s1, pn 8 n2, ps 10 s2, pn 12 n3, ps 14 s3, pn 16 n4, ps 18 s4, pn 20 n5, ps 22 s5, pn 24 n6, ps 26 s6, pn 28 n7, ps 30 s7, pn 32 n8, ps 34 s8, pn 36 n9, ps 38 s9, pn 40 n10, ps 42 s10, pn 44 n11, ps 46 s11, pn 48 n12, ps 50 s12, pn 52 51, pe 53] tl) := by kernel_rfl
  have g2 : tV (eMt 1 (callF 103 35) (eV 0) (as1 (eC (.str [116, 101, 108, 108])) as0)) [some (.obj 0), none] (hp 54 0 [p0, p1, pn 4 n1, ps 6 s1, pn 8 n2, ps 10 s2, pn 12 n3, ps 14 s3, pn 16 n4, ps 18 s4, pn 20 n5, ps 22 s5, pn 24 n6, ps 26 s6, pn 28 n7, ps 30 s7, pn 32 n8, ps 34 s8, pn 36 n9, ps 38 s9, pn 40 n10, ps 42 s10, pn 44 n11, ps 46 s11, pn 48 n12, ps 50 s12, pn 52 51, pe 53] tl) = .ok false (hp 54 0 [p0, p1, pn 4 n1, ps 6 s1, pn 8 n2, ps 10 s2, pn 12 n3, ps 14 s3, pn 16 n4, ps 18 s4, pn 20 n5, ps 22 s5, pn 24 n6, ps 26 s6, pn 28 n7, ps 30 s7, pn 32 n8, ps 34 s8, pn 36 n9, ps 38 s9, pn 40 n10, ps 42 s10, pn 44 n11, ps 46 s11, pn 48 n12, ps 50 s12, pn 52 51, pe 53] tl) := by kernel_rfl
  have g3 : sSet 1 (eB (callF 103 51) (as1 (eV 0) as0)) [some (.obj 0), none] (hp 54 0 [p0, p1, pn 4 n1, ps 6 s1, pn 8 n2, ps 10 s2, pn 12 n3, ps 14 s3, pn 16 n4, ps 18 s4, pn 20 n5, ps 22 s5, pn 24 n6, ps 26 s6, pn 28 n7, ps 30 s7, pn 32 n8, ps 34 s8, pn 36 n9, ps 38 s9, pn 40 n10, ps 42 s10, pn 44 n11, ps 46 s11, pn 48 n12, ps 50 s12, pn 52 51, pe 53] tl) = .nx [some (.obj 0), some (.tup [.str [110, 117, 109, 98, 101, 114], .str [113], (.tup [wS s11, (.tup [wS s10, (.tup [wS s9, (.tup [wS s8, (.tup [wS s7, (.tup [wS s6, (.tup [wS s5, (.tup [wS s4, (.tup [wS s3, (.tup [wS s2, (.tup [wS s1, (ld n1), ld n2]), ld n3]), ld n4]), ld n5]), ld n6]), ld n7]), ld n8]), ld n9]), ld n10]), ld n11]), ld n12])])] (hp 54 25 [p0, p1, pn 4 n1, ps 6 s1, pn 8 n2, ps 10 s2, pn 12 n3, ps 14 s3, pn 16 n4, ps 18 s4, pn 20 n5, ps 22 s5, pn 24 n6, ps 26 s6, pn 28 n7, ps 30 s7, pn 32 n8, ps 34 s8, pn 36 n9, ps 38 s9, pn 40 n10, ps 42 s10, pn 44 n11, ps 46 s11, pn 48 n12, ps 50 s12, pn 52 51, pe 53] tl) := evSet (evB (xs := [.obj 0]) rfl (b12_51 hn1 hs1 hn2 hs2 hn3 hs3 hn4 hs4 hn5 hs5 hn6 hs6 hn7 hs7 hn8 hs8 hn9 hs9 hn10 hs10 hn11 hs11 hn12 hs12))
  have g4 : ∀ d : D, sExp (eMt 1 (callF 103 38) (eV 0) as0) [some (.obj 0), some d] (hp 54 25 [p0, p1, pn 4 n1, ps 6 s1, pn 8 n2, ps 10 s2, pn 12 n3, ps 14 s3, pn 16 n4, ps 18 s4, pn 20 n5, ps 22 s5, pn 24 n6, ps 26 s6, pn 28 n7, ps 30 s7, pn 32 n8, ps 34 s8, pn 36 n9, ps 38 s9, pn 40 n10, ps 42 s10, pn 44 n11, ps 46 s11, pn 48 n12, ps 50 s12, pn 52 51, pe 53] tl) = .exc 3 [.int 50] [some (.obj 0), some d] (hp 54 25 [p0, p1, pn 4 n1, ps 6 s1, pn 8 n2, ps 10 s2, pn 12 n3, ps 14 s3, pn 16 n4, ps 18 s4, pn 20 n5, ps 22 s5, pn 24 n6, ps 26 s6, pn 28 n7, ps 30 s7, pn 32 n8, ps 34 s8, pn 36 n9, ps 38 s9, pn 40 n10, ps 42 s10, pn 44 n11, ps 46 s11, pn 48 n12, ps 50 s12, pn 52 51, pe 53] tl) := by
    intro d
    rcases hs12 with rfl | rfl <;> kernel_rfl
  have g5 : b_55 (callF 103) [some (.obj 0), none] (hp 54 0 [p0, p1, pn 4 n1, ps 6 s1, pn 8 n2, ps 10 s2, pn 12 n3, ps 14 s3, pn 16 n4, ps 18 s4, pn 20 n5, ps 22 s5, pn 24 n6, ps 26 s6, pn 28 n7, ps 30 s7, pn 32 n8, ps 34 s8, pn 36 n9, ps 38 s9, pn 40 n10, ps 42 s10, pn 44 n11, ps 46 s11, pn 48 n12, ps 50 s12, pn 52 51, pe 53] tl) = .exc 3 [.int 50] [some (.obj 0), some (.tup [.str [110, 117, 109, 98, 101, 114], .str [113], (.tup [wS s11, (.tup [wS s10, (.tup [wS s9, (.tup [wS s8, (.tup [wS s7, (.tup [wS s6, (.tup [wS s5, (.tup [wS s4, (.tup [wS s3, (.tup [wS s2, (.tup [wS s1, (ld n1), ld n2]), ld n3]), ld n4]), ld n5]), ld n6]), ld n7]), ld n8]), ld n9]), ld n10]), ld n11]), ld n12])])] (hp 54 25 [p0, p1, pn 4 n1, ps 6 s1, pn 8 n2, ps 10 s2, pn 12 n3, ps 14 s3, pn 16 n4, ps 18 s4, pn 20 n5, ps 22 s5, pn 24 n6, ps 26 s6, pn 28 n7, ps 30 s7, pn 32 n8, ps 34 s8, pn 36 n9, ps 38 s9, pn 40 n10, ps 42 s10, pn 44 n11, ps 46 s11, pn 48 n12, ps 50 s12, pn 52 51, pe 53] tl) :=
    (sSq_nx ((sIf_ff g1).trans ((sIf_ff g2).trans g3))).trans (sSq_exc (g4 _))
  exact fnR_exc (np := 1) (n := 2) (xs := [.obj 0]) rfl g5
end
end T

end

section
set_option Elab.async false
set_option linter.all false
set_option maxRecDepth 100000
set_option maxHeartbeats 4000000
namespace T
open PySem Sh

theorem whR_exc {t : Ext} {b : Sm} {f : Nat} {s s2 : Sl} {h h1 h2 : Hd} {c : Nat} {fs : List D} (e : t s h = .ok true h1) (eb : b s h1 = .exc c fs s2 h2) : whR t b (f + 1) s h = .exc c fs s2 h2 := by
  unfold whR
  rw [e]
  show (match b s h1 with
      | .nx s2 h2 => whR t b f s2 h2
      | .ct s2 h2 => whR t b f s2 h2
      | .bk s2 h2 => .nx s2 h2
      | .rt d h2 => .rt d h2
      | .exc c fs s2 h2 => .exc c fs s2 h2
      | .no => .no) = _
  rw [eb]
theorem evExp {e : Ex} {s : Sl} {h h1 : Hd} {d : D} (ee : e s h = .ok d h1) : sExp e s h = .nx s h1 := by
  unfold sExp
  rw [ee]
  rfl
theorem evExp_exc {e : Ex} {s : Sl} {h h1 : Hd} {c : Nat} {fs : List D} (ee : e s h = .exc c fs h1) : sExp e s h = .exc c fs s h1 := by
  unfold sExp
  rw [ee]
  rfl
theorem evApp {e : Ex} {s : Sl} {h h1 : Hd} {i : Nat} {d : D} {ys zs : List D} (hi : s[1]? = some (some (.obj i))) (hl : lsts (.obj i) h = some zs) (ee : e s h = .ok d h1) (hz : h1[i]? = some (.lst ys)) (hM : ys.length < M) :
    eM oApp (eV 1) (as1 e as0) s h = .ok .non (h1.set i (.lst (ys ++ [d]))) := by
  have e0 : eV 1 s h = .ok (.obj i) h := by
    unfold eV
    rw [hi]
  unfold eM
  rw [e0]
  show (match lsts (.obj i) h with
    | some _ => (as1 e as0 s h).bind fun xs h2 => oApp (.obj i) xs h2
    | none => .no) = _
  rw [hl, eva1 ee rfl]
  show (match h1[i]? with
    | some (.lst zs) => if zs.length < M then R.ok D.non (h1.set i (.lst (zs ++ [d]))) else .no
    | _ => .no) = _
  rw [hz]
  exact if_pos hM
theorem evApp_exc {e : Ex} {s : Sl} {h h1 : Hd} {i : Nat} {c : Nat} {fs : List D} {zs : List D} (hi : s[1]? = some (some (.obj i))) (hl : lsts (.obj i) h = some zs) (ee : e s h = .exc c fs h1) :
    eM oApp (eV 1) (as1 e as0) s h = .exc c fs h1 := by
  have e0 : eV 1 s h = .ok (.obj i) h := by
    unfold eV
    rw [hi]
  unfold eM
  rw [e0]
  show (match lsts (.obj i) h with
    | some _ => (as1 e as0 s h).bind fun xs h2 => oApp (.obj i) xs h2
    | none => .no) = _
  rw [hl]
  unfold as1
  rw [ee]
  rfl
theorem evFl {t : List (Nat × Nat)} {o e : Ex} {s : Sl} {h h1 h2 : Hd} {x y : D} {r : RS} (ee : e s h = .ok y h1) (eo : o s h1 = .ok x h2) (er : oSt t s x y h2 = r) : sFl t o e s h = r := by
  unfold sFl
  rw [ee]
  show rS (o s h1) s _ = _
  rw [eo]
  exact er
theorem evMk {c : Nat} {g : Fn} {a : Exs} {s : Sl} {h h1 h2 : Hd} {xs : List D} (ea : a s h = .ok xs h1) (eg : g (.obj h1.length :: xs) (h1 ++ [.ins c []]) = .ok .non h2) : eMk c g a s h = .ok (.obj h1.length) h2 := by
  unfold eMk
  rw [ea]
  show R.bind (g (.obj h1.length :: xs) (h1 ++ [.ins c []])) _ = _
  rw [eg]
  rfl
theorem sTr_nx {c i : Nat} {b : Sm} {s s1 : Sl} {h h1 : Hd} (e : b s h = .nx s1 h1) : sTr c i b s h = .nx s1 h1 := by
  unfold sTr
  rw [e]
theorem sTr_exc {c i : Nat} {b : Sm} {s s1 : Sl} {h h1 : Hd} {d : D} (e : b s h = .exc c [d] s1 h1) (hi : i < s1.length) : sTr c i b s h = .rt (.tup [.non, d]) h1 := by
  unfold sTr
  rw [e]
  exact if_pos ⟨rfl, hi⟩
def w56 (G : Nat → Fn) : Ext := tN (tV (eMt 1 (G 31) (eV 0) as0))
def y56 (G : Nat → Fn) : Sm := (sSq (sIf (tB1 (e2 (oEq false) (eB oLen (as1 (eV 1) as0)) (eC k_MOST_ROWS)))
    (sRz 3 (as1 (eMt 1 (G 32) (eV 0) as0) as0))
    sPs)
    (sExp (eM oApp (eV 1) (as1 (eB (G 55) (as1 (eV 0) as0)) as0))))
theorem b56_eq (G : Nat → Fn) : b_56 G = sSq (sSet 1 (eLst as0)) (sSq (sWh (w56 G) (y56 G)) (sRet (eV 1))) := rfl
theorem SSA {s : Nat} (h : SA s) : SS s := h.elim .inl fun h => .inr (.inl h)
theorem SSB {s : Nat} (h : SB s) : SS s := .inr (.inr h)
theorem tup1 {a : D} (ha : a.pure = true) : (D.tup [a]).pure = true := by
  show (a.pure && true) = true
  rw [ha]
  rfl
section
variable {X : List Nat} {PL : List D} {row val : D} {sz : Nat}
abbrev U0 : Sl := [some (.obj 0), none]
abbrev U1 : Sl := [some (.obj 0), some (.obj 2)]
theorem gen56 (c55 : c_55 (callF 103) [.obj 0] (hp sz 0 PL [.lst []]) = .ok row (hp sz 26 PL [.lst []]))
    (g2 : w56 (callF 104) U1 (hp sz 0 PL [.lst []]) = .ok true (hp sz 0 PL [.lst []])) (g6 : ∀ d : D, w56 (callF 104) U1 (hp sz 26 PL [.lst [d]]) = .ok false (hp sz 26 PL [.lst [d]])) :
    c_56 (callF 104) [.obj 0] (hp sz 0 PL []) = .ok (.obj 2) (hp sz 26 PL [.lst [row]]) := by
  have g1 : sSet 1 (eLst as0) U0 (hp sz 0 PL []) = .nx U1 (hp sz 0 PL [.lst []]) := by kernel_rfl
  have g3 : tB1 (e2 (oEq false) (eB oLen (as1 (eV 1) as0)) (eC k_MOST_ROWS)) U1 (hp sz 0 PL [.lst []]) = .ok false (hp sz 0 PL [.lst []]) := by kernel_rfl
  have g4 : eM oApp (eV 1) (as1 (eB (callF 104 55) (as1 (eV 0) as0)) as0) U1 (hp sz 0 PL [.lst []]) = .ok .non (hp sz 26 PL [.lst [row]]) :=
    evApp (i := 2) (ys := []) (zs := []) rfl rfl (evB (op := callF 104 55) (xs := [.obj 0]) rfl c55) rfl (show 0 < M by unfold M; omega)
  have g5 : y56 (callF 104) U1 (hp sz 0 PL [.lst []]) = .nx U1 (hp sz 26 PL [.lst [row]]) := (sSq_nx ((sIf_ff g3).trans rfl)).trans (evExp g4)
  have g7 : b_56 (callF 104) U0 (hp sz 0 PL []) = .rt (.obj 2) (hp sz 26 PL [.lst [row]]) :=
    (sSq_nx g1).trans ((sSq_nx ((whR_go (f := 999999) g2 g5).trans (whR_end (f := 999998) (g6 _)))).trans rfl)
  exact fnR_of (np := 1) (n := 2) (xs := [.obj 0]) rfl g7 rfl
theorem gen56x (c55 : c_55 (callF 103) [.obj 0] (hp sz 0 PL [.lst []]) = .exc 3 [val] (hp sz 25 PL [.lst []]))
    (g2 : w56 (callF 104) U1 (hp sz 0 PL [.lst []]) = .ok true (hp sz 0 PL [.lst []])) :
    c_56 (callF 104) [.obj 0] (hp sz 0 PL []) = .exc 3 [val] (hp sz 25 PL [.lst []]) := by
  have g1 : sSet 1 (eLst as0) U0 (hp sz 0 PL []) = .nx U1 (hp sz 0 PL [.lst []]) := by kernel_rfl
  have g3 : tB1 (e2 (oEq false) (eB oLen (as1 (eV 1) as0)) (eC k_MOST_ROWS)) U1 (hp sz 0 PL [.lst []]) = .ok false (hp sz 0 PL [.lst []]) := by kernel_rfl
  have g4 : eM oApp (eV 1) (as1 (eB (callF 104 55) (as1 (eV 0) as0)) as0) U1 (hp sz 0 PL [.lst []]) = .exc 3 [val] (hp sz 25 PL [.lst []]) :=
    evApp_exc (i := 2) (zs := []) rfl rfl (evB (op := callF 104 55) (xs := [.obj 0]) rfl c55)
  have g5 : y56 (callF 104) U1 (hp sz 0 PL [.lst []]) = .exc 3 [val] U1 (hp sz 25 PL [.lst []]) := (sSq_nx ((sIf_ff g3).trans rfl)).trans (evExp_exc g4)
  have g7 : b_56 (callF 104) U0 (hp sz 0 PL []) = .exc 3 [val] U1 (hp sz 25 PL [.lst []]) :=
    (sSq_nx g1).trans (sSq_exc (whR_exc (f := 999999) g2 g5))
  exact fnR_exc (np := 1) (n := 2) (xs := [.obj 0]) rfl g7
theorem gen30 (hX : X.length ≤ M) (hpl : D.pures PL = true) (pc : c_11 (callF 103) [.str X] [] = .ok (.obj 0) [.lst PL]) : c_30 (callF 104) [.obj 0, .str X] [.ins 1 []] = .ok .non (hp X.length 0 PL []) := by
  have g1 : eP (callF 104 11) (as1 (eV 1) as0) [some (.obj 0), some (.str X)] [.ins 1 []] = .ok (.obj 1) [.ins 1 [], .lst PL] :=
    eP_of (f := callF 104 11) (h1 := [.ins 1 []]) (j := 0) (xs := [.str X]) rfl rfl pc rfl hpl
  have g2 : sFl t_pieces (eV 0) (eP (callF 104 11) (as1 (eV 1) as0)) [some (.obj 0), some (.str X)] [.ins 1 []] = .nx [some (.obj 0), some (.str X)] [.ins 1 [.obj 1], .lst PL] := evFl g1 rfl rfl
  have gl : eB oLen (as1 (eV 1) as0) [some (.obj 0), some (.str X)] [.ins 1 [.obj 1], .lst PL] = .ok (.int (X.length : Nat)) [.ins 1 [.obj 1], .lst PL] := evB1 rfl (if_pos hX)
  have ga : sFl t_size (eV 0) (eB oLen (as1 (eV 1) as0)) [some (.obj 0), some (.str X)] [.ins 1 [.obj 1], .lst PL] = .nx [some (.obj 0), some (.str X)] [.ins 1 [.obj 1, .int (X.length : Nat)], .lst PL] := evFl gl rfl rfl
  have gb : sFl t_at (eV 0) (eC (.int 0)) [some (.obj 0), some (.str X)] [.ins 1 [.obj 1, .int (X.length : Nat)], .lst PL] = .nx [some (.obj 0), some (.str X)] (hp X.length 0 PL []) := evFl rfl rfl rfl
  have g3 := (sSq_nx ga).trans gb
  have g4 : b_30 (callF 104) [some (.obj 0), some (.str X)] [.ins 1 []] = .nx [some (.obj 0), some (.str X)] (hp X.length 0 PL []) := (sSq_nx g2).trans g3
  exact fnR_of (np := 2) (n := 2) (xs := [.obj 0, .str X]) rfl g4 rfl
def l57 : Ext := (tAn (tB1 (e2 (oEq true) (eV 0) (eC (.str [])))) (tB1 (e2 (oEq true) (e2 oIx (eV 0) (e1 oNeg (eC (.int 1)))) (eC k_LINE_END))))
theorem gen57 (c30 : c_30 (callF 104) [.obj 0, .str X] [.ins 1 []] = .ok .non (hp sz 0 PL [])) (c56 : c_56 (callF 104) [.obj 0] (hp sz 0 PL []) = .ok (.obj 2) (hp sz 26 PL [.lst [row]]))
    (g3 : ∀ h, l57 [some (.str X), some (.obj 2), none] h = .ok false h) : c_57 (callF 105) [.str X] [] = .ok (.tup [.tup [row], .non]) (hp sz 26 PL [.lst [row]]) := by
  have g1 : eMk 1 (callF 105 30) (as1 (eV 0) as0) [some (.str X), none, none] [] = .ok (.obj 0) (hp sz 0 PL []) := evMk (g := callF 105 30) (h1 := []) (xs := [.str X]) rfl c30
  have g2 : sSet 1 (eB (callF 105 56) (as1 (eMk 1 (callF 105 30) (as1 (eV 0) as0)) as0)) [some (.str X), none, none] [] = .nx [some (.str X), some (.obj 2), none] (hp sz 26 PL [.lst [row]]) := evSet (evB (op := callF 105 56) (xs := [.obj 0]) (eva1 g1 rfl) c56)
  have g4 : (eTup (as1 (eB oTup (as1 (eV 1) as0)) (as1 (eC .non) as0))) [some (.str X), some (.obj 2), none] (hp sz 26 PL [.lst [row]]) = .ok (.tup [.tup [row], .non]) (hp sz 26 PL [.lst [row]]) := by kernel_rfl
  have g5 : b_57 (callF 105) [some (.str X), none, none] [] = .rt (.tup [.tup [row], .non]) (hp sz 26 PL [.lst [row]]) :=
    (sSq_nx (sTr_nx g2)).trans ((sSq_nx ((sIf_ff (t := l57) (g3 _)).trans rfl)).trans (sRet_of g4))
  exact fnR_of (np := 1) (n := 3) (xs := [.str X]) rfl g5 rfl
theorem gen57x (c30 : c_30 (callF 104) [.obj 0, .str X] [.ins 1 []] = .ok .non (hp sz 0 PL [])) (c56 : c_56 (callF 104) [.obj 0] (hp sz 0 PL []) = .exc 3 [val] (hp sz 25 PL [.lst []])) :
    c_57 (callF 105) [.str X] [] = .ok (.tup [.non, val]) (hp sz 25 PL [.lst []]) := by
  have g1 : eMk 1 (callF 105 30) (as1 (eV 0) as0) [some (.str X), none, none] [] = .ok (.obj 0) (hp sz 0 PL []) := evMk (g := callF 105 30) (h1 := []) (xs := [.str X]) rfl c30
  have g2 : sSet 1 (eB (callF 105 56) (as1 (eMk 1 (callF 105 30) (as1 (eV 0) as0)) as0)) [some (.str X), none, none] [] = .exc 3 [val] [some (.str X), none, none] (hp sz 25 PL [.lst []]) := evSet_exc (evB (op := callF 105 56) (xs := [.obj 0]) (eva1 g1 rfl) c56)
  have g5 : b_57 (callF 105) [some (.str X), none, none] [] = .rt (.tup [.non, val]) (hp sz 25 PL [.lst []]) := sSq_rt (sTr_exc g2 (show 2 < 3 by omega))
  exact fnR_of (np := 1) (n := 3) (xs := [.str X]) rfl g5 rfl
theorem gen78 {a : D} {h : Hd} (g0 : c_57 (callF 105) [.str X] [] = .ok (.tup [a, val]) h) (ha : a.pure = true) (hv : val.pure = true) : callF 108 78 [.str X] [] = .ok val [] := by
  have gp : (D.tup [a, val]).pure = true := by
    show (a.pure && (val.pure && true)) = true
    rw [ha, hv]
    rfl
  have g1 : sExp (eQ (callF 106 68) (as1 (eV 0) as0)) [some (.str X)] [] = .nx [some (.str X)] [] := by kernel_rfl
  have g2 : eQ (callF 106 57) (as1 (eV 0) as0) [some (.str X)] [] = .ok (.tup [a, val]) [] := eQ_of (f := callF 106 57) (xs := [.str X]) rfl rfl g0 gp
  have g3 : e2 oIx (eQ (callF 106 57) (as1 (eV 0) as0)) (eC (.int 1)) [some (.str X)] [] = .ok val [] := ev2 g2 rfl rfl
  have g4 : c_69 (callF 106) [.str X] [] = .ok val [] := fnR_of (np := 1) (n := 1) (xs := [.str X]) (b := b_69 (callF 106)) rfl ((sSq_nx g1).trans (sRet_of g3)) rfl
  have g5 : eQ (callF 107 69) (as1 (eV 0) as0) [some (.str X)] [] = .ok val [] := eQ_of (f := callF 107 69) (xs := [.str X]) rfl rfl g4 hv
  exact fnR_of (np := 1) (n := 1) (xs := [.str X]) (b := b_78 (callF 107)) rfl (sRet_of g5) rfl
end
section
variable {n1 s1 n2 s2 n3 s3 n4 s4 n5 s5 n6 s6 n7 s7 n8 s8 n9 s9 n10 s10 n11 s11 : Nat}
theorem a11_w : w56 (callF 104) U1 (hp 50 0 [p0, p1, pn 4 n1, ps 6 s1, pn 8 n2, ps 10 s2, pn 12 n3, ps 14 s3, pn 16 n4, ps 18 s4, pn 20 n5, ps 22 s5, pn 24 n6, ps 26 s6, pn 28 n7, ps 30 s7, pn 32 n8, ps 34 s8, pn 36 n9, ps 38 s9, pn 40 n10, ps 42 s10, pn 44 n11, ps 46 s11, pn 48 51, pe 49] [.lst []]) = .ok true (hp 50 0 [p0, p1, pn 4 n1, ps 6 s1, pn 8 n2, ps 10 s2, pn 12 n3, ps 14 s3, pn 16 n4, ps 18 s4, pn 20 n5, ps 22 s5, pn 24 n6, ps 26 s6, pn 28 n7, ps 30 s7, pn 32 n8, ps 34 s8, pn 36 n9, ps 38 s9, pn 40 n10, ps 42 s10, pn 44 n11, ps 46 s11, pn 48 51, pe 49] [.lst []]) := by kernel_rfl
theorem a11_pp : D.pures [p0, p1, pn 4 n1, ps 6 s1, pn 8 n2, ps 10 s2, pn 12 n3, ps 14 s3, pn 16 n4, ps 18 s4, pn 20 n5, ps 22 s5, pn 24 n6, ps 26 s6, pn 28 n7, ps 30 s7, pn 32 n8, ps 34 s8, pn 36 n9, ps 38 s9, pn 40 n10, ps 42 s10, pn 44 n11, ps 46 s11, pn 48 51, pe 49] = true := by kernel_rfl
theorem a11_30 (hn1 : NN n1) (hs1 : SA s1) (hn2 : NN n2) (hs2 : SA s2) (hn3 : NN n3) (hs3 : SA s3) (hn4 : NN n4) (hs4 : SA s4) (hn5 : NN n5) (hs5 : SA s5) (hn6 : NN n6) (hs6 : SA s6) (hn7 : NN n7) (hs7 : SA s7) (hn8 : NN n8) (hs8 : SA s8) (hn9 : NN n9) (hs9 : SA s9) (hn10 : NN n10) (hs10 : SA s10) (hn11 : NN n11) (hs11 : SA s11) : c_30 (callF 104) [.obj 0, .str [113, 32, 61, 32, n1, 32, s1, 32, n2, 32, s2, 32, n3, 32, s3, 32, n4, 32, s4, 32, n5, 32, s5, 32, n6, 32, s6, 32, n7, 32, s7, 32, n8, 32, s8, 32, n9, 32, s9, 32, n10, 32, s10, 32, n11, 32, s11, 32, 51, 10]] [.ins 1 []] = .ok .non (hp 50 0 [p0, p1, pn 4 n1, ps 6 s1, pn 8 n2, ps 10 s2, pn 12 n3, ps 14 s3, pn 16 n4, ps 18 s4, pn 20 n5, ps 22 s5, pn 24 n6, ps 26 s6, pn 28 n7, ps 30 s7, pn 32 n8, ps 34 s8, pn 36 n9, ps 38 s9, pn 40 n10, ps 42 s10, pn 44 n11, ps 46 s11, pn 48 51, pe 49] []) := gen30 (show 50 ≤ M by unfold M; omega) a11_pp (pc11 hn1 (SSA hs1) hn2 (SSA hs2) hn3 (SSA hs3) hn4 (SSA hs4) hn5 (SSA hs5) hn6 (SSA hs6) hn7 (SSA hs7) hn8 (SSA hs8) hn9 (SSA hs9) hn10 (SSA hs10) hn11 (SSA hs11))
theorem a11_v : ∀ d : D, w56 (callF 104) U1 (hp 50 26 [p0, p1, pn 4 n1, ps 6 s1, pn 8 n2, ps 10 s2, pn 12 n3, ps 14 s3, pn 16 n4, ps 18 s4, pn 20 n5, ps 22 s5, pn 24 n6, ps 26 s6, pn 28 n7, ps 30 s7, pn 32 n8, ps 34 s8, pn 36 n9, ps 38 s9, pn 40 n10, ps 42 s10, pn 44 n11, ps 46 s11, pn 48 51, pe 49] [.lst [d]]) = .ok false (hp 50 26 [p0, p1, pn 4 n1, ps 6 s1, pn 8 n2, ps 10 s2, pn 12 n3, ps 14 s3, pn 16 n4, ps 18 s4, pn 20 n5, ps 22 s5, pn 24 n6, ps 26 s6, pn 28 n7, ps 30 s7, pn 32 n8, ps 34 s8, pn 36 n9, ps 38 s9, pn 40 n10, ps 42 s10, pn 44 n11, ps 46 s11, pn 48 51, pe 49] [.lst [d]]) := by intro d; kernel_rfl
theorem a11_l : ∀ h, l57 [some (.str [113, 32, 61, 32, n1, 32, s1, 32, n2, 32, s2, 32, n3, 32, s3, 32, n4, 32, s4, 32, n5, 32, s5, 32, n6, 32, s6, 32, n7, 32, s7, 32, n8, 32, s8, 32, n9, 32, s9, 32, n10, 32, s10, 32, n11, 32, s11, 32, 51, 10]), some (.obj 2), none] h = .ok false h := by intro h; kernel_rfl
theorem a11_78 (hn1 : NN n1) (hs1 : SA s1) (hn2 : NN n2) (hs2 : SA s2) (hn3 : NN n3) (hs3 : SA s3) (hn4 : NN n4) (hs4 : SA s4) (hn5 : NN n5) (hs5 : SA s5) (hn6 : NN n6) (hs6 : SA s6) (hn7 : NN n7) (hs7 : SA s7) (hn8 : NN n8) (hs8 : SA s8) (hn9 : NN n9) (hs9 : SA s9) (hn10 : NN n10) (hs10 : SA s10) (hn11 : NN n11) (hs11 : SA s11) : callF 108 78 [.str [113, 32, 61, 32, n1, 32, s1, 32, n2, 32, s2, 32, n3, 32, s3, 32, n4, 32, s4, 32, n5, 32, s5, 32, n6, 32, s6, 32, n7, 32, s7, 32, n8, 32, s8, 32, n9, 32, s9, 32, n10, 32, s10, 32, n11, 32, s11, 32, 51, 10]] [] = .ok .non [] := gen78 (gen57 (a11_30 hn1 hs1 hn2 hs2 hn3 hs3 hn4 hs4 hn5 hs5 hn6 hs6 hn7 hs7 hn8 hs8 hn9 hs9 hn10 hs10 hn11 hs11) (gen56 (a11_55 (tl := [.lst []]) hn1 hs1 hn2 hs2 hn3 hs3 hn4 hs4 hn5 hs5 hn6 hs6 hn7 hs7 hn8 hs8 hn9 hs9 hn10 hs10 hn11 hs11) a11_w a11_v) a11_l) (tup1 (tup3 rfl rfl a11_p)) rfl
end
section
variable {n1 s1 n2 s2 n3 s3 n4 s4 n5 s5 n6 s6 n7 s7 n8 s8 n9 s9 n10 s10 n11 s11 : Nat}
theorem b11_w : w56 (callF 104) U1 (hp 50 0 [p0, p1, pn 4 n1, ps 6 s1, pn 8 n2, ps 10 s2, pn 12 n3, ps 14 s3, pn 16 n4, ps 18 s4, pn 20 n5, ps 22 s5, pn 24 n6, ps 26 s6, pn 28 n7, ps 30 s7, pn 32 n8, ps 34 s8, pn 36 n9, ps 38 s9, pn 40 n10, ps 42 s10, pn 44 n11, ps 46 s11, pn 48 51, pe 49] [.lst []]) = .ok true (hp 50 0 [p0, p1, pn 4 n1, ps 6 s1, pn 8 n2, ps 10 s2, pn 12 n3, ps 14 s3, pn 16 n4, ps 18 s4, pn 20 n5, ps 22 s5, pn 24 n6, ps 26 s6, pn 28 n7, ps 30 s7, pn 32 n8, ps 34 s8, pn 36 n9, ps 38 s9, pn 40 n10, ps 42 s10, pn 44 n11, ps 46 s11, pn 48 51, pe 49] [.lst []]) := by kernel_rfl
theorem b11_pp : D.pures [p0, p1, pn 4 n1, ps 6 s1, pn 8 n2, ps 10 s2, pn 12 n3, ps 14 s3, pn 16 n4, ps 18 s4, pn 20 n5, ps 22 s5, pn 24 n6, ps 26 s6, pn 28 n7, ps 30 s7, pn 32 n8, ps 34 s8, pn 36 n9, ps 38 s9, pn 40 n10, ps 42 s10, pn 44 n11, ps 46 s11, pn 48 51, pe 49] = true := by kernel_rfl
theorem b11_30 (hn1 : NN n1) (hs1 : SB s1) (hn2 : NN n2) (hs2 : SB s2) (hn3 : NN n3) (hs3 : SB s3) (hn4 : NN n4) (hs4 : SB s4) (hn5 : NN n5) (hs5 : SB s5) (hn6 : NN n6) (hs6 : SB s6) (hn7 : NN n7) (hs7 : SB s7) (hn8 : NN n8) (hs8 : SB s8) (hn9 : NN n9) (hs9 : SB s9) (hn10 : NN n10) (hs10 : SB s10) (hn11 : NN n11) (hs11 : SB s11) : c_30 (callF 104) [.obj 0, .str [113, 32, 61, 32, n1, 32, s1, 32, n2, 32, s2, 32, n3, 32, s3, 32, n4, 32, s4, 32, n5, 32, s5, 32, n6, 32, s6, 32, n7, 32, s7, 32, n8, 32, s8, 32, n9, 32, s9, 32, n10, 32, s10, 32, n11, 32, s11, 32, 51, 10]] [.ins 1 []] = .ok .non (hp 50 0 [p0, p1, pn 4 n1, ps 6 s1, pn 8 n2, ps 10 s2, pn 12 n3, ps 14 s3, pn 16 n4, ps 18 s4, pn 20 n5, ps 22 s5, pn 24 n6, ps 26 s6, pn 28 n7, ps 30 s7, pn 32 n8, ps 34 s8, pn 36 n9, ps 38 s9, pn 40 n10, ps 42 s10, pn 44 n11, ps 46 s11, pn 48 51, pe 49] []) := gen30 (show 50 ≤ M by unfold M; omega) b11_pp (pc11 hn1 (SSB hs1) hn2 (SSB hs2) hn3 (SSB hs3) hn4 (SSB hs4) hn5 (SSB hs5) hn6 (SSB hs6) hn7 (SSB hs7) hn8 (SSB hs8) hn9 (SSB hs9) hn10 (SSB hs10) hn11 (SSB hs11))
theorem b11_v : ∀ d : D, w56 (callF 104) U1 (hp 50 26 [p0, p1, pn 4 n1, ps 6 s1, pn 8 n2, ps 10 s2, pn 12 n3, ps 14 s3, pn 16 n4, ps 18 s4, pn 20 n5, ps 22 s5, pn 24 n6, ps 26 s6, pn 28 n7, ps 30 s7, pn 32 n8, ps 34 s8, pn 36 n9, ps 38 s9, pn 40 n10, ps 42 s10, pn 44 n11, ps 46 s11, pn 48 51, pe 49] [.lst [d]]) = .ok false (hp 50 26 [p0, p1, pn 4 n1, ps 6 s1, pn 8 n2, ps 10 s2, pn 12 n3, ps 14 s3, pn 16 n4, ps 18 s4, pn 20 n5, ps 22 s5, pn 24 n6, ps 26 s6, pn 28 n7, ps 30 s7, pn 32 n8, ps 34 s8, pn 36 n9, ps 38 s9, pn 40 n10, ps 42 s10, pn 44 n11, ps 46 s11, pn 48 51, pe 49] [.lst [d]]) := by intro d; kernel_rfl
theorem b11_l : ∀ h, l57 [some (.str [113, 32, 61, 32, n1, 32, s1, 32, n2, 32, s2, 32, n3, 32, s3, 32, n4, 32, s4, 32, n5, 32, s5, 32, n6, 32, s6, 32, n7, 32, s7, 32, n8, 32, s8, 32, n9, 32, s9, 32, n10, 32, s10, 32, n11, 32, s11, 32, 51, 10]), some (.obj 2), none] h = .ok false h := by intro h; kernel_rfl
theorem b11_78 (hn1 : NN n1) (hs1 : SB s1) (hn2 : NN n2) (hs2 : SB s2) (hn3 : NN n3) (hs3 : SB s3) (hn4 : NN n4) (hs4 : SB s4) (hn5 : NN n5) (hs5 : SB s5) (hn6 : NN n6) (hs6 : SB s6) (hn7 : NN n7) (hs7 : SB s7) (hn8 : NN n8) (hs8 : SB s8) (hn9 : NN n9) (hs9 : SB s9) (hn10 : NN n10) (hs10 : SB s10) (hn11 : NN n11) (hs11 : SB s11) : callF 108 78 [.str [113, 32, 61, 32, n1, 32, s1, 32, n2, 32, s2, 32, n3, 32, s3, 32, n4, 32, s4, 32, n5, 32, s5, 32, n6, 32, s6, 32, n7, 32, s7, 32, n8, 32, s8, 32, n9, 32, s9, 32, n10, 32, s10, 32, n11, 32, s11, 32, 51, 10]] [] = .ok .non [] := gen78 (gen57 (b11_30 hn1 hs1 hn2 hs2 hn3 hs3 hn4 hs4 hn5 hs5 hn6 hs6 hn7 hs7 hn8 hs8 hn9 hs9 hn10 hs10 hn11 hs11) (gen56 (b11_55 (tl := [.lst []]) hn1 hs1 hn2 hs2 hn3 hs3 hn4 hs4 hn5 hs5 hn6 hs6 hn7 hs7 hn8 hs8 hn9 hs9 hn10 hs10 hn11 hs11) b11_w b11_v) b11_l) (tup1 (tup3 rfl rfl b11_p)) rfl
end
section
variable {n1 s1 n2 s2 n3 s3 n4 s4 n5 s5 n6 s6 n7 s7 n8 s8 n9 s9 n10 s10 n11 s11 n12 s12 : Nat}
theorem a12_w : w56 (callF 104) U1 (hp 54 0 [p0, p1, pn 4 n1, ps 6 s1, pn 8 n2, ps 10 s2, pn 12 n3, ps 14 s3, pn 16 n4, ps 18 s4, pn 20 n5, ps 22 s5, pn 24 n6, ps 26 s6, pn 28 n7, ps 30 s7, pn 32 n8, ps 34 s8, pn 36 n9, ps 38 s9, pn 40 n10, ps 42 s10, pn 44 n11, ps 46 s11, pn 48 n12, ps 50 s12, pn 52 51, pe 53] [.lst []]) = .ok true (hp 54 0 [p0, p1, pn 4 n1, ps 6 s1, pn 8 n2, ps 10 s2, pn 12 n3, ps 14 s3, pn 16 n4, ps 18 s4, pn 20 n5, ps 22 s5, pn 24 n6, ps 26 s6, pn 28 n7, ps 30 s7, pn 32 n8, ps 34 s8, pn 36 n9, ps 38 s9, pn 40 n10, ps 42 s10, pn 44 n11, ps 46 s11, pn 48 n12, ps 50 s12, pn 52 51, pe 53] [.lst []]) := by kernel_rfl
theorem a12_pp : D.pures [p0, p1, pn 4 n1, ps 6 s1, pn 8 n2, ps 10 s2, pn 12 n3, ps 14 s3, pn 16 n4, ps 18 s4, pn 20 n5, ps 22 s5, pn 24 n6, ps 26 s6, pn 28 n7, ps 30 s7, pn 32 n8, ps 34 s8, pn 36 n9, ps 38 s9, pn 40 n10, ps 42 s10, pn 44 n11, ps 46 s11, pn 48 n12, ps 50 s12, pn 52 51, pe 53] = true := by kernel_rfl
theorem a12_30 (hn1 : NN n1) (hs1 : SA s1) (hn2 : NN n2) (hs2 : SA s2) (hn3 : NN n3) (hs3 : SA s3) (hn4 : NN n4) (hs4 : SA s4) (hn5 : NN n5) (hs5 : SA s5) (hn6 : NN n6) (hs6 : SA s6) (hn7 : NN n7) (hs7 : SA s7) (hn8 : NN n8) (hs8 : SA s8) (hn9 : NN n9) (hs9 : SA s9) (hn10 : NN n10) (hs10 : SA s10) (hn11 : NN n11) (hs11 : SA s11) (hn12 : NN n12) (hs12 : SA s12) : c_30 (callF 104) [.obj 0, .str [113, 32, 61, 32, n1, 32, s1, 32, n2, 32, s2, 32, n3, 32, s3, 32, n4, 32, s4, 32, n5, 32, s5, 32, n6, 32, s6, 32, n7, 32, s7, 32, n8, 32, s8, 32, n9, 32, s9, 32, n10, 32, s10, 32, n11, 32, s11, 32, n12, 32, s12, 32, 51, 10]] [.ins 1 []] = .ok .non (hp 54 0 [p0, p1, pn 4 n1, ps 6 s1, pn 8 n2, ps 10 s2, pn 12 n3, ps 14 s3, pn 16 n4, ps 18 s4, pn 20 n5, ps 22 s5, pn 24 n6, ps 26 s6, pn 28 n7, ps 30 s7, pn 32 n8, ps 34 s8, pn 36 n9, ps 38 s9, pn 40 n10, ps 42 s10, pn 44 n11, ps 46 s11, pn 48 n12, ps 50 s12, pn 52 51, pe 53] []) := gen30 (show 54 ≤ M by unfold M; omega) a12_pp (pc12 hn1 (SSA hs1) hn2 (SSA hs2) hn3 (SSA hs3) hn4 (SSA hs4) hn5 (SSA hs5) hn6 (SSA hs6) hn7 (SSA hs7) hn8 (SSA hs8) hn9 (SSA hs9) hn10 (SSA hs10) hn11 (SSA hs11) hn12 (SSA hs12))
theorem a12_78 (hn1 : NN n1) (hs1 : SA s1) (hn2 : NN n2) (hs2 : SA s2) (hn3 : NN n3) (hs3 : SA s3) (hn4 : NN n4) (hs4 : SA s4) (hn5 : NN n5) (hs5 : SA s5) (hn6 : NN n6) (hs6 : SA s6) (hn7 : NN n7) (hs7 : SA s7) (hn8 : NN n8) (hs8 : SA s8) (hn9 : NN n9) (hs9 : SA s9) (hn10 : NN n10) (hs10 : SA s10) (hn11 : NN n11) (hs11 : SA s11) (hn12 : NN n12) (hs12 : SA s12) : callF 108 78 [.str [113, 32, 61, 32, n1, 32, s1, 32, n2, 32, s2, 32, n3, 32, s3, 32, n4, 32, s4, 32, n5, 32, s5, 32, n6, 32, s6, 32, n7, 32, s7, 32, n8, 32, s8, 32, n9, 32, s9, 32, n10, 32, s10, 32, n11, 32, s11, 32, n12, 32, s12, 32, 51, 10]] [] = .ok (.int 50) [] := gen78 (gen57x (a12_30 hn1 hs1 hn2 hs2 hn3 hs3 hn4 hs4 hn5 hs5 hn6 hs6 hn7 hs7 hn8 hs8 hn9 hs9 hn10 hs10 hn11 hs11 hn12 hs12) (gen56x (a12_55 (tl := [.lst []]) hn1 hs1 hn2 hs2 hn3 hs3 hn4 hs4 hn5 hs5 hn6 hs6 hn7 hs7 hn8 hs8 hn9 hs9 hn10 hs10 hn11 hs11 hn12 hs12) a12_w)) rfl rfl
end
section
variable {n1 s1 n2 s2 n3 s3 n4 s4 n5 s5 n6 s6 n7 s7 n8 s8 n9 s9 n10 s10 n11 s11 n12 s12 : Nat}
theorem b12_w : w56 (callF 104) U1 (hp 54 0 [p0, p1, pn 4 n1, ps 6 s1, pn 8 n2, ps 10 s2, pn 12 n3, ps 14 s3, pn 16 n4, ps 18 s4, pn 20 n5, ps 22 s5, pn 24 n6, ps 26 s6, pn 28 n7, ps 30 s7, pn 32 n8, ps 34 s8, pn 36 n9, ps 38 s9, pn 40 n10, ps 42 s10, pn 44 n11, ps 46 s11, pn 48 n12, ps 50 s12, pn 52 51, pe 53] [.lst []]) = .ok true (hp 54 0 [p0, p1, pn 4 n1, ps 6 s1, pn 8 n2, ps 10 s2, pn 12 n3, ps 14 s3, pn 16 n4, ps 18 s4, pn 20 n5, ps 22 s5, pn 24 n6, ps 26 s6, pn 28 n7, ps 30 s7, pn 32 n8, ps 34 s8, pn 36 n9, ps 38 s9, pn 40 n10, ps 42 s10, pn 44 n11, ps 46 s11, pn 48 n12, ps 50 s12, pn 52 51, pe 53] [.lst []]) := by kernel_rfl
theorem b12_pp : D.pures [p0, p1, pn 4 n1, ps 6 s1, pn 8 n2, ps 10 s2, pn 12 n3, ps 14 s3, pn 16 n4, ps 18 s4, pn 20 n5, ps 22 s5, pn 24 n6, ps 26 s6, pn 28 n7, ps 30 s7, pn 32 n8, ps 34 s8, pn 36 n9, ps 38 s9, pn 40 n10, ps 42 s10, pn 44 n11, ps 46 s11, pn 48 n12, ps 50 s12, pn 52 51, pe 53] = true := by kernel_rfl
theorem b12_30 (hn1 : NN n1) (hs1 : SB s1) (hn2 : NN n2) (hs2 : SB s2) (hn3 : NN n3) (hs3 : SB s3) (hn4 : NN n4) (hs4 : SB s4) (hn5 : NN n5) (hs5 : SB s5) (hn6 : NN n6) (hs6 : SB s6) (hn7 : NN n7) (hs7 : SB s7) (hn8 : NN n8) (hs8 : SB s8) (hn9 : NN n9) (hs9 : SB s9) (hn10 : NN n10) (hs10 : SB s10) (hn11 : NN n11) (hs11 : SB s11) (hn12 : NN n12) (hs12 : SB s12) : c_30 (callF 104) [.obj 0, .str [113, 32, 61, 32, n1, 32, s1, 32, n2, 32, s2, 32, n3, 32, s3, 32, n4, 32, s4, 32, n5, 32, s5, 32, n6, 32, s6, 32, n7, 32, s7, 32, n8, 32, s8, 32, n9, 32, s9, 32, n10, 32, s10, 32, n11, 32, s11, 32, n12, 32, s12, 32, 51, 10]] [.ins 1 []] = .ok .non (hp 54 0 [p0, p1, pn 4 n1, ps 6 s1, pn 8 n2, ps 10 s2, pn 12 n3, ps 14 s3, pn 16 n4, ps 18 s4, pn 20 n5, ps 22 s5, pn 24 n6, ps 26 s6, pn 28 n7, ps 30 s7, pn 32 n8, ps 34 s8, pn 36 n9, ps 38 s9, pn 40 n10, ps 42 s10, pn 44 n11, ps 46 s11, pn 48 n12, ps 50 s12, pn 52 51, pe 53] []) := gen30 (show 54 ≤ M by unfold M; omega) b12_pp (pc12 hn1 (SSB hs1) hn2 (SSB hs2) hn3 (SSB hs3) hn4 (SSB hs4) hn5 (SSB hs5) hn6 (SSB hs6) hn7 (SSB hs7) hn8 (SSB hs8) hn9 (SSB hs9) hn10 (SSB hs10) hn11 (SSB hs11) hn12 (SSB hs12))
theorem b12_78 (hn1 : NN n1) (hs1 : SB s1) (hn2 : NN n2) (hs2 : SB s2) (hn3 : NN n3) (hs3 : SB s3) (hn4 : NN n4) (hs4 : SB s4) (hn5 : NN n5) (hs5 : SB s5) (hn6 : NN n6) (hs6 : SB s6) (hn7 : NN n7) (hs7 : SB s7) (hn8 : NN n8) (hs8 : SB s8) (hn9 : NN n9) (hs9 : SB s9) (hn10 : NN n10) (hs10 : SB s10) (hn11 : NN n11) (hs11 : SB s11) (hn12 : NN n12) (hs12 : SB s12) : callF 108 78 [.str [113, 32, 61, 32, n1, 32, s1, 32, n2, 32, s2, 32, n3, 32, s3, 32, n4, 32, s4, 32, n5, 32, s5, 32, n6, 32, s6, 32, n7, 32, s7, 32, n8, 32, s8, 32, n9, 32, s9, 32, n10, 32, s10, 32, n11, 32, s11, 32, n12, 32, s12, 32, 51, 10]] [] = .ok (.int 50) [] := gen78 (gen57x (b12_30 hn1 hs1 hn2 hs2 hn3 hs3 hn4 hs4 hn5 hs5 hn6 hs6 hn7 hs7 hn8 hs8 hn9 hs9 hn10 hs10 hn11 hs11 hn12 hs12) (gen56x (b12_55 (tl := [.lst []]) hn1 hs1 hn2 hs2 hn3 hs3 hn4 hs4 hn5 hs5 hn6 hs6 hn7 hs7 hn8 hs8 hn9 hs9 hn10 hs10 hn11 hs11 hn12 hs12) b12_w)) rfl rfl
end
end T

end

section
set_option Elab.async false
set_option linter.all false
set_option maxRecDepth 100000
set_option maxHeartbeats 4000000
namespace T
open PySem Sh
def El (Q : Nat → Prop) (y : D) : Prop := ∃ n s : Nat, y = .str [n, 32, s, 32] ∧ NN n ∧ Q s
theorem co_pk {te : Ex} {s : Sl} {Q : Nat → Prop} {n : Nat} {tl : Hd} (hn : n ≤ 100) (run : ∀ d : D, (Tg.nm 20).run d s = some (s.set 20 (some d)))
    (H : ∀ (i : Nat) (a d : Int), Fg a d → ∃ y a' d', te (s.set 20 (some (.int (0 + (i : Int))))) (.lst [.int a, .int d] :: tl) = .ok y (.lst [.int a', .int d'] :: tl) ∧ El Q y ∧ Fg a' d') :
    ∀ (f i : Nat) (acc : List D) (a d : Int), n < f + i → i ≤ n → acc.length = i → Fg a d →
    ∃ (L : List D) (a' d' : Int), coR (.rng 0 n) (.nm 20) tYs te f i acc s (.lst [.int a, .int d] :: tl) = .ok (acc.reverse ++ L) (.lst [.int a', .int d'] :: tl) ∧ L.length = n - i ∧ (∀ y ∈ L, El Q y) ∧ Fg a' d'
  | 0, i, acc, a, d, h1, h2, h3, hf => absurd h1 (by omega)
  | f + 1, i, acc, a, d, h1, h2, h3, hf => by
    by_cases hi : i < n
    · have e : Src.at (.rng 0 n) i (O.lst [.int a, .int d] :: tl) = some (some (.int (0 + (i : Int)))) := by
        show some (if i < n then some (D.int (0 + i)) else none) = _
        rw [if_pos hi]
      obtain ⟨y, a1, d1, et, ey, hf1⟩ := H i a d hf
      obtain ⟨L, a2, d2, er, el, ea, hf2⟩ := co_pk hn run H f (i + 1) (y :: acc) a1 d1 (by omega) (by omega) (by rw [List.length_cons, h3]) hf1
      refine ⟨y :: L, a2, d2, ?_, by rw [List.length_cons, el]; omega, ?_, hf2⟩
      · have e5 : coR (.rng 0 n) (.nm 20) tYs te (f + 1) i acc s (.lst [.int a, .int d] :: tl) = coR (.rng 0 n) (.nm 20) tYs te f (i + 1) (y :: acc) s (.lst [.int a1, .int d1] :: tl) := by
          conv => lhs; unfold coR
          rw [e]
          show (match (Tg.nm 20).run (D.int (0 + (i : Int))) s with
            | none => R.no
            | some s1 => (noX (tYs s1 (O.lst [.int a, .int d] :: tl))).bind fun b h2 => match b with
              | true => (noX (te s1 h2)).bind fun y h3 => if acc.length < M then coR (.rng 0 n) (.nm 20) tYs te f (i + 1) (y :: acc) s h3 else .no
              | false => coR (.rng 0 n) (.nm 20) tYs te f (i + 1) acc s h2) = _
          rw [run]
          show (noX (te (s.set 20 (some (.int (0 + (i : Int))))) (O.lst [.int a, .int d] :: tl))).bind _ = _
          rw [et]
          show (if acc.length < M then coR (.rng 0 n) (.nm 20) tYs te f (i + 1) (y :: acc) s (.lst [.int a1, .int d1] :: tl) else .no) = _
          rw [if_pos (by unfold M; omega)]
        rw [e5, er, List.reverse_cons, List.append_assoc]
        rfl
      · intro z hz
        rcases List.mem_cons.mp hz with rfl | hz
        · exact ey
        · exact ea z hz
    · have hin : i = n := by omega
      have e : Src.at (.rng 0 n) i (O.lst [.int a, .int d] :: tl) = some none := by
        show some (if i < n then some (D.int (0 + i)) else none) = _
        rw [if_neg hi]
      refine ⟨[], a, d, ?_, by rw [hin]; simp, by simp, hf⟩
      conv => lhs; unfold coR
      rw [e]
      show (if acc.length ≤ M then R.ok acc.reverse (O.lst [.int a, .int d] :: tl) else .no) = _
      rw [if_pos (by unfold M; omega), List.append_nil]
theorem unc {L : List D} {k : Nat} {Q : Nat → Prop} (h : L.length = k + 1) (ha : ∀ y ∈ L, El Q y) : ∃ n s L', L = .str [n, 32, s, 32] :: L' ∧ L'.length = k ∧ NN n ∧ Q s ∧ ∀ y ∈ L', El Q y := by
  cases L with
  | nil => simp at h
  | cons y L =>
    obtain ⟨n, s, rfl, hn, hs⟩ := ha y (List.mem_cons_self ..)
    exact ⟨n, s, L, rfl, by simpa using h, hn, hs, fun z hz => ha z (List.mem_cons_of_mem _ hz)⟩
theorem lsts_app {h tl : Hd} {i : Nat} {xs : List D} (e : lsts (.obj i) h = some xs) : lsts (.obj i) (h ++ tl) = some xs := by
  have e' : (match h[i]? with | some (.lst a) => some a | _ => none) = some xs := e
  show (match (h ++ tl)[i]? with | some (.lst a) => some a | _ => none) = some xs
  by_cases hi : i < h.length
  · rw [List.getElem?_append_left hi]
    exact e'
  · rw [List.getElem?_eq_none (by omega)] at e'
    cases e'
variable {x0 x1 x2 x3 x4 x5 x6 x7 x8 x9 x10 x11 x12 x13 x14 x15 x16 x17 x18 x19 x20 : Option D}
def sgA : D := .tup [.str [32, 43, 32], .str [32, 45, 32]]
def sgB : D := .tup [.str [32, 42, 32], .str [32, 47, 32]]
theorem r4_ok {a d : Int} {tl : Hd} (hf : Fg a d) : ∃ g a' d', (g = sgA ∨ g = sgB) ∧ r4 GG [some (.obj 0), x1, x2, x3, x4, x5, x6, x7, x8, x9, x10, x11, x12, x13, x14, x15, x16, x17, x18, x19, x20] (.lst [.int a, .int d] :: tl) =
    .nx [some (.obj 0), x1, x2, x3, some g, x5, x6, x7, x8, x9, x10, x11, x12, x13, x14, x15, x16, x17, x18, x19, x20] (.lst [.int a', .int d'] :: tl) ∧ Fg a' d' := by
  obtain ⟨t, x, a', d', ht, hx, e, hf'⟩ := pickE 106 (xs := [sgA, sgB]) (s := [some (.obj 0), x1, x2, x3, x4, x5, x6, x7, x8, x9, x10, x11, x12, x13, x14, x15, x16, x17, x18, x19, x20]) (tl := tl) (a := a) (d := d)
    (A := (as1 (eV 0) (as1 (eTup (as1 (eTup (as1 (eC (.str [32, 43, 32])) (as1 (eC (.str [32, 45, 32])) as0))) (as1 (eTup (as1 (eC (.str [32, 42, 32])) (as1 (eC (.str [32, 47, 32])) as0))) as0))) as0))) (by kernel_rfl) (.inl rfl) rfl hf
  refine ⟨x, a', d', ?_, evSet e, hf'⟩
  match t, ht, hx with
  | 0, _, hx => exact .inl (by simpa using hx.symm)
  | 1, _, hx => exact .inr (by simpa using hx.symm)
  | t + 2, ht, _ => exact absurd ht (by simp)
end T

end

section
set_option Elab.async false
set_option linter.all false
set_option maxRecDepth 100000
set_option maxHeartbeats 4000000
namespace T
open PySem Sh
variable {x0 x1 x2 x3 x4 x5 x6 x7 x8 x9 x10 x11 x12 x13 x14 x15 x16 x17 x18 x19 x20 : Option D}
theorem oLen_str {l : List Nat} {h : Hd} (hz : l.length ≤ M) : oLen [.str l] h = .ok (.int (l.length : Nat)) h := if_pos hz
theorem el_ok {c1 c2 : Nat} {tl : Hd} (i : Nat) (a d : Int) (hf : Fg a d) : ∃ y a' d', (e2 oAdd (eL (GG 75) (as1 (eV 0) (as1 (eTup (as1 (eC (.str [49])) (as1 (eC (.str [110])) (as1 (eC (.str [50])) as0)))) as0))) (eL (GG 75) (as1 (eV 0) (as1 (eV 4) as0)))) [some (.obj 0), x1, x2, x3, some (.tup [.str [32, c1, 32], .str [32, c2, 32]]), x5, x6, x7, x8, x9, x10, x11, x12, x13, x14, x15, x16, x17, x18, x19, some (.int (0 + (i : Int)))] (O.lst [.int a, .int d] :: tl) = .ok y (O.lst [.int a', .int d'] :: tl) ∧ El (fun s => s = c1 ∨ s = c2) y ∧ Fg a' d' := by
  obtain ⟨t, x, a1, d1, ht, hx, e1, hf1⟩ := pickE 106 (xs := [.str [49], .str [110], .str [50]]) (s := [some (.obj 0), x1, x2, x3, some (.tup [.str [32, c1, 32], .str [32, c2, 32]]), x5, x6, x7, x8, x9, x10, x11, x12, x13, x14, x15, x16, x17, x18, x19, some (.int (0 + (i : Int)))]) (tl := tl) (a := a) (d := d)
    (A := as1 (eV 0) (as1 (eTup (as1 (eC (.str [49])) (as1 (eC (.str [110])) (as1 (eC (.str [50])) as0)))) as0)) (by kernel_rfl) (.inr rfl) rfl hf
  obtain ⟨u, y, a2, d2, hu, hy, e3, hf2⟩ := pickE 106 (xs := [.str [32, c1, 32], .str [32, c2, 32]]) (s := [some (.obj 0), x1, x2, x3, some (.tup [.str [32, c1, 32], .str [32, c2, 32]]), x5, x6, x7, x8, x9, x10, x11, x12, x13, x14, x15, x16, x17, x18, x19, some (.int (0 + (i : Int)))]) (tl := tl) (a := a1) (d := d1)
    (A := as1 (eV 0) (as1 (eV 4) as0)) (by kernel_rfl) (.inl rfl) rfl hf1
  have hn : ∃ n, x = .str [n] ∧ NN n := by
    match t, ht, hx with
    | 0, _, hx => exact ⟨49, by simpa using hx.symm, .inl rfl⟩
    | 1, _, hx => exact ⟨110, by simpa using hx.symm, .inr (.inl rfl)⟩
    | 2, _, hx => exact ⟨50, by simpa using hx.symm, .inr (.inr rfl)⟩
    | t + 3, ht, _ => exact absurd ht (by simp)
  have hs : ∃ s, y = .str [32, s, 32] ∧ (s = c1 ∨ s = c2) := by
    match u, hu, hy with
    | 0, _, hy => exact ⟨c1, by simpa using hy.symm, .inl rfl⟩
    | 1, _, hy => exact ⟨c2, by simpa using hy.symm, .inr rfl⟩
    | u + 2, hu, _ => exact absurd hu (by simp)
  obtain ⟨n, rfl, hn⟩ := hn
  obtain ⟨s, rfl, hs⟩ := hs
  exact ⟨.str [n, 32, s, 32], a2, d2, ev2 e1 e3 (oAdd_str (a := [n]) (b := [32, s, 32]) (show 4 ≤ M by unfold M; omega)), ⟨n, s, rfl, hn, hs⟩, hf2⟩
theorem r5_ok {c1 c2 : Nat} {tl : Hd} {a d : Int} (hf : Fg a d) : ∃ (L : List D) (a' d' : Int), r5 GG [some (.obj 0), x1, x2, x3, some (.tup [.str [32, c1, 32], .str [32, c2, 32]]), x5, x6, x7, x8, x9, x10, x11, x12, x13, x14, x15, x16, x17, x18, x19, x20] (O.lst [.int a, .int d] :: tl) = .nx [some (.obj 0), x1, x2, x3, some (.tup [.str [32, c1, 32], .str [32, c2, 32]]), some (.obj (tl.length + 1)), x6, x7, x8, x9, x10, x11, x12, x13, x14, x15, x16, x17, x18, x19, x20] ((O.lst [.int a', .int d'] :: tl) ++ [O.lst L]) ∧ L.length = 12 ∧ (∀ y ∈ L, El (fun s => s = c1 ∨ s = c2) y) ∧ Fg a' d' := by
  obtain ⟨L, a', d', e, el, ea, hf'⟩ := co_pk (te := (e2 oAdd (eL (GG 75) (as1 (eV 0) (as1 (eTup (as1 (eC (.str [49])) (as1 (eC (.str [110])) (as1 (eC (.str [50])) as0)))) as0))) (eL (GG 75) (as1 (eV 0) (as1 (eV 4) as0))))) (s := [some (.obj 0), x1, x2, x3, some (.tup [.str [32, c1, 32], .str [32, c2, 32]]), x5, x6, x7, x8, x9, x10, x11, x12, x13, x14, x15, x16, x17, x18, x19, none]) (Q := fun s => s = c1 ∨ s = c2) (n := 12) (tl := tl) (by omega) (fun _ => rfl) (fun i a d hf => el_ok i a d hf) M 0 [] a d (by unfold M; omega) (by omega) rfl hf
  have hn : newL (([] : List D).reverse ++ L) (O.lst [.int a', .int d'] :: tl) = .ok (.obj (tl.length + 1)) ((O.lst [.int a', .int d'] :: tl) ++ [O.lst L]) := by
    show newL L _ = _
    unfold newL
    rw [if_pos (by rw [el]; unfold M; omega)]
    rfl
  exact ⟨L, a', d', evSet (eC_of (iRg1_of (j := 12) (by kernel_rfl) (by omega)) e hn), el, ea, hf'⟩
section
variable {n1 s1 n2 s2 n3 s3 n4 s4 n5 s5 n6 s6 n7 s7 n8 s8 n9 s9 n10 s10 n11 s11 n12 s12 : Nat} {H : Hd} {k : Nat}
theorem cut11 {s : Sl} (hk : s[5]? = some (some (.obj k))) (hl : lsts (.obj k) H = some [.str [n1, 32, s1, 32], .str [n2, 32, s2, 32], .str [n3, 32, s3, 32], .str [n4, 32, s4, 32], .str [n5, 32, s5, 32], .str [n6, 32, s6, 32], .str [n7, 32, s7, 32], .str [n8, 32, s8, 32], .str [n9, 32, s9, 32], .str [n10, 32, s10, 32], .str [n11, 32, s11, 32], .str [n12, 32, s12, 32]]) : e2 oJoin (e1 isS (eC (.str []))) (eCut (eV 5) none (some (eC (.int 11)))) s H = .ok (.str [n1, 32, s1, 32, n2, 32, s2, 32, n3, 32, s3, 32, n4, 32, s4, 32, n5, 32, s5, 32, n6, 32, s6, 32, n7, 32, s7, 32, n8, 32, s8, 32, n9, 32, s9, 32, n10, 32, s10, 32, n11, 32, s11, 32]) (H ++ [O.lst [.str [n1, 32, s1, 32], .str [n2, 32, s2, 32], .str [n3, 32, s3, 32], .str [n4, 32, s4, 32], .str [n5, 32, s5, 32], .str [n6, 32, s6, 32], .str [n7, 32, s7, 32], .str [n8, 32, s8, 32], .str [n9, 32, s9, 32], .str [n10, 32, s10, 32], .str [n11, 32, s11, 32]]]) := by
  have e0 : eV 5 s H = .ok (.obj k) H := by
    unfold eV
    rw [hk]
  have g1 : eCut (eV 5) none (some (eC (.int 11))) s H = .ok (.obj H.length) (H ++ [O.lst [.str [n1, 32, s1, 32], .str [n2, 32, s2, 32], .str [n3, 32, s3, 32], .str [n4, 32, s4, 32], .str [n5, 32, s5, 32], .str [n6, 32, s6, 32], .str [n7, 32, s7, 32], .str [n8, 32, s8, 32], .str [n9, 32, s9, 32], .str [n10, 32, s10, 32], .str [n11, 32, s11, 32]]]) := by
    have q := oCut_lst (lo := none) (hi := some 11) hl (by show 11 ≤ M; unfold M; omega)
    unfold eCut
    rw [e0]
    exact q
  have g2 : oJoin (.str []) (.obj H.length) (H ++ [O.lst [.str [n1, 32, s1, 32], .str [n2, 32, s2, 32], .str [n3, 32, s3, 32], .str [n4, 32, s4, 32], .str [n5, 32, s5, 32], .str [n6, 32, s6, 32], .str [n7, 32, s7, 32], .str [n8, 32, s8, 32], .str [n9, 32, s9, 32], .str [n10, 32, s10, 32], .str [n11, 32, s11, 32]]]) = .ok (.str [n1, 32, s1, 32, n2, 32, s2, 32, n3, 32, s3, 32, n4, 32, s4, 32, n5, 32, s5, 32, n6, 32, s6, 32, n7, 32, s7, 32, n8, 32, s8, 32, n9, 32, s9, 32, n10, 32, s10, 32, n11, 32, s11, 32]) (H ++ [O.lst [.str [n1, 32, s1, 32], .str [n2, 32, s2, 32], .str [n3, 32, s3, 32], .str [n4, 32, s4, 32], .str [n5, 32, s5, 32], .str [n6, 32, s6, 32], .str [n7, 32, s7, 32], .str [n8, 32, s8, 32], .str [n9, 32, s9, 32], .str [n10, 32, s10, 32], .str [n11, 32, s11, 32]]]) :=
    oJoin_lst (ls := [[n1, 32, s1, 32], [n2, 32, s2, 32], [n3, 32, s3, 32], [n4, 32, s4, 32], [n5, 32, s5, 32], [n6, 32, s6, 32], [n7, 32, s7, 32], [n8, 32, s8, 32], [n9, 32, s9, 32], [n10, 32, s10, 32], [n11, 32, s11, 32]]) (lsts_last H _) rfl (by show 44 ≤ M; unfold M; omega)
  exact ev2 (ev1 rfl rfl) g1 g2
theorem r6_ok (hl : lsts (.obj k) H = some [.str [n1, 32, s1, 32], .str [n2, 32, s2, 32], .str [n3, 32, s3, 32], .str [n4, 32, s4, 32], .str [n5, 32, s5, 32], .str [n6, 32, s6, 32], .str [n7, 32, s7, 32], .str [n8, 32, s8, 32], .str [n9, 32, s9, 32], .str [n10, 32, s10, 32], .str [n11, 32, s11, 32], .str [n12, 32, s12, 32]]) : r6 GG [some (.obj 0), x1, x2, x3, x4, some (.obj k), x6, x7, x8, x9, x10, x11, x12, x13, x14, x15, x16, x17, x18, x19, x20] H = .nx [some (.obj 0), x1, x2, x3, x4, some (.obj k), some (.str [n1, 32, s1, 32, n2, 32, s2, 32, n3, 32, s3, 32, n4, 32, s4, 32, n5, 32, s5, 32, n6, 32, s6, 32, n7, 32, s7, 32, n8, 32, s8, 32, n9, 32, s9, 32, n10, 32, s10, 32, n11, 32, s11, 32, 51]), x7, x8, x9, x10, x11, x12, x13, x14, x15, x16, x17, x18, x19, x20] (H ++ [O.lst [.str [n1, 32, s1, 32], .str [n2, 32, s2, 32], .str [n3, 32, s3, 32], .str [n4, 32, s4, 32], .str [n5, 32, s5, 32], .str [n6, 32, s6, 32], .str [n7, 32, s7, 32], .str [n8, 32, s8, 32], .str [n9, 32, s9, 32], .str [n10, 32, s10, 32], .str [n11, 32, s11, 32]]]) :=
  evSet (ev2 (cut11 rfl hl) rfl (oAdd_str (a := [n1, 32, s1, 32, n2, 32, s2, 32, n3, 32, s3, 32, n4, 32, s4, 32, n5, 32, s5, 32, n6, 32, s6, 32, n7, 32, s7, 32, n8, 32, s8, 32, n9, 32, s9, 32, n10, 32, s10, 32, n11, 32, s11, 32]) (b := [51]) (show 45 ≤ M by unfold M; omega)))
theorem r7_ok (hl : lsts (.obj k) H = some [.str [n1, 32, s1, 32], .str [n2, 32, s2, 32], .str [n3, 32, s3, 32], .str [n4, 32, s4, 32], .str [n5, 32, s5, 32], .str [n6, 32, s6, 32], .str [n7, 32, s7, 32], .str [n8, 32, s8, 32], .str [n9, 32, s9, 32], .str [n10, 32, s10, 32], .str [n11, 32, s11, 32], .str [n12, 32, s12, 32]]) : r7 GG [some (.obj 0), x1, x2, x3, x4, some (.obj k), x6, x7, x8, x9, x10, x11, x12, x13, x14, x15, x16, x17, x18, x19, x20] H = .nx [some (.obj 0), x1, x2, x3, x4, some (.obj k), x6, some (.str [n1, 32, s1, 32, n2, 32, s2, 32, n3, 32, s3, 32, n4, 32, s4, 32, n5, 32, s5, 32, n6, 32, s6, 32, n7, 32, s7, 32, n8, 32, s8, 32, n9, 32, s9, 32, n10, 32, s10, 32, n11, 32, s11, 32, n12, 32, s12, 32, 51]), x8, x9, x10, x11, x12, x13, x14, x15, x16, x17, x18, x19, x20] H := by
  have g2 : oJoin (.str []) (.obj k) H = .ok (.str [n1, 32, s1, 32, n2, 32, s2, 32, n3, 32, s3, 32, n4, 32, s4, 32, n5, 32, s5, 32, n6, 32, s6, 32, n7, 32, s7, 32, n8, 32, s8, 32, n9, 32, s9, 32, n10, 32, s10, 32, n11, 32, s11, 32, n12, 32, s12, 32]) H := oJoin_lst (ls := [[n1, 32, s1, 32], [n2, 32, s2, 32], [n3, 32, s3, 32], [n4, 32, s4, 32], [n5, 32, s5, 32], [n6, 32, s6, 32], [n7, 32, s7, 32], [n8, 32, s8, 32], [n9, 32, s9, 32], [n10, 32, s10, 32], [n11, 32, s11, 32], [n12, 32, s12, 32]]) hl rfl (by show 48 ≤ M; unfold M; omega)
  exact evSet (ev2 (ev2 (ev1 rfl rfl) rfl g2) rfl (oAdd_str (a := [n1, 32, s1, 32, n2, 32, s2, 32, n3, 32, s3, 32, n4, 32, s4, 32, n5, 32, s5, 32, n6, 32, s6, 32, n7, 32, s7, 32, n8, 32, s8, 32, n9, 32, s9, 32, n10, 32, s10, 32, n11, 32, s11, 32, n12, 32, s12, 32]) (b := [51]) (show 49 ≤ M by unfold M; omega)))
theorem r8_ok (hl : lsts (.obj k) H = some [.str [n1, 32, s1, 32], .str [n2, 32, s2, 32], .str [n3, 32, s3, 32], .str [n4, 32, s4, 32], .str [n5, 32, s5, 32], .str [n6, 32, s6, 32], .str [n7, 32, s7, 32], .str [n8, 32, s8, 32], .str [n9, 32, s9, 32], .str [n10, 32, s10, 32], .str [n11, 32, s11, 32], .str [n12, 32, s12, 32]]) : r8 GG [some (.obj 0), x1, x2, x3, x4, some (.obj k), x6, x7, x8, x9, x10, x11, x12, x13, x14, x15, x16, x17, x18, x19, x20] H = .nx [some (.obj 0), x1, x2, x3, x4, some (.obj k), x6, x7, some (.int 50), x9, x10, x11, x12, x13, x14, x15, x16, x17, x18, x19, x20] (H ++ [O.lst [.str [n1, 32, s1, 32], .str [n2, 32, s2, 32], .str [n3, 32, s3, 32], .str [n4, 32, s4, 32], .str [n5, 32, s5, 32], .str [n6, 32, s6, 32], .str [n7, 32, s7, 32], .str [n8, 32, s8, 32], .str [n9, 32, s9, 32], .str [n10, 32, s10, 32], .str [n11, 32, s11, 32]]]) := by
  have g1 : e2 oAdd (eC (.str [113, 32, 61, 32])) (e2 oJoin (e1 isS (eC (.str []))) (eCut (eV 5) none (some (eC (.int 11))))) [some (.obj 0), x1, x2, x3, x4, some (.obj k), x6, x7, x8, x9, x10, x11, x12, x13, x14, x15, x16, x17, x18, x19, x20] H = .ok (.str ([113, 32, 61, 32] ++ [n1, 32, s1, 32, n2, 32, s2, 32, n3, 32, s3, 32, n4, 32, s4, 32, n5, 32, s5, 32, n6, 32, s6, 32, n7, 32, s7, 32, n8, 32, s8, 32, n9, 32, s9, 32, n10, 32, s10, 32, n11, 32, s11, 32])) (H ++ [O.lst [.str [n1, 32, s1, 32], .str [n2, 32, s2, 32], .str [n3, 32, s3, 32], .str [n4, 32, s4, 32], .str [n5, 32, s5, 32], .str [n6, 32, s6, 32], .str [n7, 32, s7, 32], .str [n8, 32, s8, 32], .str [n9, 32, s9, 32], .str [n10, 32, s10, 32], .str [n11, 32, s11, 32]]]) :=
    ev2 rfl (cut11 rfl hl) (oAdd_str (show 48 ≤ M by unfold M; omega))
  have hl2 := lsts_app (tl := [O.lst [.str [n1, 32, s1, 32], .str [n2, 32, s2, 32], .str [n3, 32, s3, 32], .str [n4, 32, s4, 32], .str [n5, 32, s5, 32], .str [n6, 32, s6, 32], .str [n7, 32, s7, 32], .str [n8, 32, s8, 32], .str [n9, 32, s9, 32], .str [n10, 32, s10, 32], .str [n11, 32, s11, 32]]]) hl
  have g2 : e2 oIx (eV 5) (eC (.int 11)) [some (.obj 0), x1, x2, x3, x4, some (.obj k), x6, x7, x8, x9, x10, x11, x12, x13, x14, x15, x16, x17, x18, x19, x20] (H ++ [O.lst [.str [n1, 32, s1, 32], .str [n2, 32, s2, 32], .str [n3, 32, s3, 32], .str [n4, 32, s4, 32], .str [n5, 32, s5, 32], .str [n6, 32, s6, 32], .str [n7, 32, s7, 32], .str [n8, 32, s8, 32], .str [n9, 32, s9, 32], .str [n10, 32, s10, 32], .str [n11, 32, s11, 32]]]) = .ok (.str [n12, 32, s12, 32]) (H ++ [O.lst [.str [n1, 32, s1, 32], .str [n2, 32, s2, 32], .str [n3, 32, s3, 32], .str [n4, 32, s4, 32], .str [n5, 32, s5, 32], .str [n6, 32, s6, 32], .str [n7, 32, s7, 32], .str [n8, 32, s8, 32], .str [n9, 32, s9, 32], .str [n10, 32, s10, 32], .str [n11, 32, s11, 32]]]) := by
    refine ev2 rfl rfl ?_
    show (match lsts (.obj k) (H ++ [O.lst [.str [n1, 32, s1, 32], .str [n2, 32, s2, 32], .str [n3, 32, s3, 32], .str [n4, 32, s4, 32], .str [n5, 32, s5, 32], .str [n6, 32, s6, 32], .str [n7, 32, s7, 32], .str [n8, 32, s8, 32], .str [n9, 32, s9, 32], .str [n10, 32, s10, 32], .str [n11, 32, s11, 32]]]) with
      | some xs => (match L2.atI xs 11 with
        | some d => R.ok d (H ++ [O.lst [.str [n1, 32, s1, 32], .str [n2, 32, s2, 32], .str [n3, 32, s3, 32], .str [n4, 32, s4, 32], .str [n5, 32, s5, 32], .str [n6, 32, s6, 32], .str [n7, 32, s7, 32], .str [n8, 32, s8, 32], .str [n9, 32, s9, 32], .str [n10, 32, s10, 32], .str [n11, 32, s11, 32]]])
        | none => R.no)
      | none => R.no) = _
    rw [hl2]
    rfl
  exact evSet (ev2 (evAdd (evB1 g1 (oLen_str (show 48 ≤ M by unfold M; omega))) (evB1 g2 (oLen_str (show 4 ≤ M by unfold M; omega)))) rfl rfl)
end
end T

end

section
set_option Elab.async false
set_option linter.all false
set_option maxRecDepth 100000
set_option maxHeartbeats 4000000
namespace T
open PySem Sh
variable {x0 x1 x2 x3 x4 x5 x6 x7 x8 x9 x10 x11 x12 x13 x14 x15 x16 x17 x18 x19 x20 : Option D}
theorem e79 {X : List Nat} {s : Sl} {H : Hd} {j : Nat} (hX : X.length ≤ 100) (ev : eV j s H = .ok (.str X) H) : eQ (GG 79) (as1 (eV j) as0) s H = .ok (.str ([113, 32, 61, 32] ++ X ++ [10])) H := by
  have g1 : e2 oAdd (e2 oAdd (eC (.str [113, 32, 61, 32])) (eV 0)) (eC (.str [10])) [some (.str X)] [] = .ok (.str ([113, 32, 61, 32] ++ X ++ [10])) [] :=
    ev2 (ev2 rfl rfl (oAdd_str (by show 4 + X.length ≤ M; unfold M; omega))) rfl (oAdd_str (by rw [List.length_append]; show 4 + X.length + 1 ≤ M; unfold M; omega))
  have g2 : GG 79 [.str X] [] = .ok (.str ([113, 32, 61, 32] ++ X ++ [10])) [] := fnR_of (np := 1) (n := 1) (xs := [.str X]) (b := b_79 (callF 107)) rfl (sRet_of g1) rfl
  exact eQ_of (eva1 ev rfl) rfl g2 rfl
theorem e78 {X : List Nat} {s : Sl} {H : Hd} {j : Nat} {d : D} (hX : X.length ≤ 100) (ev : eV j s H = .ok (.str X) H) (e : callF 108 78 [.str ([113, 32, 61, 32] ++ X ++ [10])] [] = .ok d []) (hd : d.pure = true) : eQ (GG 78) (as1 (eQ (GG 79) (as1 (eV j) as0)) as0) s H = .ok d H :=
  eQ_of (eva1 (e79 hX ev) rfl) rfl e hd
theorem r9_of {X Y : List Nat} {H : Hd} (hX : X.length ≤ 100) (hY : Y.length ≤ 100) (eX : callF 108 78 [.str ([113, 32, 61, 32] ++ X ++ [10])] [] = .ok .non []) (eY : callF 108 78 [.str ([113, 32, 61, 32] ++ Y ++ [10])] [] = .ok (.int 50) []) :
    r9 GG [some (.obj 0), x1, x2, x3, x4, x5, some (.str X), some (.str Y), some (.int 50), x9, x10, x11, x12, x13, x14, x15, x16, x17, x18, x19, x20] H = .nx [some (.obj 0), x1, x2, x3, x4, x5, some (.str X), some (.str Y), some (.int 50), x9, x10, x11, x12, x13, x14, x15, x16, x17, x18, x19, x20] H := by
  have g1 := e78 (s := [some (.obj 0), x1, x2, x3, x4, x5, some (.str X), some (.str Y), some (.int 50), x9, x10, x11, x12, x13, x14, x15, x16, x17, x18, x19, x20]) (H := H) (j := 6) hX rfl eX rfl
  have g2 := e78 (s := [some (.obj 0), x1, x2, x3, x4, x5, some (.str X), some (.str Y), some (.int 50), x9, x10, x11, x12, x13, x14, x15, x16, x17, x18, x19, x20]) (H := H) (j := 7) hY rfl eY rfl
  obtain ⟨h3, qS⟩ := ok_ex (r := callF 108 77 [.tup [.non, .int 50], .tup [.non, .int 50]] []) (d := .bl true) (by kernel_rfl)
  have gT := evTup (eva1 g1 (eva1 (r := as0) g2 rfl)) (show 2 ≤ M by unfold M; omega)
  have gU : eTup (as1 (eC .non) (as1 (eV 8) as0)) [some (.obj 0), x1, x2, x3, x4, x5, some (.str X), some (.str Y), some (.int 50), x9, x10, x11, x12, x13, x14, x15, x16, x17, x18, x19, x20] H = .ok (.tup [.non, .int 50]) H := by kernel_rfl
  exact (sIf_ff (tN_of (tV_of (eQ_of (f := callF 108 77) (eva1 gT (eva1 gU rfl)) rfl qS rfl) rfl))).trans rfl
theorem r9A {n1 s1 n2 s2 n3 s3 n4 s4 n5 s5 n6 s6 n7 s7 n8 s8 n9 s9 n10 s10 n11 s11 n12 s12 : Nat} {H : Hd} (hn1 : NN n1) (hs1 : SA s1) (hn2 : NN n2) (hs2 : SA s2) (hn3 : NN n3) (hs3 : SA s3) (hn4 : NN n4) (hs4 : SA s4) (hn5 : NN n5) (hs5 : SA s5) (hn6 : NN n6) (hs6 : SA s6) (hn7 : NN n7) (hs7 : SA s7) (hn8 : NN n8) (hs8 : SA s8) (hn9 : NN n9) (hs9 : SA s9) (hn10 : NN n10) (hs10 : SA s10) (hn11 : NN n11) (hs11 : SA s11) (hn12 : NN n12) (hs12 : SA s12) : r9 GG [some (.obj 0), x1, x2, x3, x4, x5, some (.str [n1, 32, s1, 32, n2, 32, s2, 32, n3, 32, s3, 32, n4, 32, s4, 32, n5, 32, s5, 32, n6, 32, s6, 32, n7, 32, s7, 32, n8, 32, s8, 32, n9, 32, s9, 32, n10, 32, s10, 32, n11, 32, s11, 32, 51]), some (.str [n1, 32, s1, 32, n2, 32, s2, 32, n3, 32, s3, 32, n4, 32, s4, 32, n5, 32, s5, 32, n6, 32, s6, 32, n7, 32, s7, 32, n8, 32, s8, 32, n9, 32, s9, 32, n10, 32, s10, 32, n11, 32, s11, 32, n12, 32, s12, 32, 51]), some (.int 50), x9, x10, x11, x12, x13, x14, x15, x16, x17, x18, x19, x20] H = .nx [some (.obj 0), x1, x2, x3, x4, x5, some (.str [n1, 32, s1, 32, n2, 32, s2, 32, n3, 32, s3, 32, n4, 32, s4, 32, n5, 32, s5, 32, n6, 32, s6, 32, n7, 32, s7, 32, n8, 32, s8, 32, n9, 32, s9, 32, n10, 32, s10, 32, n11, 32, s11, 32, 51]), some (.str [n1, 32, s1, 32, n2, 32, s2, 32, n3, 32, s3, 32, n4, 32, s4, 32, n5, 32, s5, 32, n6, 32, s6, 32, n7, 32, s7, 32, n8, 32, s8, 32, n9, 32, s9, 32, n10, 32, s10, 32, n11, 32, s11, 32, n12, 32, s12, 32, 51]), some (.int 50), x9, x10, x11, x12, x13, x14, x15, x16, x17, x18, x19, x20] H :=
  r9_of (show 45 ≤ 100 by omega) (show 49 ≤ 100 by omega) (a11_78 hn1 hs1 hn2 hs2 hn3 hs3 hn4 hs4 hn5 hs5 hn6 hs6 hn7 hs7 hn8 hs8 hn9 hs9 hn10 hs10 hn11 hs11) (a12_78 hn1 hs1 hn2 hs2 hn3 hs3 hn4 hs4 hn5 hs5 hn6 hs6 hn7 hs7 hn8 hs8 hn9 hs9 hn10 hs10 hn11 hs11 hn12 hs12)
theorem r9B {n1 s1 n2 s2 n3 s3 n4 s4 n5 s5 n6 s6 n7 s7 n8 s8 n9 s9 n10 s10 n11 s11 n12 s12 : Nat} {H : Hd} (hn1 : NN n1) (hs1 : SB s1) (hn2 : NN n2) (hs2 : SB s2) (hn3 : NN n3) (hs3 : SB s3) (hn4 : NN n4) (hs4 : SB s4) (hn5 : NN n5) (hs5 : SB s5) (hn6 : NN n6) (hs6 : SB s6) (hn7 : NN n7) (hs7 : SB s7) (hn8 : NN n8) (hs8 : SB s8) (hn9 : NN n9) (hs9 : SB s9) (hn10 : NN n10) (hs10 : SB s10) (hn11 : NN n11) (hs11 : SB s11) (hn12 : NN n12) (hs12 : SB s12) : r9 GG [some (.obj 0), x1, x2, x3, x4, x5, some (.str [n1, 32, s1, 32, n2, 32, s2, 32, n3, 32, s3, 32, n4, 32, s4, 32, n5, 32, s5, 32, n6, 32, s6, 32, n7, 32, s7, 32, n8, 32, s8, 32, n9, 32, s9, 32, n10, 32, s10, 32, n11, 32, s11, 32, 51]), some (.str [n1, 32, s1, 32, n2, 32, s2, 32, n3, 32, s3, 32, n4, 32, s4, 32, n5, 32, s5, 32, n6, 32, s6, 32, n7, 32, s7, 32, n8, 32, s8, 32, n9, 32, s9, 32, n10, 32, s10, 32, n11, 32, s11, 32, n12, 32, s12, 32, 51]), some (.int 50), x9, x10, x11, x12, x13, x14, x15, x16, x17, x18, x19, x20] H = .nx [some (.obj 0), x1, x2, x3, x4, x5, some (.str [n1, 32, s1, 32, n2, 32, s2, 32, n3, 32, s3, 32, n4, 32, s4, 32, n5, 32, s5, 32, n6, 32, s6, 32, n7, 32, s7, 32, n8, 32, s8, 32, n9, 32, s9, 32, n10, 32, s10, 32, n11, 32, s11, 32, 51]), some (.str [n1, 32, s1, 32, n2, 32, s2, 32, n3, 32, s3, 32, n4, 32, s4, 32, n5, 32, s5, 32, n6, 32, s6, 32, n7, 32, s7, 32, n8, 32, s8, 32, n9, 32, s9, 32, n10, 32, s10, 32, n11, 32, s11, 32, n12, 32, s12, 32, 51]), some (.int 50), x9, x10, x11, x12, x13, x14, x15, x16, x17, x18, x19, x20] H :=
  r9_of (show 45 ≤ 100 by omega) (show 49 ≤ 100 by omega) (b11_78 hn1 hs1 hn2 hs2 hn3 hs3 hn4 hs4 hn5 hs5 hn6 hs6 hn7 hs7 hn8 hs8 hn9 hs9 hn10 hs10 hn11 hs11) (b12_78 hn1 hs1 hn2 hs2 hn3 hs3 hn4 hs4 hn5 hs5 hn6 hs6 hn7 hs7 hn8 hs8 hn9 hs9 hn10 hs10 hn11 hs11 hn12 hs12)
end T

end

section
set_option Elab.async false
set_option linter.all false
set_option maxRecDepth 100000
set_option maxHeartbeats 4000000
namespace T
open PySem Sh
variable {x0 x1 x2 x3 x4 x5 x6 x7 x8 x9 x10 x11 x12 x13 x14 x15 x16 x17 x18 x19 x20 : Option D}
theorem evAn {a b : Ex} {s : Sl} {h h1 : Hd} {r : R D} (ea : a s h = .ok (.bl true) h1) (eb : b s h1 = r) : eAn a b s h = r := by
  unfold eAn
  rw [ea]
  exact eb
def tailR (G : Nat → Fn) : Sm := sSq (r6 G) (sSq (r7 G) (sSq (r8 G) (sSq (r9 G) (sSq (r10 G) (sSq (r11 G) (sSq (r12 G) (sSq (r13 G) (r14 G))))))))
theorem bodyR_eq (G : Nat → Fn) : bodyR G = sSq (r1 G) (sSq (r2 G) (sSq (r3 G) (sSq (r4 G) (sSq (r5 G) (tailR G))))) := rfl
theorem tailA {n1 s1 n2 s2 n3 s3 n4 s4 n5 s5 n6 s6 n7 s7 n8 s8 n9 s9 n10 s10 n11 s11 n12 s12 k : Nat} {H : Hd} (hn1 : NN n1) (hs1 : SA s1) (hn2 : NN n2) (hs2 : SA s2) (hn3 : NN n3) (hs3 : SA s3) (hn4 : NN n4) (hs4 : SA s4) (hn5 : NN n5) (hs5 : SA s5) (hn6 : NN n6) (hs6 : SA s6) (hn7 : NN n7) (hs7 : SA s7) (hn8 : NN n8) (hs8 : SA s8) (hn9 : NN n9) (hs9 : SA s9) (hn10 : NN n10) (hs10 : SA s10) (hn11 : NN n11) (hs11 : SA s11) (hn12 : NN n12) (hs12 : SA s12) (hl : lsts (.obj k) H = some [.str [n1, 32, s1, 32], .str [n2, 32, s2, 32], .str [n3, 32, s3, 32], .str [n4, 32, s4, 32], .str [n5, 32, s5, 32], .str [n6, 32, s6, 32], .str [n7, 32, s7, 32], .str [n8, 32, s8, 32], .str [n9, 32, s9, 32], .str [n10, 32, s10, 32], .str [n11, 32, s11, 32], .str [n12, 32, s12, 32]]) : ∃ y2 y3 y4 y5 y6 y7 y8 y9 y10 y11 y12 y13 y14 y15 y16 y17 y18 y19 y20, tailR GG [some (.obj 0), x1, x2, x3, x4, some (.obj k), x6, x7, x8, x9, x10, x11, x12, x13, x14, x15, x16, x17, x18, x19, x20] H = .nx [some (.obj 0), x1, y2, y3, y4, y5, y6, y7, y8, y9, y10, y11, y12, y13, y14, y15, y16, y17, y18, y19, y20] (H ++ [.lst [.str [n1, 32, s1, 32], .str [n2, 32, s2, 32], .str [n3, 32, s3, 32], .str [n4, 32, s4, 32], .str [n5, 32, s5, 32], .str [n6, 32, s6, 32], .str [n7, 32, s7, 32], .str [n8, 32, s8, 32], .str [n9, 32, s9, 32], .str [n10, 32, s10, 32], .str [n11, 32, s11, 32]]] ++ [.lst [.str [n1, 32, s1, 32], .str [n2, 32, s2, 32], .str [n3, 32, s3, 32], .str [n4, 32, s4, 32], .str [n5, 32, s5, 32], .str [n6, 32, s6, 32], .str [n7, 32, s7, 32], .str [n8, 32, s8, 32], .str [n9, 32, s9, 32], .str [n10, 32, s10, 32], .str [n11, 32, s11, 32]]]) := by
  have hl2 := lsts_app (tl := [.lst [.str [n1, 32, s1, 32], .str [n2, 32, s2, 32], .str [n3, 32, s3, 32], .str [n4, 32, s4, 32], .str [n5, 32, s5, 32], .str [n6, 32, s6, 32], .str [n7, 32, s7, 32], .str [n8, 32, s8, 32], .str [n9, 32, s9, 32], .str [n10, 32, s10, 32], .str [n11, 32, s11, 32]]]) hl
  exact ⟨_, _, _, _, _, _, _, _, _, _, _, _, _, _, _, _, _, _, _, (sSq_nx (r6_ok hl)).trans ((sSq_nx (r7_ok hl2)).trans ((sSq_nx (r8_ok hl2)).trans ((sSq_nx (r9A hn1 hs1 hn2 hs2 hn3 hs3 hn4 hs4 hn5 hs5 hn6 hs6 hn7 hs7 hn8 hs8 hn9 hs9 hn10 hs10 hn11 hs11 hn12 hs12)).trans ((sSq_nx (r10_ok _)).trans ((sSq_nx (r11_ok _)).trans ((sSq_nx (r12_ok _)).trans ((sSq_nx (r13_ok _)).trans (r14_ok _))))))))⟩
theorem tailB {n1 s1 n2 s2 n3 s3 n4 s4 n5 s5 n6 s6 n7 s7 n8 s8 n9 s9 n10 s10 n11 s11 n12 s12 k : Nat} {H : Hd} (hn1 : NN n1) (hs1 : SB s1) (hn2 : NN n2) (hs2 : SB s2) (hn3 : NN n3) (hs3 : SB s3) (hn4 : NN n4) (hs4 : SB s4) (hn5 : NN n5) (hs5 : SB s5) (hn6 : NN n6) (hs6 : SB s6) (hn7 : NN n7) (hs7 : SB s7) (hn8 : NN n8) (hs8 : SB s8) (hn9 : NN n9) (hs9 : SB s9) (hn10 : NN n10) (hs10 : SB s10) (hn11 : NN n11) (hs11 : SB s11) (hn12 : NN n12) (hs12 : SB s12) (hl : lsts (.obj k) H = some [.str [n1, 32, s1, 32], .str [n2, 32, s2, 32], .str [n3, 32, s3, 32], .str [n4, 32, s4, 32], .str [n5, 32, s5, 32], .str [n6, 32, s6, 32], .str [n7, 32, s7, 32], .str [n8, 32, s8, 32], .str [n9, 32, s9, 32], .str [n10, 32, s10, 32], .str [n11, 32, s11, 32], .str [n12, 32, s12, 32]]) : ∃ y2 y3 y4 y5 y6 y7 y8 y9 y10 y11 y12 y13 y14 y15 y16 y17 y18 y19 y20, tailR GG [some (.obj 0), x1, x2, x3, x4, some (.obj k), x6, x7, x8, x9, x10, x11, x12, x13, x14, x15, x16, x17, x18, x19, x20] H = .nx [some (.obj 0), x1, y2, y3, y4, y5, y6, y7, y8, y9, y10, y11, y12, y13, y14, y15, y16, y17, y18, y19, y20] (H ++ [.lst [.str [n1, 32, s1, 32], .str [n2, 32, s2, 32], .str [n3, 32, s3, 32], .str [n4, 32, s4, 32], .str [n5, 32, s5, 32], .str [n6, 32, s6, 32], .str [n7, 32, s7, 32], .str [n8, 32, s8, 32], .str [n9, 32, s9, 32], .str [n10, 32, s10, 32], .str [n11, 32, s11, 32]]] ++ [.lst [.str [n1, 32, s1, 32], .str [n2, 32, s2, 32], .str [n3, 32, s3, 32], .str [n4, 32, s4, 32], .str [n5, 32, s5, 32], .str [n6, 32, s6, 32], .str [n7, 32, s7, 32], .str [n8, 32, s8, 32], .str [n9, 32, s9, 32], .str [n10, 32, s10, 32], .str [n11, 32, s11, 32]]]) := by
  have hl2 := lsts_app (tl := [.lst [.str [n1, 32, s1, 32], .str [n2, 32, s2, 32], .str [n3, 32, s3, 32], .str [n4, 32, s4, 32], .str [n5, 32, s5, 32], .str [n6, 32, s6, 32], .str [n7, 32, s7, 32], .str [n8, 32, s8, 32], .str [n9, 32, s9, 32], .str [n10, 32, s10, 32], .str [n11, 32, s11, 32]]]) hl
  exact ⟨_, _, _, _, _, _, _, _, _, _, _, _, _, _, _, _, _, _, _, (sSq_nx (r6_ok hl)).trans ((sSq_nx (r7_ok hl2)).trans ((sSq_nx (r8_ok hl2)).trans ((sSq_nx (r9B hn1 hs1 hn2 hs2 hn3 hs3 hn4 hs4 hn5 hs5 hn6 hs6 hn7 hs7 hn8 hs8 hn9 hs9 hn10 hs10 hn11 hs11 hn12 hs12)).trans ((sSq_nx (r10_ok _)).trans ((sSq_nx (r11_ok _)).trans ((sSq_nx (r12_ok _)).trans ((sSq_nx (r13_ok _)).trans (r14_ok _))))))))⟩
theorem r5tA {tl : Hd} {a d : Int} (hf : Fg a d) : ∃ y2 y3 y4 y5 y6 y7 y8 y9 y10 y11 y12 y13 y14 y15 y16 y17 y18 y19 y20 a' d' tl', sSq (r5 GG) (tailR GG) [some (.obj 0), x1, x2, x3, some sgA, x5, x6, x7, x8, x9, x10, x11, x12, x13, x14, x15, x16, x17, x18, x19, x20] (.lst [.int a, .int d] :: tl) = .nx [some (.obj 0), x1, y2, y3, y4, y5, y6, y7, y8, y9, y10, y11, y12, y13, y14, y15, y16, y17, y18, y19, y20] (.lst [.int a', .int d'] :: tl') ∧ Fg a' d' := by
  obtain ⟨L0, a', d', e, el0, ea0, hf'⟩ := r5_ok (c1 := 43) (c2 := 45) (tl := tl) hf (x1 := x1) (x2 := x2) (x3 := x3) (x5 := x5) (x6 := x6) (x7 := x7) (x8 := x8) (x9 := x9) (x10 := x10) (x11 := x11) (x12 := x12) (x13 := x13) (x14 := x14) (x15 := x15) (x16 := x16) (x17 := x17) (x18 := x18) (x19 := x19) (x20 := x20)
  obtain ⟨n1, s1, L1, rfl, el1, hn1, hs1, ea1⟩ := unc el0 ea0
  obtain ⟨n2, s2, L2, rfl, el2, hn2, hs2, ea2⟩ := unc el1 ea1
  obtain ⟨n3, s3, L3, rfl, el3, hn3, hs3, ea3⟩ := unc el2 ea2
  obtain ⟨n4, s4, L4, rfl, el4, hn4, hs4, ea4⟩ := unc el3 ea3
  obtain ⟨n5, s5, L5, rfl, el5, hn5, hs5, ea5⟩ := unc el4 ea4
  obtain ⟨n6, s6, L6, rfl, el6, hn6, hs6, ea6⟩ := unc el5 ea5
  obtain ⟨n7, s7, L7, rfl, el7, hn7, hs7, ea7⟩ := unc el6 ea6
  obtain ⟨n8, s8, L8, rfl, el8, hn8, hs8, ea8⟩ := unc el7 ea7
  obtain ⟨n9, s9, L9, rfl, el9, hn9, hs9, ea9⟩ := unc el8 ea8
  obtain ⟨n10, s10, L10, rfl, el10, hn10, hs10, ea10⟩ := unc el9 ea9
  obtain ⟨n11, s11, L11, rfl, el11, hn11, hs11, ea11⟩ := unc el10 ea10
  obtain ⟨n12, s12, L12, rfl, el12, hn12, hs12, ea12⟩ := unc el11 ea11
  have hnil : L12 = [] := List.eq_nil_of_length_eq_zero el12
  subst hnil
  obtain ⟨y2, y3, y4, y5, y6, y7, y8, y9, y10, y11, y12, y13, y14, y15, y16, y17, y18, y19, y20, et⟩ := tailA (x1 := x1) (x2 := x2) (x3 := x3) (x4 := some sgA) (x6 := x6) (x7 := x7) (x8 := x8) (x9 := x9) (x10 := x10) (x11 := x11) (x12 := x12) (x13 := x13) (x14 := x14) (x15 := x15) (x16 := x16) (x17 := x17) (x18 := x18) (x19 := x19) (x20 := x20) hn1 hs1 hn2 hs2 hn3 hs3 hn4 hs4 hn5 hs5 hn6 hs6 hn7 hs7 hn8 hs8 hn9 hs9 hn10 hs10 hn11 hs11 hn12 hs12 (lsts_last (.lst [.int a', .int d'] :: tl) _)
  exact ⟨y2, y3, y4, y5, y6, y7, y8, y9, y10, y11, y12, y13, y14, y15, y16, y17, y18, y19, y20, a', d', _, (sSq_nx e).trans et, hf'⟩
theorem r5tB {tl : Hd} {a d : Int} (hf : Fg a d) : ∃ y2 y3 y4 y5 y6 y7 y8 y9 y10 y11 y12 y13 y14 y15 y16 y17 y18 y19 y20 a' d' tl', sSq (r5 GG) (tailR GG) [some (.obj 0), x1, x2, x3, some sgB, x5, x6, x7, x8, x9, x10, x11, x12, x13, x14, x15, x16, x17, x18, x19, x20] (.lst [.int a, .int d] :: tl) = .nx [some (.obj 0), x1, y2, y3, y4, y5, y6, y7, y8, y9, y10, y11, y12, y13, y14, y15, y16, y17, y18, y19, y20] (.lst [.int a', .int d'] :: tl') ∧ Fg a' d' := by
  obtain ⟨L0, a', d', e, el0, ea0, hf'⟩ := r5_ok (c1 := 42) (c2 := 47) (tl := tl) hf (x1 := x1) (x2 := x2) (x3 := x3) (x5 := x5) (x6 := x6) (x7 := x7) (x8 := x8) (x9 := x9) (x10 := x10) (x11 := x11) (x12 := x12) (x13 := x13) (x14 := x14) (x15 := x15) (x16 := x16) (x17 := x17) (x18 := x18) (x19 := x19) (x20 := x20)
  obtain ⟨n1, s1, L1, rfl, el1, hn1, hs1, ea1⟩ := unc el0 ea0
  obtain ⟨n2, s2, L2, rfl, el2, hn2, hs2, ea2⟩ := unc el1 ea1
  obtain ⟨n3, s3, L3, rfl, el3, hn3, hs3, ea3⟩ := unc el2 ea2
  obtain ⟨n4, s4, L4, rfl, el4, hn4, hs4, ea4⟩ := unc el3 ea3
  obtain ⟨n5, s5, L5, rfl, el5, hn5, hs5, ea5⟩ := unc el4 ea4
  obtain ⟨n6, s6, L6, rfl, el6, hn6, hs6, ea6⟩ := unc el5 ea5
  obtain ⟨n7, s7, L7, rfl, el7, hn7, hs7, ea7⟩ := unc el6 ea6
  obtain ⟨n8, s8, L8, rfl, el8, hn8, hs8, ea8⟩ := unc el7 ea7
  obtain ⟨n9, s9, L9, rfl, el9, hn9, hs9, ea9⟩ := unc el8 ea8
  obtain ⟨n10, s10, L10, rfl, el10, hn10, hs10, ea10⟩ := unc el9 ea9
  obtain ⟨n11, s11, L11, rfl, el11, hn11, hs11, ea11⟩ := unc el10 ea10
  obtain ⟨n12, s12, L12, rfl, el12, hn12, hs12, ea12⟩ := unc el11 ea11
  have hnil : L12 = [] := List.eq_nil_of_length_eq_zero el12
  subst hnil
  obtain ⟨y2, y3, y4, y5, y6, y7, y8, y9, y10, y11, y12, y13, y14, y15, y16, y17, y18, y19, y20, et⟩ := tailB (x1 := x1) (x2 := x2) (x3 := x3) (x4 := some sgB) (x6 := x6) (x7 := x7) (x8 := x8) (x9 := x9) (x10 := x10) (x11 := x11) (x12 := x12) (x13 := x13) (x14 := x14) (x15 := x15) (x16 := x16) (x17 := x17) (x18 := x18) (x19 := x19) (x20 := x20) hn1 hs1 hn2 hs2 hn3 hs3 hn4 hs4 hn5 hs5 hn6 hs6 hn7 hs7 hn8 hs8 hn9 hs9 hn10 hs10 hn11 hs11 hn12 hs12 (lsts_last (.lst [.int a', .int d'] :: tl) _)
  exact ⟨y2, y3, y4, y5, y6, y7, y8, y9, y10, y11, y12, y13, y14, y15, y16, y17, y18, y19, y20, a', d', _, (sSq_nx e).trans et, hf'⟩
theorem body_ok {tl : Hd} {a d : Int} (hf : Fg a d) : ∃ y2 y3 y4 y5 y6 y7 y8 y9 y10 y11 y12 y13 y14 y15 y16 y17 y18 y19 y20 a' d' tl', bodyR GG [some (.obj 0), x1, x2, x3, x4, x5, x6, x7, x8, x9, x10, x11, x12, x13, x14, x15, x16, x17, x18, x19, x20] (.lst [.int a, .int d] :: tl) = .nx [some (.obj 0), x1, y2, y3, y4, y5, y6, y7, y8, y9, y10, y11, y12, y13, y14, y15, y16, y17, y18, y19, y20] (.lst [.int a', .int d'] :: tl') ∧ Fg a' d' := by
  have g1 := r1_ok GG (.lst [.int a, .int d] :: tl) (x0 := some (.obj 0)) (x1 := x1) (x2 := x2) (x3 := x3) (x4 := x4) (x5 := x5) (x6 := x6) (x7 := x7) (x8 := x8) (x9 := x9) (x10 := x10) (x11 := x11) (x12 := x12) (x13 := x13) (x14 := x14) (x15 := x15) (x16 := x16) (x17 := x17) (x18 := x18) (x19 := x19) (x20 := x20)
  have g2 := r2_ok GG (.lst [.int a, .int d] :: tl) (x0 := some (.obj 0)) (x1 := x1) (x3 := x3) (x4 := x4) (x5 := x5) (x6 := x6) (x7 := x7) (x8 := x8) (x9 := x9) (x10 := x10) (x11 := x11) (x12 := x12) (x13 := x13) (x14 := x14) (x15 := x15) (x16 := x16) (x17 := x17) (x18 := x18) (x19 := x19) (x20 := x20)
  have g3 := r3_ok (.lst [.int a, .int d] :: tl) [.lst sliceD] (x0 := some (.obj 0)) (x1 := x1) (x4 := x4) (x5 := x5) (x6 := x6) (x7 := x7) (x8 := x8) (x9 := x9) (x10 := x10) (x11 := x11) (x12 := x12) (x13 := x13) (x14 := x14) (x15 := x15) (x16 := x16) (x17 := x17) (x18 := x18) (x19 := x19) (x20 := x20)
  obtain ⟨g, a1, d1, hg, g4, hf1⟩ := r4_ok (tl := tl ++ [.lst rowsD] ++ [.lst sliceD]) hf (x1 := x1) (x2 := some (.obj (O.lst [.int a, .int d] :: tl).length)) (x3 := some (.str textL)) (x4 := x4) (x5 := x5) (x6 := x6) (x7 := x7) (x8 := x8) (x9 := x9) (x10 := x10) (x11 := x11) (x12 := x12) (x13 := x13) (x14 := x14) (x15 := x15) (x16 := x16) (x17 := x17) (x18 := x18) (x19 := x19) (x20 := x20)
  rcases hg with rfl | rfl
  · obtain ⟨y2, y3, y4, y5, y6, y7, y8, y9, y10, y11, y12, y13, y14, y15, y16, y17, y18, y19, y20, a2, d2, tl2, g5, hf2⟩ := r5tA (tl := tl ++ [.lst rowsD] ++ [.lst sliceD]) hf1 (x1 := x1) (x2 := some (.obj (O.lst [.int a, .int d] :: tl).length)) (x3 := some (.str textL)) (x5 := x5) (x6 := x6) (x7 := x7) (x8 := x8) (x9 := x9) (x10 := x10) (x11 := x11) (x12 := x12) (x13 := x13) (x14 := x14) (x15 := x15) (x16 := x16) (x17 := x17) (x18 := x18) (x19 := x19) (x20 := x20)
    exact ⟨y2, y3, y4, y5, y6, y7, y8, y9, y10, y11, y12, y13, y14, y15, y16, y17, y18, y19, y20, a2, d2, tl2, (sSq_nx g1).trans ((sSq_nx g2).trans ((sSq_nx g3).trans ((sSq_nx g4).trans g5))), hf2⟩
  · obtain ⟨y2, y3, y4, y5, y6, y7, y8, y9, y10, y11, y12, y13, y14, y15, y16, y17, y18, y19, y20, a2, d2, tl2, g5, hf2⟩ := r5tB (tl := tl ++ [.lst rowsD] ++ [.lst sliceD]) hf1 (x1 := x1) (x2 := some (.obj (O.lst [.int a, .int d] :: tl).length)) (x3 := some (.str textL)) (x5 := x5) (x6 := x6) (x7 := x7) (x8 := x8) (x9 := x9) (x10 := x10) (x11 := x11) (x12 := x12) (x13 := x13) (x14 := x14) (x15 := x15) (x16 := x16) (x17 := x17) (x18 := x18) (x19 := x19) (x20 := x20)
    exact ⟨y2, y3, y4, y5, y6, y7, y8, y9, y10, y11, y12, y13, y14, y15, y16, y17, y18, y19, y20, a2, d2, tl2, (sSq_nx g1).trans ((sSq_nx g2).trans ((sSq_nx g3).trans ((sSq_nx g4).trans g5))), hf2⟩
end T

end

section
set_option Elab.async false
set_option linter.all false
set_option maxRecDepth 100000
set_option maxHeartbeats 4000000
namespace T
open PySem Sh
variable {x0 x1 x2 x3 x4 x5 x6 x7 x8 x9 x10 x11 x12 x13 x14 x15 x16 x17 x18 x19 x20 : Option D}

theorem right_c {a d : Int} (hf : Fg a d) : ∃ (a2 d2 : Int) (tl : Hd), c_80 GG [.obj 0] [.lst [.int a, .int d]] = .ok (.bl true) (.lst [.int a2, .int d2] :: tl) := by
  have e0 : iRg1 (as1 (eC (.int 2)) as0) [some (.obj 0), none, none, none, none, none, none, none, none, none, none, none, none, none, none, none, none, none, none, none, none] [.lst [.int a, .int d]] = .ok (.rng 0 2) [.lst [.int a, .int d]] := iRg1_of (j := 2) rfl (by omega)
  obtain ⟨y2, y3, y4, y5, y6, y7, y8, y9, y10, y11, y12, y13, y14, y15, y16, y17, y18, y19, y20, a1, d1, tl1, b1, hf1⟩ := body_ok (tl := []) hf (x1 := some (.int 0)) (x2 := none) (x3 := none) (x4 := none) (x5 := none) (x6 := none) (x7 := none) (x8 := none) (x9 := none) (x10 := none) (x11 := none) (x12 := none) (x13 := none) (x14 := none) (x15 := none) (x16 := none) (x17 := none) (x18 := none) (x19 := none) (x20 := none)
  obtain ⟨z2, z3, z4, z5, z6, z7, z8, z9, z10, z11, z12, z13, z14, z15, z16, z17, z18, z19, z20, a2, d2, tl2, b2, hf2⟩ := body_ok (tl := tl1) hf1 (x1 := some (.int 1)) (x2 := y2) (x3 := y3) (x4 := y4) (x5 := y5) (x6 := y6) (x7 := y7) (x8 := y8) (x9 := y9) (x10 := y10) (x11 := y11) (x12 := y12) (x13 := y13) (x14 := y14) (x15 := y15) (x16 := y16) (x17 := y17) (x18 := y18) (x19 := y19) (x20 := y20)
  have f1 : sFo (iRg1 (as1 (eC (.int 2)) as0)) (gN 1) (bodyR GG) [some (.obj 0), none, none, none, none, none, none, none, none, none, none, none, none, none, none, none, none, none, none, none, none] [.lst [.int a, .int d]] = .nx [some (.obj 0), some (.int 1), z2, z3, z4, z5, z6, z7, z8, z9, z10, z11, z12, z13, z14, z15, z16, z17, z18, z19, z20] (.lst [.int a2, .int d2] :: tl2) :=
    (sFo_of e0).trans ((foR_go (f := 999999) (d := .int 0) rfl rfl b1).trans ((foR_go (f := 999998) (d := .int 1) rfl rfl b2).trans (foR_end (f := 999997) rfl)))
  have f2 : b_80 GG [some (.obj 0), none, none, none, none, none, none, none, none, none, none, none, none, none, none, none, none, none, none, none, none] [.lst [.int a, .int d]] = .rt (.bl true) (.lst [.int a2, .int d2] :: tl2) := by
    rw [b80_eq]
    refine (sSq_nx f1).trans (sRet_of ?_)
    have t1 := words_ok [some (.obj 0), some (.int 1), z2, z3, z4, z5, z6, z7, z8, z9, z10, z11, z12, z13, z14, z15, z16, z17, z18, z19, z20] (.lst [.int a2, .int d2] :: tl2)
    have t2 := trees_ok [some (.obj 0), some (.int 1), z2, z3, z4, z5, z6, z7, z8, z9, z10, z11, z12, z13, z14, z15, z16, z17, z18, z19, z20] (.lst [.int a2, .int d2] :: tl2)
    have t3 := ends_ok [some (.obj 0), some (.int 1), z2, z3, z4, z5, z6, z7, z8, z9, z10, z11, z12, z13, z14, z15, z16, z17, z18, z19, z20] (.lst [.int a2, .int d2] :: tl2)
    exact evAn t1 (evAn t2 t3)
  exact ⟨a2, d2, tl2, fnR_of (np := 1) (n := 21) (xs := [.obj 0]) (b := b_80 GG) rfl f2 rfl⟩
theorem call80 (n : Nat) : callF (n + 1) 80 = c_80 (callF n) := rfl
theorem right_ok : RightOk (callF (108 + 1) 80) := by
  rw [call80]
  intro a d hf
  obtain ⟨a2, d2, tl, e⟩ := right_c hf
  exact ⟨[.int a2, .int d2], tl, e, rfl⟩
theorem law_all (ns : List Int) : ∃ h, callF (108 + 2) 84 [.fl (ns.map D.int)] [] = .ok (.bl true) h := law_ok right_ok ns
end T

end

section
set_option Elab.async false
set_option linter.all false
set_option maxRecDepth 100000
set_option maxHeartbeats 4000000
open PySem PySem.W PySem.Calls PyProof.Rows L2 Sh
/-- the walk's end, the exceptions' relation going with the world -/
theorem walk_w {l : PySem.W.OpenLaw} {m k : Nat} {q : Program} {ls : List Str} {A : (Str → Option Value) → Heap → Prop} {B : World → Heap → Prop} {d : DefRec} {C : World → CXT} {x : Str}
    (h1 : l.most = some m) (h2 : m ≤ sizeLine) (h3 : d.params.defaults = []) (h4 : Room k callerA)
    (F : ∀ (w : World) (mg : Str → Option Value) (f : Addr) (h : Heap), B w h → h.Ns mainGlobals mg → mg d.name = some (.ref f) →
      ∃ (K : PySem.W.Frag) (fd : FuncData) (sp : Sp), K.In h ∧ (∀ (s : Shared) (u : Value), BindsTo s fd ⟨[u], []⟩ [(x, u)]) ∧
        (∀ (H : Hp) (a : Addr) (ns : List Int), ns.length ≤ m → Only H → SqL K H a (ns.map V.int) → sp [.ref a] H (fun v _ => v = .bl true) fun _ _ _ => False) ∧
        ∀ b : Heap, K.In b → b.Ns mainGlobals mg → FnOk l.prog w K mg b (C w) k f fd [x] sp)
    (hC : ∀ (w : World) (H : Hp) (s : Shared) (e : Value) (s' : Shared), C w [] H s (fun _ _ _ => False) e s' → False) :
    PySem.W.WalkO q ls A B l.row.toRowW d [] (fun f vs => PySem.call f vs) := by
  refine Att.attach_call h1 h3 fun w s₀ s₁ mg mb f o pm cd doc a vs ns G Y ho hd hcd hm hob hin hle hg => ?_
  obtain ⟨K, fd, sp, X, b, z, t⟩ := F w mg f _ Y G.T.g hm
  exact law_call X G.T.g G.T.b G.T.builtins G.T.nolimit hg hob hin (Nat.le_trans hle h2) h4 t b (fun H u v => z H a ns hle u v) fun H e s' => hC w H s₁ e s'
theorem PySem.Challenge.cw_rootplans_k02_whole_limits_with_one_thin_holds : PySem.Challenge.rw_rootplans_k02_whole_limits_with_one_thin.Holds := by
  w_on; o_law
  refine HandSHeadRun.head_any (r := OpenLaw.row PySem.Challenge.rw_rootplans_k02_whole_limits_with_one_thin) (q := view (OpenLaw.row PySem.Challenge.rw_rootplans_k02_whole_limits_with_one_thin).prog [117]) (H := T.hk) (ob := T.ob) (M := 6000) (loose := T.loose) (d := HandSHeadRun.topDef (OpenLaw.row PySem.Challenge.rw_rootplans_k02_whole_limits_with_one_thin).prog 117) (kwd := []) T.ob_eq
    (by kernel_rfl) (fun s => by kernel_rfl) T.run (by kernel_rfl) (by kernel_rfl) (by kernel_rfl) (by rfl) (by first | assumption | decide +kernel) (by decide +kernel) ⟨rfl, rfl, rfl, rfl, rfl, by decide +kernel⟩ ?hw ?hc
  case hw => w_witness2
  case hc =>
    refine walk_w (l := PySem.Challenge.rw_rootplans_k02_whole_limits_with_one_thin) (m := 63) (k := 2 * (108 + 2)) (x := "script") (C := fun w => L2.CX (PySem.Challenge.rw_rootplans_k02_whole_limits_with_one_thin).prog w) rfl (by decide) (by kernel_rfl) ⟨rfl, by decide, by decide⟩ ?F (fun _ => cx_end)
    intro w mg fa h Y G hmg0
    obtain ⟨K, KX, c⟩ := Y
    have hmg : mg ("law" : PySem.Str) = some (.ref fa) := by
      have e : (HandSHeadRun.topDef (OpenLaw.row PySem.Challenge.rw_rootplans_k02_whole_limits_with_one_thin).prog 117).name = ("law" : PySem.Str) := by kernel_rfl
      rw [← e]
      exact hmg0
    have Z := T.fx_of KX G c
    have e := hmg.symm.trans Z.g_84
    cases e
    have b := FunD.bindsA (ps := ["script"]) Z.f_84 fun _ _ _ _ _ _ us hl => match us, hl with | [_], _ => rfl
    exact ⟨K, _, _, KX, fun s v => b s [v] rfl, fun H a ns hl hO hS => sp_law hO hS (T.law_all ns), fun base _ _ => (T.lv_all Z (108 + 2)).o_84⟩

end
