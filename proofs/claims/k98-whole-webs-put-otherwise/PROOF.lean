import PyProof.Rows.All
import Wide.All
import OpenK.AllK
import Wide.FinOn
import HandS.ForMost
import HandS.Flow
import HandS.Conv
import HandS.Deep
import HandS.Zip
import HandS.More
import HandS.Wide
import HandS.SortInts
import HandS.Defaults
import HandS.DictTup
import HandS.TupSets
import HandS.HeadEnd
import HandS.HeadHook1
import HandS.HeadHook2
import HandS.Head0
import HandS.Head1
import HandS.Head2
import KE.SortData
import KE.KDictPairs
import HandS.SortKw
import KE.GoesEnum
import HandS.TupAny
import PyProof.TupleOfSeq
import KE.DataMinMax
import HandS.Walk
import PySem.Challenge.RW_partedweb_k98_whole_webs_put_otherwise
set_option Elab.async false
set_option linter.all false
set_option maxRecDepth 100000
set_option maxHeartbeats 4000000
namespace PW
open PySem PySem.Spec PyProof.Rows L2
/-! the text by places -/
def top (i : Nat) : Stmt := PySem.Challenge.pw_partedweb_k98_whole_webs_put_otherwise.main.body.getD i (.Pass ⟨0, 0, 0, 0⟩)
abbrev sPairsCut : Stmt := top 2
abbrev sWeightOf : Stmt := top 3
abbrev sWithout : Stmt := top 4
abbrev sBeside : Stmt := top 5
abbrev sHangsOn : Stmt := top 6
abbrev sPieces : Stmt := top 7
abbrev sMerged : Stmt := top 8
abbrev sPostsIn : Stmt := top 10
abbrev sIsParting : Stmt := top 11
abbrev sCutBy : Stmt := top 12
abbrev sOwnersOf : Stmt := top 13
abbrev sTiedPlaces : Stmt := top 15
abbrev sRowsInit : Stmt := inClass (top 16) 0
abbrev sRowsPutWeight : Stmt := inClass (top 16) 1
abbrev sRowsBegun : Stmt := inClass (top 16) 2
abbrev sRowsGoneOn : Stmt := inClass (top 16) 3
abbrev sRowsIsWhole : Stmt := inClass (top 16) 4
abbrev sRowsLightest : Stmt := inClass (top 16) 5
abbrev sRowsOwnersOfRow : Stmt := inClass (top 16) 6
abbrev sRowsRowsWeighing : Stmt := inClass (top 16) 7
abbrev sLeastRows : Stmt := top 17
abbrev sLeastRow : Stmt := top 18
abbrev sCountLeast : Stmt := top 19
abbrev sTimesCut : Stmt := top 20
abbrev sAlwaysCut : Stmt := top 21
abbrev sFlowingInit : Stmt := inClass (top 23) 0
abbrev sFlowingRoom : Stmt := inClass (top 23) 1
abbrev sFlowingAdd : Stmt := inClass (top 23) 2
abbrev sFlowingWaysOn : Stmt := inClass (top 23) 3
abbrev sFlowingBring : Stmt := inClass (top 23) 5
abbrev sFlowingFill : Stmt := inClass (top 23) 6
abbrev sSideWeight : Stmt := top 24
abbrev sFlow : Stmt := top 25
abbrev sGivenTo : Stmt := top 27
abbrev sNearWeight : Stmt := top 28
abbrev sWithGiven : Stmt := top 29
abbrev sBoundingInit : Stmt := inClass (top 31) 0
abbrev sBoundingFlowsOf : Stmt := inClass (top 31) 1
abbrev sBoundingNextPlace : Stmt := inClass (top 31) 2
abbrev sBoundingTreeFor : Stmt := inClass (top 31) 3
abbrev sLeastParting : Stmt := top 32
abbrev sOthersOf : Stmt := top 34
abbrev sSingles : Stmt := top 35
abbrev sLawCellAt : Stmt := top 37
abbrev sLawBox : Stmt := top 38
abbrev sLawTake : Stmt := top 39
abbrev sLawWeight : Stmt := top 40
abbrev sLawWeb : Stmt := top 41
abbrev sLawPosts : Stmt := top 42
abbrev sLawLeast : Stmt := top 43
abbrev sLawTurned : Stmt := top 44
abbrev sLawTimes : Stmt := top 45
abbrev sLawMore : Stmt := top 46
abbrev sLawWeighed : Stmt := top 47
abbrev sLawTiesRight : Stmt := top 48
abbrev sLaw : Stmt := top 49
def dd (x : Str) (st : Stmt) : He.DefD := ⟨(x, none), x, x, defArgs st, defBody st, defScope st, [], []⟩
def dm (c x q : Str) (st : Stmt) : He.DefD := ⟨(c, some x), x, q, defArgs st, defBody st, defScope st, [], []⟩
def fn_0 : List He.DefD := [dd "pairs_cut" sPairsCut,
  dd "weight_of" sWeightOf,
  dd "without" sWithout,
  dd "beside" sBeside,
  dd "hangs_on" sHangsOn,
  dd "pieces" sPieces,
  dd "merged" sMerged,
  dd "posts_in" sPostsIn,
  dd "is_parting" sIsParting,
  dd "cut_by" sCutBy,
  dd "owners_of" sOwnersOf,
  dd "tied_places" sTiedPlaces,
  dm "Rows" "__init__" "Rows.__init__" sRowsInit,
  dm "Rows" "put_weight" "Rows.put_weight" sRowsPutWeight,
  dm "Rows" "begun" "Rows.begun" sRowsBegun,
  dm "Rows" "gone_on" "Rows.gone_on" sRowsGoneOn]
def fn_1 : List He.DefD := [dm "Rows" "is_whole" "Rows.is_whole" sRowsIsWhole,
  dm "Rows" "lightest" "Rows.lightest" sRowsLightest,
  dm "Rows" "owners_of_row" "Rows.owners_of_row" sRowsOwnersOfRow,
  dm "Rows" "rows_weighing" "Rows.rows_weighing" sRowsRowsWeighing,
  dd "least_rows" sLeastRows,
  dd "least_row" sLeastRow,
  dd "count_least" sCountLeast,
  dd "times_cut" sTimesCut,
  dd "always_cut" sAlwaysCut,
  dm "Flowing" "__init__" "Flowing.__init__" sFlowingInit,
  dm "Flowing" "room" "Flowing.room" sFlowingRoom,
  dm "Flowing" "add" "Flowing.add" sFlowingAdd,
  dm "Flowing" "ways_on" "Flowing.ways_on" sFlowingWaysOn,
  dm "Flowing" "bring" "Flowing.bring" sFlowingBring,
  dm "Flowing" "fill" "Flowing.fill" sFlowingFill,
  dd "side_weight" sSideWeight]
def fn_2 : List He.DefD := [dd "flow" sFlow,
  dd "given_to" sGivenTo,
  dd "near_weight" sNearWeight,
  dd "with_given" sWithGiven,
  dm "Bounding" "__init__" "Bounding.__init__" sBoundingInit,
  dm "Bounding" "flows_of" "Bounding.flows_of" sBoundingFlowsOf,
  dm "Bounding" "next_place" "Bounding.next_place" sBoundingNextPlace,
  dm "Bounding" "tree_for" "Bounding.tree_for" sBoundingTreeFor,
  dd "least_parting" sLeastParting,
  dd "others_of" sOthersOf,
  dd "singles" sSingles,
  dd "_law_cell_at" sLawCellAt,
  dd "_law_box" sLawBox,
  dd "_law_take" sLawTake,
  dd "_law_weight" sLawWeight,
  dd "_law_web" sLawWeb]
def fn_3 : List He.DefD := [dd "_law_posts" sLawPosts,
  dd "_law_least" sLawLeast,
  dd "_law_turned" sLawTurned,
  dd "_law_times" sLawTimes,
  dd "_law_more" sLawMore,
  dd "_law_weighed" sLawWeighed,
  dd "_law_ties_right" sLawTiesRight,
  dd "law" sLaw]
def fn : List He.DefD := fn_0 ++ (fn_1 ++ (fn_2 ++ (fn_3)))
def fa_0 : List He.Fa := [.glo "pairs_cut",
  .glo "weight_of",
  .glo "without",
  .glo "beside",
  .glo "hangs_on",
  .glo "pieces",
  .glo "merged",
  .glo "posts_in",
  .glo "is_parting",
  .glo "cut_by",
  .glo "owners_of",
  .glo "tied_places",
  .glo "least_rows",
  .glo "least_row",
  .glo "count_least",
  .glo "times_cut"]
def fa_1 : List He.Fa := [.glo "always_cut",
  .glo "side_weight",
  .glo "flow",
  .glo "given_to",
  .glo "near_weight",
  .glo "with_given",
  .glo "least_parting",
  .glo "others_of",
  .glo "singles",
  .glo "_law_cell_at",
  .glo "_law_box",
  .glo "_law_take",
  .glo "_law_weight",
  .glo "_law_web",
  .glo "_law_posts",
  .glo "_law_least"]
def fa_2 : List He.Fa := [.glo "_law_turned",
  .glo "_law_times",
  .glo "_law_more",
  .glo "_law_weighed",
  .glo "_law_ties_right",
  .glo "law",
  .glo "Rows",
  .glo "Flowing",
  .glo "Bounding",
  .free "abs",
  .free "all",
  .free "dict",
  .free "enumerate",
  .free "int",
  .free "len",
  .free "list"]
def fa_3 : List He.Fa := [.free "max",
  .free "min",
  .free "range",
  .free "sorted",
  .free "sum",
  .free "tuple",
  .free "zip",
  .cls "Rows",
  .mkr "Rows",
  .noat "Rows" "web",
  .noat "Rows" "posts",
  .noat "Rows" "order",
  .noat "Rows" "ahead",
  .meth "Rows" "put_weight",
  .meth "Rows" "begun",
  .meth "Rows" "gone_on"]
def fa_4 : List He.Fa := [.meth "Rows" "is_whole",
  .meth "Rows" "lightest",
  .meth "Rows" "owners_of_row",
  .meth "Rows" "rows_weighing",
  .cls "Flowing",
  .mkr "Flowing",
  .noat "Flowing" "ties",
  .noat "Flowing" "near",
  .noat "Flowing" "amounts",
  .meth "Flowing" "room",
  .meth "Flowing" "add",
  .meth "Flowing" "ways_on",
  .meth "Flowing" "bring",
  .meth "Flowing" "fill",
  .cls "Bounding",
  .mkr "Bounding"]
def fa_5 : List He.Fa := [.noat "Bounding" "web",
  .noat "Bounding" "posts",
  .noat "Bounding" "weight",
  .noat "Bounding" "loads",
  .meth "Bounding" "flows_of",
  .meth "Bounding" "next_place",
  .meth "Bounding" "tree_for"]
def fa : List He.Fa := fa_0 ++ (fa_1 ++ (fa_2 ++ (fa_3 ++ (fa_4 ++ (fa_5)))))
/-! what the top has written -/
structure Tx (K : PySem.W.Frag) (mg : Str → Option Value) : Prop where
  says : He.SaysD fa fn K
  glo : ∀ (i : Nat) (x : Str), fa[i]? = some (.glo x) → mg x = some (.ref (He.ga K x))
  free : ∀ (i : Nat) (x : Str), fa[i]? = some (.free x) → mg x = none
section
variable {K : PySem.W.Frag} {mg : Str → Option Value}
theorem Tx.g_pairs_cut (T : Tx K mg) : mg "pairs_cut" = some (.ref (He.ga K "pairs_cut")) := T.glo 0 "pairs_cut" rfl
theorem Tx.g_weight_of (T : Tx K mg) : mg "weight_of" = some (.ref (He.ga K "weight_of")) := T.glo 1 "weight_of" rfl
theorem Tx.g_without (T : Tx K mg) : mg "without" = some (.ref (He.ga K "without")) := T.glo 2 "without" rfl
theorem Tx.g_beside (T : Tx K mg) : mg "beside" = some (.ref (He.ga K "beside")) := T.glo 3 "beside" rfl
theorem Tx.g_hangs_on (T : Tx K mg) : mg "hangs_on" = some (.ref (He.ga K "hangs_on")) := T.glo 4 "hangs_on" rfl
theorem Tx.g_pieces (T : Tx K mg) : mg "pieces" = some (.ref (He.ga K "pieces")) := T.glo 5 "pieces" rfl
theorem Tx.g_merged (T : Tx K mg) : mg "merged" = some (.ref (He.ga K "merged")) := T.glo 6 "merged" rfl
theorem Tx.g_posts_in (T : Tx K mg) : mg "posts_in" = some (.ref (He.ga K "posts_in")) := T.glo 7 "posts_in" rfl
theorem Tx.g_is_parting (T : Tx K mg) : mg "is_parting" = some (.ref (He.ga K "is_parting")) := T.glo 8 "is_parting" rfl
theorem Tx.g_cut_by (T : Tx K mg) : mg "cut_by" = some (.ref (He.ga K "cut_by")) := T.glo 9 "cut_by" rfl
theorem Tx.g_owners_of (T : Tx K mg) : mg "owners_of" = some (.ref (He.ga K "owners_of")) := T.glo 10 "owners_of" rfl
theorem Tx.g_tied_places (T : Tx K mg) : mg "tied_places" = some (.ref (He.ga K "tied_places")) := T.glo 11 "tied_places" rfl
theorem Tx.g_least_rows (T : Tx K mg) : mg "least_rows" = some (.ref (He.ga K "least_rows")) := T.glo 12 "least_rows" rfl
theorem Tx.g_least_row (T : Tx K mg) : mg "least_row" = some (.ref (He.ga K "least_row")) := T.glo 13 "least_row" rfl
theorem Tx.g_count_least (T : Tx K mg) : mg "count_least" = some (.ref (He.ga K "count_least")) := T.glo 14 "count_least" rfl
theorem Tx.g_times_cut (T : Tx K mg) : mg "times_cut" = some (.ref (He.ga K "times_cut")) := T.glo 15 "times_cut" rfl
theorem Tx.g_always_cut (T : Tx K mg) : mg "always_cut" = some (.ref (He.ga K "always_cut")) := T.glo 16 "always_cut" rfl
theorem Tx.g_side_weight (T : Tx K mg) : mg "side_weight" = some (.ref (He.ga K "side_weight")) := T.glo 17 "side_weight" rfl
theorem Tx.g_flow (T : Tx K mg) : mg "flow" = some (.ref (He.ga K "flow")) := T.glo 18 "flow" rfl
theorem Tx.g_given_to (T : Tx K mg) : mg "given_to" = some (.ref (He.ga K "given_to")) := T.glo 19 "given_to" rfl
theorem Tx.g_near_weight (T : Tx K mg) : mg "near_weight" = some (.ref (He.ga K "near_weight")) := T.glo 20 "near_weight" rfl
theorem Tx.g_with_given (T : Tx K mg) : mg "with_given" = some (.ref (He.ga K "with_given")) := T.glo 21 "with_given" rfl
theorem Tx.g_least_parting (T : Tx K mg) : mg "least_parting" = some (.ref (He.ga K "least_parting")) := T.glo 22 "least_parting" rfl
theorem Tx.g_others_of (T : Tx K mg) : mg "others_of" = some (.ref (He.ga K "others_of")) := T.glo 23 "others_of" rfl
theorem Tx.g_singles (T : Tx K mg) : mg "singles" = some (.ref (He.ga K "singles")) := T.glo 24 "singles" rfl
theorem Tx.g__law_cell_at (T : Tx K mg) : mg "_law_cell_at" = some (.ref (He.ga K "_law_cell_at")) := T.glo 25 "_law_cell_at" rfl
theorem Tx.g__law_box (T : Tx K mg) : mg "_law_box" = some (.ref (He.ga K "_law_box")) := T.glo 26 "_law_box" rfl
theorem Tx.g__law_take (T : Tx K mg) : mg "_law_take" = some (.ref (He.ga K "_law_take")) := T.glo 27 "_law_take" rfl
theorem Tx.g__law_weight (T : Tx K mg) : mg "_law_weight" = some (.ref (He.ga K "_law_weight")) := T.glo 28 "_law_weight" rfl
theorem Tx.g__law_web (T : Tx K mg) : mg "_law_web" = some (.ref (He.ga K "_law_web")) := T.glo 29 "_law_web" rfl
theorem Tx.g__law_posts (T : Tx K mg) : mg "_law_posts" = some (.ref (He.ga K "_law_posts")) := T.glo 30 "_law_posts" rfl
theorem Tx.g__law_least (T : Tx K mg) : mg "_law_least" = some (.ref (He.ga K "_law_least")) := T.glo 31 "_law_least" rfl
theorem Tx.g__law_turned (T : Tx K mg) : mg "_law_turned" = some (.ref (He.ga K "_law_turned")) := T.glo 32 "_law_turned" rfl
theorem Tx.g__law_times (T : Tx K mg) : mg "_law_times" = some (.ref (He.ga K "_law_times")) := T.glo 33 "_law_times" rfl
theorem Tx.g__law_more (T : Tx K mg) : mg "_law_more" = some (.ref (He.ga K "_law_more")) := T.glo 34 "_law_more" rfl
theorem Tx.g__law_weighed (T : Tx K mg) : mg "_law_weighed" = some (.ref (He.ga K "_law_weighed")) := T.glo 35 "_law_weighed" rfl
theorem Tx.g__law_ties_right (T : Tx K mg) : mg "_law_ties_right" = some (.ref (He.ga K "_law_ties_right")) := T.glo 36 "_law_ties_right" rfl
theorem Tx.g_law (T : Tx K mg) : mg "law" = some (.ref (He.ga K "law")) := T.glo 37 "law" rfl
theorem Tx.g_Rows (T : Tx K mg) : mg "Rows" = some (.ref (He.ga K "Rows")) := T.glo 38 "Rows" rfl
theorem Tx.g_Flowing (T : Tx K mg) : mg "Flowing" = some (.ref (He.ga K "Flowing")) := T.glo 39 "Flowing" rfl
theorem Tx.g_Bounding (T : Tx K mg) : mg "Bounding" = some (.ref (He.ga K "Bounding")) := T.glo 40 "Bounding" rfl
theorem Tx.f_abs (T : Tx K mg) : mg "abs" = none := T.free 41 "abs" rfl
theorem Tx.f_all (T : Tx K mg) : mg "all" = none := T.free 42 "all" rfl
theorem Tx.f_dict (T : Tx K mg) : mg "dict" = none := T.free 43 "dict" rfl
theorem Tx.f_enumerate (T : Tx K mg) : mg "enumerate" = none := T.free 44 "enumerate" rfl
theorem Tx.f_int (T : Tx K mg) : mg "int" = none := T.free 45 "int" rfl
theorem Tx.f_len (T : Tx K mg) : mg "len" = none := T.free 46 "len" rfl
theorem Tx.f_list (T : Tx K mg) : mg "list" = none := T.free 47 "list" rfl
theorem Tx.f_max (T : Tx K mg) : mg "max" = none := T.free 48 "max" rfl
theorem Tx.f_min (T : Tx K mg) : mg "min" = none := T.free 49 "min" rfl
theorem Tx.f_range (T : Tx K mg) : mg "range" = none := T.free 50 "range" rfl
theorem Tx.f_sorted (T : Tx K mg) : mg "sorted" = none := T.free 51 "sorted" rfl
theorem Tx.f_sum (T : Tx K mg) : mg "sum" = none := T.free 52 "sum" rfl
theorem Tx.f_tuple (T : Tx K mg) : mg "tuple" = none := T.free 53 "tuple" rfl
theorem Tx.f_zip (T : Tx K mg) : mg "zip" = none := T.free 54 "zip" rfl
theorem Tx.c_Rows (T : Tx K mg) : Cls K (He.ga K "Rows") := He.cls_ok (T.says.fact 55 (f := .cls "Rows") rfl)
theorem Tx.k_Rows (T : Tx K mg) : Mk K (He.ga K "Rows") (He.ma K (He.ga K "Rows") "__init__") := He.mkr_ok (T.says.fact 56 (f := .mkr "Rows") rfl)
theorem Tx.n_Rows_web (T : Tx K mg) : NoAttr K (He.ga K "Rows") "web" := He.noat_ok (T.says.fact 57 (f := .noat "Rows" "web") rfl)
theorem Tx.n_Rows_posts (T : Tx K mg) : NoAttr K (He.ga K "Rows") "posts" := He.noat_ok (T.says.fact 58 (f := .noat "Rows" "posts") rfl)
theorem Tx.n_Rows_order (T : Tx K mg) : NoAttr K (He.ga K "Rows") "order" := He.noat_ok (T.says.fact 59 (f := .noat "Rows" "order") rfl)
theorem Tx.n_Rows_ahead (T : Tx K mg) : NoAttr K (He.ga K "Rows") "ahead" := He.noat_ok (T.says.fact 60 (f := .noat "Rows" "ahead") rfl)
theorem Tx.m_Rows_put_weight (T : Tx K mg) : Meth K (He.ga K "Rows") "put_weight" (He.ma K (He.ga K "Rows") "put_weight") := He.meth_ok (T.says.fact 61 (f := .meth "Rows" "put_weight") rfl)
theorem Tx.m_Rows_begun (T : Tx K mg) : Meth K (He.ga K "Rows") "begun" (He.ma K (He.ga K "Rows") "begun") := He.meth_ok (T.says.fact 62 (f := .meth "Rows" "begun") rfl)
theorem Tx.m_Rows_gone_on (T : Tx K mg) : Meth K (He.ga K "Rows") "gone_on" (He.ma K (He.ga K "Rows") "gone_on") := He.meth_ok (T.says.fact 63 (f := .meth "Rows" "gone_on") rfl)
theorem Tx.m_Rows_is_whole (T : Tx K mg) : Meth K (He.ga K "Rows") "is_whole" (He.ma K (He.ga K "Rows") "is_whole") := He.meth_ok (T.says.fact 64 (f := .meth "Rows" "is_whole") rfl)
theorem Tx.m_Rows_lightest (T : Tx K mg) : Meth K (He.ga K "Rows") "lightest" (He.ma K (He.ga K "Rows") "lightest") := He.meth_ok (T.says.fact 65 (f := .meth "Rows" "lightest") rfl)
theorem Tx.m_Rows_owners_of_row (T : Tx K mg) : Meth K (He.ga K "Rows") "owners_of_row" (He.ma K (He.ga K "Rows") "owners_of_row") := He.meth_ok (T.says.fact 66 (f := .meth "Rows" "owners_of_row") rfl)
theorem Tx.m_Rows_rows_weighing (T : Tx K mg) : Meth K (He.ga K "Rows") "rows_weighing" (He.ma K (He.ga K "Rows") "rows_weighing") := He.meth_ok (T.says.fact 67 (f := .meth "Rows" "rows_weighing") rfl)
theorem Tx.c_Flowing (T : Tx K mg) : Cls K (He.ga K "Flowing") := He.cls_ok (T.says.fact 68 (f := .cls "Flowing") rfl)
theorem Tx.k_Flowing (T : Tx K mg) : Mk K (He.ga K "Flowing") (He.ma K (He.ga K "Flowing") "__init__") := He.mkr_ok (T.says.fact 69 (f := .mkr "Flowing") rfl)
theorem Tx.n_Flowing_ties (T : Tx K mg) : NoAttr K (He.ga K "Flowing") "ties" := He.noat_ok (T.says.fact 70 (f := .noat "Flowing" "ties") rfl)
theorem Tx.n_Flowing_near (T : Tx K mg) : NoAttr K (He.ga K "Flowing") "near" := He.noat_ok (T.says.fact 71 (f := .noat "Flowing" "near") rfl)
theorem Tx.n_Flowing_amounts (T : Tx K mg) : NoAttr K (He.ga K "Flowing") "amounts" := He.noat_ok (T.says.fact 72 (f := .noat "Flowing" "amounts") rfl)
theorem Tx.m_Flowing_room (T : Tx K mg) : Meth K (He.ga K "Flowing") "room" (He.ma K (He.ga K "Flowing") "room") := He.meth_ok (T.says.fact 73 (f := .meth "Flowing" "room") rfl)
theorem Tx.m_Flowing_add (T : Tx K mg) : Meth K (He.ga K "Flowing") "add" (He.ma K (He.ga K "Flowing") "add") := He.meth_ok (T.says.fact 74 (f := .meth "Flowing" "add") rfl)
theorem Tx.m_Flowing_ways_on (T : Tx K mg) : Meth K (He.ga K "Flowing") "ways_on" (He.ma K (He.ga K "Flowing") "ways_on") := He.meth_ok (T.says.fact 75 (f := .meth "Flowing" "ways_on") rfl)
theorem Tx.m_Flowing_bring (T : Tx K mg) : Meth K (He.ga K "Flowing") "bring" (He.ma K (He.ga K "Flowing") "bring") := He.meth_ok (T.says.fact 76 (f := .meth "Flowing" "bring") rfl)
theorem Tx.m_Flowing_fill (T : Tx K mg) : Meth K (He.ga K "Flowing") "fill" (He.ma K (He.ga K "Flowing") "fill") := He.meth_ok (T.says.fact 77 (f := .meth "Flowing" "fill") rfl)
theorem Tx.c_Bounding (T : Tx K mg) : Cls K (He.ga K "Bounding") := He.cls_ok (T.says.fact 78 (f := .cls "Bounding") rfl)
theorem Tx.k_Bounding (T : Tx K mg) : Mk K (He.ga K "Bounding") (He.ma K (He.ga K "Bounding") "__init__") := He.mkr_ok (T.says.fact 79 (f := .mkr "Bounding") rfl)
theorem Tx.n_Bounding_web (T : Tx K mg) : NoAttr K (He.ga K "Bounding") "web" := He.noat_ok (T.says.fact 80 (f := .noat "Bounding" "web") rfl)
theorem Tx.n_Bounding_posts (T : Tx K mg) : NoAttr K (He.ga K "Bounding") "posts" := He.noat_ok (T.says.fact 81 (f := .noat "Bounding" "posts") rfl)
theorem Tx.n_Bounding_weight (T : Tx K mg) : NoAttr K (He.ga K "Bounding") "weight" := He.noat_ok (T.says.fact 82 (f := .noat "Bounding" "weight") rfl)
theorem Tx.n_Bounding_loads (T : Tx K mg) : NoAttr K (He.ga K "Bounding") "loads" := He.noat_ok (T.says.fact 83 (f := .noat "Bounding" "loads") rfl)
theorem Tx.m_Bounding_flows_of (T : Tx K mg) : Meth K (He.ga K "Bounding") "flows_of" (He.ma K (He.ga K "Bounding") "flows_of") := He.meth_ok (T.says.fact 84 (f := .meth "Bounding" "flows_of") rfl)
theorem Tx.m_Bounding_next_place (T : Tx K mg) : Meth K (He.ga K "Bounding") "next_place" (He.ma K (He.ga K "Bounding") "next_place") := He.meth_ok (T.says.fact 85 (f := .meth "Bounding" "next_place") rfl)
theorem Tx.m_Bounding_tree_for (T : Tx K mg) : Meth K (He.ga K "Bounding") "tree_for" (He.ma K (He.ga K "Bounding") "tree_for") := He.meth_ok (T.says.fact 86 (f := .meth "Bounding" "tree_for") rfl)
theorem Tx.d_pairs_cut (T : Tx K mg) : ∃ fd, FunD K (dd "pairs_cut" sPairsCut).name (dd "pairs_cut" sPairsCut).qual (defArgs sPairsCut) (defBody sPairsCut) (defScope sPairsCut) [] [] (He.fAd K (dd "pairs_cut" sPairsCut).at_) fd := T.says.def_ 0 (d := dd "pairs_cut" sPairsCut) rfl
theorem Tx.d_weight_of (T : Tx K mg) : ∃ fd, FunD K (dd "weight_of" sWeightOf).name (dd "weight_of" sWeightOf).qual (defArgs sWeightOf) (defBody sWeightOf) (defScope sWeightOf) [] [] (He.fAd K (dd "weight_of" sWeightOf).at_) fd := T.says.def_ 1 (d := dd "weight_of" sWeightOf) rfl
theorem Tx.d_without (T : Tx K mg) : ∃ fd, FunD K (dd "without" sWithout).name (dd "without" sWithout).qual (defArgs sWithout) (defBody sWithout) (defScope sWithout) [] [] (He.fAd K (dd "without" sWithout).at_) fd := T.says.def_ 2 (d := dd "without" sWithout) rfl
theorem Tx.d_beside (T : Tx K mg) : ∃ fd, FunD K (dd "beside" sBeside).name (dd "beside" sBeside).qual (defArgs sBeside) (defBody sBeside) (defScope sBeside) [] [] (He.fAd K (dd "beside" sBeside).at_) fd := T.says.def_ 3 (d := dd "beside" sBeside) rfl
theorem Tx.d_hangs_on (T : Tx K mg) : ∃ fd, FunD K (dd "hangs_on" sHangsOn).name (dd "hangs_on" sHangsOn).qual (defArgs sHangsOn) (defBody sHangsOn) (defScope sHangsOn) [] [] (He.fAd K (dd "hangs_on" sHangsOn).at_) fd := T.says.def_ 4 (d := dd "hangs_on" sHangsOn) rfl
theorem Tx.d_pieces (T : Tx K mg) : ∃ fd, FunD K (dd "pieces" sPieces).name (dd "pieces" sPieces).qual (defArgs sPieces) (defBody sPieces) (defScope sPieces) [] [] (He.fAd K (dd "pieces" sPieces).at_) fd := T.says.def_ 5 (d := dd "pieces" sPieces) rfl
theorem Tx.d_merged (T : Tx K mg) : ∃ fd, FunD K (dd "merged" sMerged).name (dd "merged" sMerged).qual (defArgs sMerged) (defBody sMerged) (defScope sMerged) [] [] (He.fAd K (dd "merged" sMerged).at_) fd := T.says.def_ 6 (d := dd "merged" sMerged) rfl
theorem Tx.d_posts_in (T : Tx K mg) : ∃ fd, FunD K (dd "posts_in" sPostsIn).name (dd "posts_in" sPostsIn).qual (defArgs sPostsIn) (defBody sPostsIn) (defScope sPostsIn) [] [] (He.fAd K (dd "posts_in" sPostsIn).at_) fd := T.says.def_ 7 (d := dd "posts_in" sPostsIn) rfl
theorem Tx.d_is_parting (T : Tx K mg) : ∃ fd, FunD K (dd "is_parting" sIsParting).name (dd "is_parting" sIsParting).qual (defArgs sIsParting) (defBody sIsParting) (defScope sIsParting) [] [] (He.fAd K (dd "is_parting" sIsParting).at_) fd := T.says.def_ 8 (d := dd "is_parting" sIsParting) rfl
theorem Tx.d_cut_by (T : Tx K mg) : ∃ fd, FunD K (dd "cut_by" sCutBy).name (dd "cut_by" sCutBy).qual (defArgs sCutBy) (defBody sCutBy) (defScope sCutBy) [] [] (He.fAd K (dd "cut_by" sCutBy).at_) fd := T.says.def_ 9 (d := dd "cut_by" sCutBy) rfl
theorem Tx.d_owners_of (T : Tx K mg) : ∃ fd, FunD K (dd "owners_of" sOwnersOf).name (dd "owners_of" sOwnersOf).qual (defArgs sOwnersOf) (defBody sOwnersOf) (defScope sOwnersOf) [] [] (He.fAd K (dd "owners_of" sOwnersOf).at_) fd := T.says.def_ 10 (d := dd "owners_of" sOwnersOf) rfl
theorem Tx.d_tied_places (T : Tx K mg) : ∃ fd, FunD K (dd "tied_places" sTiedPlaces).name (dd "tied_places" sTiedPlaces).qual (defArgs sTiedPlaces) (defBody sTiedPlaces) (defScope sTiedPlaces) [] [] (He.fAd K (dd "tied_places" sTiedPlaces).at_) fd := T.says.def_ 11 (d := dd "tied_places" sTiedPlaces) rfl
theorem Tx.d_Rows___init__ (T : Tx K mg) : ∃ fd, FunD K (dm "Rows" "__init__" "Rows.__init__" sRowsInit).name (dm "Rows" "__init__" "Rows.__init__" sRowsInit).qual (defArgs sRowsInit) (defBody sRowsInit) (defScope sRowsInit) [] [] (He.fAd K (dm "Rows" "__init__" "Rows.__init__" sRowsInit).at_) fd := T.says.def_ 12 (d := dm "Rows" "__init__" "Rows.__init__" sRowsInit) rfl
theorem Tx.d_Rows_put_weight (T : Tx K mg) : ∃ fd, FunD K (dm "Rows" "put_weight" "Rows.put_weight" sRowsPutWeight).name (dm "Rows" "put_weight" "Rows.put_weight" sRowsPutWeight).qual (defArgs sRowsPutWeight) (defBody sRowsPutWeight) (defScope sRowsPutWeight) [] [] (He.fAd K (dm "Rows" "put_weight" "Rows.put_weight" sRowsPutWeight).at_) fd := T.says.def_ 13 (d := dm "Rows" "put_weight" "Rows.put_weight" sRowsPutWeight) rfl
theorem Tx.d_Rows_begun (T : Tx K mg) : ∃ fd, FunD K (dm "Rows" "begun" "Rows.begun" sRowsBegun).name (dm "Rows" "begun" "Rows.begun" sRowsBegun).qual (defArgs sRowsBegun) (defBody sRowsBegun) (defScope sRowsBegun) [] [] (He.fAd K (dm "Rows" "begun" "Rows.begun" sRowsBegun).at_) fd := T.says.def_ 14 (d := dm "Rows" "begun" "Rows.begun" sRowsBegun) rfl
theorem Tx.d_Rows_gone_on (T : Tx K mg) : ∃ fd, FunD K (dm "Rows" "gone_on" "Rows.gone_on" sRowsGoneOn).name (dm "Rows" "gone_on" "Rows.gone_on" sRowsGoneOn).qual (defArgs sRowsGoneOn) (defBody sRowsGoneOn) (defScope sRowsGoneOn) [] [] (He.fAd K (dm "Rows" "gone_on" "Rows.gone_on" sRowsGoneOn).at_) fd := T.says.def_ 15 (d := dm "Rows" "gone_on" "Rows.gone_on" sRowsGoneOn) rfl
theorem Tx.d_Rows_is_whole (T : Tx K mg) : ∃ fd, FunD K (dm "Rows" "is_whole" "Rows.is_whole" sRowsIsWhole).name (dm "Rows" "is_whole" "Rows.is_whole" sRowsIsWhole).qual (defArgs sRowsIsWhole) (defBody sRowsIsWhole) (defScope sRowsIsWhole) [] [] (He.fAd K (dm "Rows" "is_whole" "Rows.is_whole" sRowsIsWhole).at_) fd := T.says.def_ 16 (d := dm "Rows" "is_whole" "Rows.is_whole" sRowsIsWhole) rfl
theorem Tx.d_Rows_lightest (T : Tx K mg) : ∃ fd, FunD K (dm "Rows" "lightest" "Rows.lightest" sRowsLightest).name (dm "Rows" "lightest" "Rows.lightest" sRowsLightest).qual (defArgs sRowsLightest) (defBody sRowsLightest) (defScope sRowsLightest) [] [] (He.fAd K (dm "Rows" "lightest" "Rows.lightest" sRowsLightest).at_) fd := T.says.def_ 17 (d := dm "Rows" "lightest" "Rows.lightest" sRowsLightest) rfl
theorem Tx.d_Rows_owners_of_row (T : Tx K mg) : ∃ fd, FunD K (dm "Rows" "owners_of_row" "Rows.owners_of_row" sRowsOwnersOfRow).name (dm "Rows" "owners_of_row" "Rows.owners_of_row" sRowsOwnersOfRow).qual (defArgs sRowsOwnersOfRow) (defBody sRowsOwnersOfRow) (defScope sRowsOwnersOfRow) [] [] (He.fAd K (dm "Rows" "owners_of_row" "Rows.owners_of_row" sRowsOwnersOfRow).at_) fd := T.says.def_ 18 (d := dm "Rows" "owners_of_row" "Rows.owners_of_row" sRowsOwnersOfRow) rfl
theorem Tx.d_Rows_rows_weighing (T : Tx K mg) : ∃ fd, FunD K (dm "Rows" "rows_weighing" "Rows.rows_weighing" sRowsRowsWeighing).name (dm "Rows" "rows_weighing" "Rows.rows_weighing" sRowsRowsWeighing).qual (defArgs sRowsRowsWeighing) (defBody sRowsRowsWeighing) (defScope sRowsRowsWeighing) [] [] (He.fAd K (dm "Rows" "rows_weighing" "Rows.rows_weighing" sRowsRowsWeighing).at_) fd := T.says.def_ 19 (d := dm "Rows" "rows_weighing" "Rows.rows_weighing" sRowsRowsWeighing) rfl
theorem Tx.d_least_rows (T : Tx K mg) : ∃ fd, FunD K (dd "least_rows" sLeastRows).name (dd "least_rows" sLeastRows).qual (defArgs sLeastRows) (defBody sLeastRows) (defScope sLeastRows) [] [] (He.fAd K (dd "least_rows" sLeastRows).at_) fd := T.says.def_ 20 (d := dd "least_rows" sLeastRows) rfl
theorem Tx.d_least_row (T : Tx K mg) : ∃ fd, FunD K (dd "least_row" sLeastRow).name (dd "least_row" sLeastRow).qual (defArgs sLeastRow) (defBody sLeastRow) (defScope sLeastRow) [] [] (He.fAd K (dd "least_row" sLeastRow).at_) fd := T.says.def_ 21 (d := dd "least_row" sLeastRow) rfl
theorem Tx.d_count_least (T : Tx K mg) : ∃ fd, FunD K (dd "count_least" sCountLeast).name (dd "count_least" sCountLeast).qual (defArgs sCountLeast) (defBody sCountLeast) (defScope sCountLeast) [] [] (He.fAd K (dd "count_least" sCountLeast).at_) fd := T.says.def_ 22 (d := dd "count_least" sCountLeast) rfl
theorem Tx.d_times_cut (T : Tx K mg) : ∃ fd, FunD K (dd "times_cut" sTimesCut).name (dd "times_cut" sTimesCut).qual (defArgs sTimesCut) (defBody sTimesCut) (defScope sTimesCut) [] [] (He.fAd K (dd "times_cut" sTimesCut).at_) fd := T.says.def_ 23 (d := dd "times_cut" sTimesCut) rfl
theorem Tx.d_always_cut (T : Tx K mg) : ∃ fd, FunD K (dd "always_cut" sAlwaysCut).name (dd "always_cut" sAlwaysCut).qual (defArgs sAlwaysCut) (defBody sAlwaysCut) (defScope sAlwaysCut) [] [] (He.fAd K (dd "always_cut" sAlwaysCut).at_) fd := T.says.def_ 24 (d := dd "always_cut" sAlwaysCut) rfl
theorem Tx.d_Flowing___init__ (T : Tx K mg) : ∃ fd, FunD K (dm "Flowing" "__init__" "Flowing.__init__" sFlowingInit).name (dm "Flowing" "__init__" "Flowing.__init__" sFlowingInit).qual (defArgs sFlowingInit) (defBody sFlowingInit) (defScope sFlowingInit) [] [] (He.fAd K (dm "Flowing" "__init__" "Flowing.__init__" sFlowingInit).at_) fd := T.says.def_ 25 (d := dm "Flowing" "__init__" "Flowing.__init__" sFlowingInit) rfl
theorem Tx.d_Flowing_room (T : Tx K mg) : ∃ fd, FunD K (dm "Flowing" "room" "Flowing.room" sFlowingRoom).name (dm "Flowing" "room" "Flowing.room" sFlowingRoom).qual (defArgs sFlowingRoom) (defBody sFlowingRoom) (defScope sFlowingRoom) [] [] (He.fAd K (dm "Flowing" "room" "Flowing.room" sFlowingRoom).at_) fd := T.says.def_ 26 (d := dm "Flowing" "room" "Flowing.room" sFlowingRoom) rfl
theorem Tx.d_Flowing_add (T : Tx K mg) : ∃ fd, FunD K (dm "Flowing" "add" "Flowing.add" sFlowingAdd).name (dm "Flowing" "add" "Flowing.add" sFlowingAdd).qual (defArgs sFlowingAdd) (defBody sFlowingAdd) (defScope sFlowingAdd) [] [] (He.fAd K (dm "Flowing" "add" "Flowing.add" sFlowingAdd).at_) fd := T.says.def_ 27 (d := dm "Flowing" "add" "Flowing.add" sFlowingAdd) rfl
theorem Tx.d_Flowing_ways_on (T : Tx K mg) : ∃ fd, FunD K (dm "Flowing" "ways_on" "Flowing.ways_on" sFlowingWaysOn).name (dm "Flowing" "ways_on" "Flowing.ways_on" sFlowingWaysOn).qual (defArgs sFlowingWaysOn) (defBody sFlowingWaysOn) (defScope sFlowingWaysOn) [] [] (He.fAd K (dm "Flowing" "ways_on" "Flowing.ways_on" sFlowingWaysOn).at_) fd := T.says.def_ 28 (d := dm "Flowing" "ways_on" "Flowing.ways_on" sFlowingWaysOn) rfl
theorem Tx.d_Flowing_bring (T : Tx K mg) : ∃ fd, FunD K (dm "Flowing" "bring" "Flowing.bring" sFlowingBring).name (dm "Flowing" "bring" "Flowing.bring" sFlowingBring).qual (defArgs sFlowingBring) (defBody sFlowingBring) (defScope sFlowingBring) [] [] (He.fAd K (dm "Flowing" "bring" "Flowing.bring" sFlowingBring).at_) fd := T.says.def_ 29 (d := dm "Flowing" "bring" "Flowing.bring" sFlowingBring) rfl
theorem Tx.d_Flowing_fill (T : Tx K mg) : ∃ fd, FunD K (dm "Flowing" "fill" "Flowing.fill" sFlowingFill).name (dm "Flowing" "fill" "Flowing.fill" sFlowingFill).qual (defArgs sFlowingFill) (defBody sFlowingFill) (defScope sFlowingFill) [] [] (He.fAd K (dm "Flowing" "fill" "Flowing.fill" sFlowingFill).at_) fd := T.says.def_ 30 (d := dm "Flowing" "fill" "Flowing.fill" sFlowingFill) rfl
theorem Tx.d_side_weight (T : Tx K mg) : ∃ fd, FunD K (dd "side_weight" sSideWeight).name (dd "side_weight" sSideWeight).qual (defArgs sSideWeight) (defBody sSideWeight) (defScope sSideWeight) [] [] (He.fAd K (dd "side_weight" sSideWeight).at_) fd := T.says.def_ 31 (d := dd "side_weight" sSideWeight) rfl
theorem Tx.d_flow (T : Tx K mg) : ∃ fd, FunD K (dd "flow" sFlow).name (dd "flow" sFlow).qual (defArgs sFlow) (defBody sFlow) (defScope sFlow) [] [] (He.fAd K (dd "flow" sFlow).at_) fd := T.says.def_ 32 (d := dd "flow" sFlow) rfl
theorem Tx.d_given_to (T : Tx K mg) : ∃ fd, FunD K (dd "given_to" sGivenTo).name (dd "given_to" sGivenTo).qual (defArgs sGivenTo) (defBody sGivenTo) (defScope sGivenTo) [] [] (He.fAd K (dd "given_to" sGivenTo).at_) fd := T.says.def_ 33 (d := dd "given_to" sGivenTo) rfl
theorem Tx.d_near_weight (T : Tx K mg) : ∃ fd, FunD K (dd "near_weight" sNearWeight).name (dd "near_weight" sNearWeight).qual (defArgs sNearWeight) (defBody sNearWeight) (defScope sNearWeight) [] [] (He.fAd K (dd "near_weight" sNearWeight).at_) fd := T.says.def_ 34 (d := dd "near_weight" sNearWeight) rfl
theorem Tx.d_with_given (T : Tx K mg) : ∃ fd, FunD K (dd "with_given" sWithGiven).name (dd "with_given" sWithGiven).qual (defArgs sWithGiven) (defBody sWithGiven) (defScope sWithGiven) [] [] (He.fAd K (dd "with_given" sWithGiven).at_) fd := T.says.def_ 35 (d := dd "with_given" sWithGiven) rfl
theorem Tx.d_Bounding___init__ (T : Tx K mg) : ∃ fd, FunD K (dm "Bounding" "__init__" "Bounding.__init__" sBoundingInit).name (dm "Bounding" "__init__" "Bounding.__init__" sBoundingInit).qual (defArgs sBoundingInit) (defBody sBoundingInit) (defScope sBoundingInit) [] [] (He.fAd K (dm "Bounding" "__init__" "Bounding.__init__" sBoundingInit).at_) fd := T.says.def_ 36 (d := dm "Bounding" "__init__" "Bounding.__init__" sBoundingInit) rfl
theorem Tx.d_Bounding_flows_of (T : Tx K mg) : ∃ fd, FunD K (dm "Bounding" "flows_of" "Bounding.flows_of" sBoundingFlowsOf).name (dm "Bounding" "flows_of" "Bounding.flows_of" sBoundingFlowsOf).qual (defArgs sBoundingFlowsOf) (defBody sBoundingFlowsOf) (defScope sBoundingFlowsOf) [] [] (He.fAd K (dm "Bounding" "flows_of" "Bounding.flows_of" sBoundingFlowsOf).at_) fd := T.says.def_ 37 (d := dm "Bounding" "flows_of" "Bounding.flows_of" sBoundingFlowsOf) rfl
theorem Tx.d_Bounding_next_place (T : Tx K mg) : ∃ fd, FunD K (dm "Bounding" "next_place" "Bounding.next_place" sBoundingNextPlace).name (dm "Bounding" "next_place" "Bounding.next_place" sBoundingNextPlace).qual (defArgs sBoundingNextPlace) (defBody sBoundingNextPlace) (defScope sBoundingNextPlace) [] [] (He.fAd K (dm "Bounding" "next_place" "Bounding.next_place" sBoundingNextPlace).at_) fd := T.says.def_ 38 (d := dm "Bounding" "next_place" "Bounding.next_place" sBoundingNextPlace) rfl
theorem Tx.d_Bounding_tree_for (T : Tx K mg) : ∃ fd, FunD K (dm "Bounding" "tree_for" "Bounding.tree_for" sBoundingTreeFor).name (dm "Bounding" "tree_for" "Bounding.tree_for" sBoundingTreeFor).qual (defArgs sBoundingTreeFor) (defBody sBoundingTreeFor) (defScope sBoundingTreeFor) [] [] (He.fAd K (dm "Bounding" "tree_for" "Bounding.tree_for" sBoundingTreeFor).at_) fd := T.says.def_ 39 (d := dm "Bounding" "tree_for" "Bounding.tree_for" sBoundingTreeFor) rfl
theorem Tx.d_least_parting (T : Tx K mg) : ∃ fd, FunD K (dd "least_parting" sLeastParting).name (dd "least_parting" sLeastParting).qual (defArgs sLeastParting) (defBody sLeastParting) (defScope sLeastParting) [] [] (He.fAd K (dd "least_parting" sLeastParting).at_) fd := T.says.def_ 40 (d := dd "least_parting" sLeastParting) rfl
theorem Tx.d_others_of (T : Tx K mg) : ∃ fd, FunD K (dd "others_of" sOthersOf).name (dd "others_of" sOthersOf).qual (defArgs sOthersOf) (defBody sOthersOf) (defScope sOthersOf) [] [] (He.fAd K (dd "others_of" sOthersOf).at_) fd := T.says.def_ 41 (d := dd "others_of" sOthersOf) rfl
theorem Tx.d_singles (T : Tx K mg) : ∃ fd, FunD K (dd "singles" sSingles).name (dd "singles" sSingles).qual (defArgs sSingles) (defBody sSingles) (defScope sSingles) [] [] (He.fAd K (dd "singles" sSingles).at_) fd := T.says.def_ 42 (d := dd "singles" sSingles) rfl
theorem Tx.d__law_cell_at (T : Tx K mg) : ∃ fd, FunD K (dd "_law_cell_at" sLawCellAt).name (dd "_law_cell_at" sLawCellAt).qual (defArgs sLawCellAt) (defBody sLawCellAt) (defScope sLawCellAt) [] [] (He.fAd K (dd "_law_cell_at" sLawCellAt).at_) fd := T.says.def_ 43 (d := dd "_law_cell_at" sLawCellAt) rfl
theorem Tx.d__law_box (T : Tx K mg) : ∃ fd, FunD K (dd "_law_box" sLawBox).name (dd "_law_box" sLawBox).qual (defArgs sLawBox) (defBody sLawBox) (defScope sLawBox) [] [] (He.fAd K (dd "_law_box" sLawBox).at_) fd := T.says.def_ 44 (d := dd "_law_box" sLawBox) rfl
theorem Tx.d__law_take (T : Tx K mg) : ∃ fd, FunD K (dd "_law_take" sLawTake).name (dd "_law_take" sLawTake).qual (defArgs sLawTake) (defBody sLawTake) (defScope sLawTake) [] [] (He.fAd K (dd "_law_take" sLawTake).at_) fd := T.says.def_ 45 (d := dd "_law_take" sLawTake) rfl
theorem Tx.d__law_weight (T : Tx K mg) : ∃ fd, FunD K (dd "_law_weight" sLawWeight).name (dd "_law_weight" sLawWeight).qual (defArgs sLawWeight) (defBody sLawWeight) (defScope sLawWeight) [] [] (He.fAd K (dd "_law_weight" sLawWeight).at_) fd := T.says.def_ 46 (d := dd "_law_weight" sLawWeight) rfl
theorem Tx.d__law_web (T : Tx K mg) : ∃ fd, FunD K (dd "_law_web" sLawWeb).name (dd "_law_web" sLawWeb).qual (defArgs sLawWeb) (defBody sLawWeb) (defScope sLawWeb) [] [] (He.fAd K (dd "_law_web" sLawWeb).at_) fd := T.says.def_ 47 (d := dd "_law_web" sLawWeb) rfl
theorem Tx.d__law_posts (T : Tx K mg) : ∃ fd, FunD K (dd "_law_posts" sLawPosts).name (dd "_law_posts" sLawPosts).qual (defArgs sLawPosts) (defBody sLawPosts) (defScope sLawPosts) [] [] (He.fAd K (dd "_law_posts" sLawPosts).at_) fd := T.says.def_ 48 (d := dd "_law_posts" sLawPosts) rfl
theorem Tx.d__law_least (T : Tx K mg) : ∃ fd, FunD K (dd "_law_least" sLawLeast).name (dd "_law_least" sLawLeast).qual (defArgs sLawLeast) (defBody sLawLeast) (defScope sLawLeast) [] [] (He.fAd K (dd "_law_least" sLawLeast).at_) fd := T.says.def_ 49 (d := dd "_law_least" sLawLeast) rfl
theorem Tx.d__law_turned (T : Tx K mg) : ∃ fd, FunD K (dd "_law_turned" sLawTurned).name (dd "_law_turned" sLawTurned).qual (defArgs sLawTurned) (defBody sLawTurned) (defScope sLawTurned) [] [] (He.fAd K (dd "_law_turned" sLawTurned).at_) fd := T.says.def_ 50 (d := dd "_law_turned" sLawTurned) rfl
theorem Tx.d__law_times (T : Tx K mg) : ∃ fd, FunD K (dd "_law_times" sLawTimes).name (dd "_law_times" sLawTimes).qual (defArgs sLawTimes) (defBody sLawTimes) (defScope sLawTimes) [] [] (He.fAd K (dd "_law_times" sLawTimes).at_) fd := T.says.def_ 51 (d := dd "_law_times" sLawTimes) rfl
theorem Tx.d__law_more (T : Tx K mg) : ∃ fd, FunD K (dd "_law_more" sLawMore).name (dd "_law_more" sLawMore).qual (defArgs sLawMore) (defBody sLawMore) (defScope sLawMore) [] [] (He.fAd K (dd "_law_more" sLawMore).at_) fd := T.says.def_ 52 (d := dd "_law_more" sLawMore) rfl
theorem Tx.d__law_weighed (T : Tx K mg) : ∃ fd, FunD K (dd "_law_weighed" sLawWeighed).name (dd "_law_weighed" sLawWeighed).qual (defArgs sLawWeighed) (defBody sLawWeighed) (defScope sLawWeighed) [] [] (He.fAd K (dd "_law_weighed" sLawWeighed).at_) fd := T.says.def_ 53 (d := dd "_law_weighed" sLawWeighed) rfl
theorem Tx.d__law_ties_right (T : Tx K mg) : ∃ fd, FunD K (dd "_law_ties_right" sLawTiesRight).name (dd "_law_ties_right" sLawTiesRight).qual (defArgs sLawTiesRight) (defBody sLawTiesRight) (defScope sLawTiesRight) [] [] (He.fAd K (dd "_law_ties_right" sLawTiesRight).at_) fd := T.says.def_ 54 (d := dd "_law_ties_right" sLawTiesRight) rfl
theorem Tx.d_law (T : Tx K mg) : ∃ fd, FunD K (dd "law" sLaw).name (dd "law" sLaw).qual (defArgs sLaw) (defBody sLaw) (defScope sLaw) [] [] (He.fAd K (dd "law" sLaw).at_) fd := T.says.def_ 55 (d := dd "law" sLaw) rfl
end
end PW
set_option Elab.async false
set_option linter.all false
set_option maxRecDepth 100000
set_option maxHeartbeats 4000000
namespace PW
open PySem PySem.Spec PyProof.Rows L2
/-! a def of the text that keeps its promise, with all that its callers ask -/
structure DefOk (P : Program) (w : World) (K : PySem.W.Frag) (mg : Str → Option Value) (base : Heap) (x : Str) (k : Nat) (ps : List Str) (sp : Sp) : Prop where
  ex : ∃ (f : Addr) (fd : FuncData), FnOk P w K mg base CX0 k f fd ps sp ∧ Binds K fd ps [] ∧ mg x = some (.ref f) ∧ PySem.W.keepIn K (.ref f) = true
structure MethOk (P : Program) (w : World) (K : PySem.W.Frag) (mg : Str → Option Value) (base : Heap) (C : Addr) (m : Str) (k : Nat) (ps : List Str) (sp : Sp) : Prop where
  cls : Cls K C
  ex : ∃ (f : Addr) (fd : FuncData), FnOk P w K mg base CX0 k f fd ps sp ∧ Binds K fd ps [] ∧ Meth K C m f
structure MakeOk (P : Program) (w : World) (K : PySem.W.Frag) (mg : Str → Option Value) (base : Heap) (x : Str) (C : Addr) (k : Nat) (ps : List Str) (sp : Sp) : Prop where
  ex : ∃ (f : Addr) (fd : FuncData), FnOk P w K mg base CX0 k f fd ps sp ∧ Binds K fd ps [] ∧ Mk K C f ∧ mg x = some (.ref C)
section
variable {P : Program} {w : World} {K : PySem.W.Frag} {mg : Str → Option Value} {base : Heap}
/-- a def's body, walked -/
theorem fn_ok {x qual : Str} {st : Stmt} {f : Addr} {N ps : List Str} {k : Nat} {sp : Sp} (T : ∃ fd, FunD K x qual (defArgs st) (defBody st) (defScope st) [] [] f fd) (S : FnScope N ps (defScope st))
    (hb : ∀ (kV doc pm : Value) (an : Option Addr) (cdv ct : Value) (us : List Value), us.length = ps.length → bindArgs (PySem.W.fnOf x qual (defArgs st) (defBody st) (defScope st) .none kV doc pm an cdv ct) ⟨us, []⟩ = pure (ps.zip us))
    (len : ∀ vs H Q E, sp vs H Q E → vs.length = ps.length)
    (hbody : ∀ (cdv : Value) (A : Around) (outer : List Env) (s : Shared) (H : Hp) (vs : List V) (Q : VK) (E : XK), Room k (A.deeper (envOfC qual (defScope st) s.heap.objs.size f cdv)) → sp vs H Q E →
      ∃ t, PSs (cxOf CX0 P w K mg base N qual (defScope st) f cdv A outer s H E).nox (defBody st) t ∧ t { nx := fun _ H' => Q .non H', rt := Q } (start N vs) H) :
    ∃ fd, FnOk P w K mg base CX0 (k + 1) f fd ps sp ∧ Binds K fd ps [] ∧ PySem.W.keepIn K (.ref f) = true := by
  obtain ⟨fd, F⟩ := T
  refine ⟨fd, F.ok S len fun cdv A outer s H vs Q E hr h => ?_, F.bindsN hb, F.kp⟩
  obtain ⟨t, h1, h2⟩ := hbody cdv A outer s H vs Q E hr h
  exact ⟨t, h1.nox, h2⟩
theorem DefOk.mk' {x : Str} {k : Nat} {ps : List Str} {sp : Sp} {f : Addr} (g : mg x = some (.ref f)) (h : ∃ fd, FnOk P w K mg base CX0 k f fd ps sp ∧ Binds K fd ps [] ∧ PySem.W.keepIn K (.ref f) = true) : DefOk P w K mg base x k ps sp := by
  obtain ⟨fd, h1, h2, h3⟩ := h
  exact ⟨f, fd, h1, h2, g, h3⟩
theorem MethOk.mk' {C : Addr} {m : Str} {k : Nat} {ps : List Str} {sp : Sp} {f : Addr} (c : Cls K C) (g : Meth K C m f) (h : ∃ fd, FnOk P w K mg base CX0 k f fd ps sp ∧ Binds K fd ps [] ∧ PySem.W.keepIn K (.ref f) = true) : MethOk P w K mg base C m k ps sp := by
  obtain ⟨fd, h1, h2, h3⟩ := h
  exact ⟨c, f, fd, h1, h2, g⟩
theorem MakeOk.mk' {x : Str} {C : Addr} {k : Nat} {ps : List Str} {sp : Sp} {f : Addr} (g : mg x = some (.ref C)) (m : Mk K C f) (h : ∃ fd, FnOk P w K mg base CX0 k f fd ps sp ∧ Binds K fd ps [] ∧ PySem.W.keepIn K (.ref f) = true) : MakeOk P w K mg base x C k ps sp := by
  obtain ⟨fd, h1, h2, h3⟩ := h
  exact ⟨f, fd, h1, h2, m, g⟩
/-! the calls -/
section
variable {X : Cx} {k : Nat} {ps : List Str} {sp : Sp} {x m : Str} {C : Addr} {p pos apos : Pos} {e o : Expr} {es : List Expr} {ta : TE} {t : TA}
theorem pcall (O : DefOk X.prog X.w X.K X.mg X.base x k ps sp) (hr : Room k X.A) (hg : Gl X x) (ha : PA X (e :: es) t) (hdb : (x == ("__debug__" : Str)) = false := by decide)
    (he : starEach (e :: es) X.env = (false, eval e X.env) :: starEach es X.env := by rfl) (hpl : (backTo pos (starEach es X.env)).any (·.1) = false := by rfl) :
    PE X (.Call (.Name x p) (e :: es) [] pos) (tCall sp [] E0 t) := by
  obtain ⟨f, fd, h1, h2, h3, h4⟩ := O.ex
  exact pe_call h1 hr hg h3 h4 h2 .nil pass0 ha hdb he hpl
theorem pmeth {pl : Sem Bool} (O : MethOk X.prog X.w X.K X.mg X.base C m k ps sp) (hr : Room k X.A) (ho : PE X o ta) (ha : PA X (e :: es) t)
    (hst : starEach (e :: es) X.env = (false, eval e X.env) :: starEach es X.env := by rfl) (hpl : (backTo pos (starEach es X.env)).any (·.1) = false := by rfl)
    (ht : eval (.Call (.Attribute o m apos) (e :: es) [] pos) X.env = (do
      let ov ← eval o X.env
      standAt apos.atName
      let (f, first) ← holding [ov] (getMethod ov m pl)
      callWith pos f first (backTo pos (starEach (e :: es) X.env)) (backToKw pos (keywordEach [] X.env))) := by rfl) :
    PE X (.Call (.Attribute o m apos) (e :: es) [] pos) (tMeth C m sp [] E0 ta t) := by
  obtain ⟨f, fd, h1, h2, h3⟩ := O.ex
  exact pe_meth ho O.cls h3 h1 hr h2 .nil pass0 ha hst hpl ht
theorem pmeth0 {pl : Sem Bool} (O : MethOk X.prog X.w X.K X.mg X.base C m k ps sp) (hr : Room k X.A) (ho : PE X o ta)
    (ht : eval (.Call (.Attribute o m apos) [] [] pos) X.env = (do
      let ov ← eval o X.env
      standAt apos.atName
      let (f, first) ← holding [ov] (getMethod ov m pl)
      callWith pos f first (backTo pos (starEach [] X.env)) (backToKw pos (keywordEach [] X.env))) := by rfl) :
    PE X (.Call (.Attribute o m apos) [] [] pos) (tMeth C m sp [] E0 ta tNil) := by
  obtain ⟨f, fd, h1, h2, h3⟩ := O.ex
  exact pe_meth0 ho O.cls h3 h1 hr h2 .nil pass0 ht
theorem pmake (O : MakeOk X.prog X.w X.K X.mg X.base x C k ps sp) (hr : Room (k + 1) X.A) (hg : Gl X x) (ha : PA X (e :: es) t) (hdb : (x == ("__debug__" : Str)) = false := by decide)
    (he : starEach (e :: es) X.env = (false, eval e X.env) :: starEach es X.env := by rfl) (hpl : (backTo pos (starEach es X.env)).any (·.1) = false := by rfl) :
    PE X (.Call (.Name x p) (e :: es) [] pos) (tMake C sp [] E0 t) := by
  obtain ⟨f, fd, h1, h2, h3, h4⟩ := O.ex
  exact pe_make h3 h1 hr hg h4 h2 .nil pass0 ha hdb he hpl
end
end
/-! the law's promise -/
def spLaw (K : PySem.W.Frag) : Sp := fun vs H Q _ => ∃ (a : Addr) (ns : List Int), vs = [.ref a] ∧ SqL K H a (ns.map V.int) ∧ ns.length ≤ 63 ∧ ∀ H', Q (.bl true) H'
end PW
set_option linter.all false
namespace PW
abbrev Tie := Nat × Nat × Int
structure Web where
  n : Nat
  ts : List Tie
/-- a tie's pair -/
abbrev pr (t : Tie) : Nat × Nat := (t.1, t.2.1)
/-- what the ties weigh of which d holds -/
def wsum : List Tie → (Nat → Nat → Bool) → Int
  | [], _ => 0
  | t :: ts, d => (if d t.1 t.2.1 = true then t.2.2 else 0) + wsum ts d
/-- what is cut by an owner for each place -/
def cost {α : Type} [BEq α] (ts : List Tie) (f : Nat → α) : Int := wsum ts fun a b => f a != f b
def GoodTs (n : Nat) (ts : List Tie) : Prop := (∀ t ∈ ts, t.1 < t.2.1 ∧ t.2.1 < n ∧ 1 ≤ t.2.2) ∧ (ts.map pr).Nodup
structure WOk (W : Web) : Prop where
  good : GoodTs W.n W.ts
  n0 : 1 ≤ W.n
  n1 : W.n ≤ 7
  len : W.ts.length ≤ 200
structure POk (W : Web) (posts : List Nat) : Prop where
  nd : posts.Nodup
  ne : 1 ≤ posts.length
  lt : ∀ p ∈ posts, p < W.n
/-! ### sums -/
theorem wsum_nil (d : Nat → Nat → Bool) : wsum [] d = 0 := rfl
theorem wsum_cons (t : Tie) (ts : List Tie) (d : Nat → Nat → Bool) : wsum (t :: ts) d = (if d t.1 t.2.1 = true then t.2.2 else 0) + wsum ts d := rfl
theorem wsum_append (a b : List Tie) (d : Nat → Nat → Bool) : wsum (a ++ b) d = wsum a d + wsum b d := by
  induction a with
  | nil => rw [List.nil_append, wsum_nil]; omega
  | cons t ts ih => rw [List.cons_append, wsum_cons, wsum_cons, ih]; omega
theorem wsum_perm {a b : List Tie} (h : a.Perm b) (d : Nat → Nat → Bool) : wsum a d = wsum b d := by
  induction h with
  | nil => rfl
  | cons x _ ih => rw [wsum_cons, wsum_cons, ih]
  | swap x y l => rw [wsum_cons, wsum_cons, wsum_cons, wsum_cons]; omega
  | trans _ _ h1 h2 => rw [h1, h2]
theorem wsum_congr {ts : List Tie} {d e : Nat → Nat → Bool} (h : ∀ t ∈ ts, d t.1 t.2.1 = e t.1 t.2.1) : wsum ts d = wsum ts e := by
  induction ts with
  | nil => rfl
  | cons t ts ih =>
    rw [wsum_cons, wsum_cons, h t (List.mem_cons_self ..), ih fun s hs => h s (List.mem_cons_of_mem _ hs)]
theorem wsum_mono {ts : List Tie} {d e : Nat → Nat → Bool} (hp : ∀ t ∈ ts, 0 ≤ t.2.2) (h : ∀ t ∈ ts, d t.1 t.2.1 = true → e t.1 t.2.1 = true) : wsum ts d ≤ wsum ts e := by
  induction ts with
  | nil => exact Int.le_refl _
  | cons t ts ih =>
    rw [wsum_cons, wsum_cons]
    have h1 := ih (fun s hs => hp s (List.mem_cons_of_mem _ hs)) fun s hs => h s (List.mem_cons_of_mem _ hs)
    have h2 := h t (List.mem_cons_self ..)
    have h3 := hp t (List.mem_cons_self ..)
    by_cases hd : d t.1 t.2.1 = true
    · rw [if_pos hd, if_pos (h2 hd)]; omega
    · rw [if_neg hd]
      split <;> omega
theorem wsum_nonneg {ts : List Tie} {d : Nat → Nat → Bool} (hp : ∀ t ∈ ts, 0 ≤ t.2.2) : 0 ≤ wsum ts d := by
  induction ts with
  | nil => exact Int.le_refl _
  | cons t ts ih =>
    rw [wsum_cons]
    have h1 := ih fun s hs => hp s (List.mem_cons_of_mem _ hs)
    have h3 := hp t (List.mem_cons_self ..)
    split <;> omega
theorem wsum_false (ts : List Tie) : (wsum ts fun _ _ => false) = 0 := by
  induction ts with
  | nil => rfl
  | cons t ts ih => rw [wsum_cons, ih]; rfl
theorem wsum_zero {ts : List Tie} {d : Nat → Nat → Bool} (h : ∀ t ∈ ts, d t.1 t.2.1 = false) : wsum ts d = 0 := by
  rw [wsum_congr (e := fun _ _ => false) h]
  exact wsum_false ts
/-- d and e apart -/
theorem wsum_or {ts : List Tie} {d e : Nat → Nat → Bool} (h : ∀ t ∈ ts, ¬ (d t.1 t.2.1 = true ∧ e t.1 t.2.1 = true)) : wsum ts (fun a b => d a b || e a b) = wsum ts d + wsum ts e := by
  induction ts with
  | nil => rfl
  | cons t ts ih =>
    rw [wsum_cons, wsum_cons, wsum_cons, ih fun s hs => h s (List.mem_cons_of_mem _ hs)]
    have h2 := h t (List.mem_cons_self ..)
    cases hd : d t.1 t.2.1 <;> cases he : e t.1 t.2.1
    · simp
    · simp; omega
    · simp; omega
    · exact absurd ⟨hd, he⟩ h2
theorem wsum_filter (ts : List Tie) (p : Tie → Bool) (q d : Nat → Nat → Bool) (hq : ∀ t ∈ ts, p t = q t.1 t.2.1) : wsum (ts.filter p) d = wsum ts (fun a b => q a b && d a b) := by
  induction ts with
  | nil => rfl
  | cons t ts ih =>
    have ih' := ih fun s hs => hq s (List.mem_cons_of_mem _ hs)
    have h1 := hq t (List.mem_cons_self ..)
    rw [List.filter_cons, wsum_cons]
    by_cases hp : p t = true
    · rw [if_pos hp, wsum_cons, ih']
      rw [hp] at h1
      rw [← h1, Bool.true_and]
    · rw [if_neg hp, ih']
      have : p t = false := by simpa using hp
      rw [this] at h1
      rw [← h1]
      simp
theorem sum_filter_map (ts : List Tie) (d : Nat → Nat → Bool) : ((ts.filter fun t => d t.1 t.2.1).map fun t => t.2.2).sum = wsum ts d := by
  induction ts with
  | nil => rfl
  | cons t ts ih =>
    rw [List.filter_cons, wsum_cons]
    by_cases h : d t.1 t.2.1 = true
    · rw [if_pos h, if_pos h, List.map_cons, List.sum_cons, ih]
    · rw [if_neg h, if_neg h, ih]; omega
theorem sum_map_wsum (ts : List Tie) : (ts.map fun t => t.2.2).sum = wsum ts fun _ _ => true := by
  have h := sum_filter_map ts fun _ _ => true
  rw [List.filter_eq_self.mpr (by simp)] at h
  exact h
theorem wsum_scale (ts : List Tie) (c : Int) (d : Nat → Nat → Bool) : wsum (ts.map fun t => (t.1, t.2.1, t.2.2 * c)) d = wsum ts d * c := by
  induction ts with
  | nil => rw [List.map_nil, wsum_nil]; simp
  | cons t ts ih =>
    rw [List.map_cons, wsum_cons, wsum_cons, ih, Int.add_mul]
    by_cases h : d t.1 t.2.1 = true
    · rw [if_pos h, if_pos h]
    · rw [if_neg h, if_neg h]; simp
/-! ### a least number of some kind -/
open Classical in
noncomputable def minOf (S : Int → Prop) : Int := if h : ∃ m, S m ∧ ∀ x, S x → m ≤ x then h.choose else 0
theorem minOf_eq {S : Int → Prop} {m : Int} (h1 : S m) (h2 : ∀ x, S x → m ≤ x) : minOf S = m := by
  have h : ∃ m, S m ∧ ∀ x, S x → m ≤ x := ⟨m, h1, h2⟩
  unfold minOf
  rw [dif_pos h]
  obtain ⟨a, b⟩ := h.choose_spec
  have := b m h1
  have := h2 _ a
  omega
/-- owners of all places, each post its own -/
def Owns (posts : List Nat) (f : Nat → Nat) : Prop := (∀ p ∈ posts, f p = p) ∧ ∀ v, f v ∈ posts
noncomputable def leastW (W : Web) (posts : List Nat) : Int := minOf fun x => ∃ f, Owns posts f ∧ cost W.ts f = x
/-- sides that have the sources and no sink -/
def Sep (src snk : List Nat) (S : Nat → Bool) : Prop := (∀ p ∈ src, S p = true) ∧ ∀ q ∈ snk, S q = false
noncomputable def minCut (W : Web) (src snk : List Nat) : Int := minOf fun x => ∃ S, Sep src snk S ∧ cost W.ts S = x
/-- hanging together -/
def Adj (ts : List Tie) (a b : Nat) : Prop := ∃ t ∈ ts, (t.1 = a ∧ t.2.1 = b) ∨ (t.1 = b ∧ t.2.1 = a)
inductive Conn (R : Nat → Nat → Prop) (a : Nat) : Nat → Prop
  | refl : Conn R a a
  | step {b c : Nat} : Conn R a b → R b c → Conn R a c
theorem Conn.trans {R : Nat → Nat → Prop} {a b c : Nat} (h1 : Conn R a b) (h2 : Conn R b c) : Conn R a c := by
  induction h2 with
  | refl => exact h1
  | step _ r ih => exact .step ih r
theorem Conn.mono {R S : Nat → Nat → Prop} (h : ∀ a b, R a b → S a b) {a b : Nat} (x : Conn R a b) : Conn S a b := by
  induction x with
  | refl => exact .refl
  | step _ r ih => exact .step ih (h _ _ r)
theorem Conn.symm {R : Nat → Nat → Prop} (h : ∀ a b, R a b → R b a) {a b : Nat} (x : Conn R a b) : Conn R b a := by
  induction x with
  | refl => exact .refl
  | step _ r ih => exact Conn.trans (.step .refl (h _ _ r)) ih
/-- a set closed under R holds all that hangs on -/
theorem Conn.closed {R : Nat → Nat → Prop} {P : Nat → Prop} (h : ∀ a b, P a → R a b → P b) {a b : Nat} (ha : P a) (x : Conn R a b) : P b := by
  induction x with
  | refl => exact ha
  | step _ r ih => exact h _ _ ih r
theorem adj_symm (ts : List Tie) (a b : Nat) (h : Adj ts a b) : Adj ts b a := by
  obtain ⟨t, ht, h⟩ := h
  exact ⟨t, ht, h.symm⟩
theorem adj_lt {n : Nat} {ts : List Tie} (g : GoodTs n ts) {a b : Nat} (h : Adj ts a b) : a < n ∧ b < n ∧ a ≠ b := by
  obtain ⟨t, ht, h⟩ := h
  have := g.1 t ht
  rcases h with ⟨h1, h2⟩ | ⟨h1, h2⟩ <;> omega
/-! ### lists that rise -/
theorem sorted_unique : ∀ {a b : List Nat}, a.Pairwise (· < ·) → b.Pairwise (· < ·) → (∀ x, x ∈ a ↔ x ∈ b) → a = b
  | [], [], _, _, _ => rfl
  | [], y :: b, _, _, h => absurd ((h y).mpr (List.mem_cons_self ..)) (by simp)
  | x :: a, [], _, _, h => absurd ((h x).mp (List.mem_cons_self ..)) (by simp)
  | x :: a, y :: b, ha, hb, h => by
    rw [List.pairwise_cons] at ha hb
    have e : x = y := by
      have h1 := (h x).mp (List.mem_cons_self ..)
      have h2 := (h y).mpr (List.mem_cons_self ..)
      rcases List.mem_cons.mp h1 with e | h1
      · exact e
      · rcases List.mem_cons.mp h2 with e | h2
        · exact e.symm
        · have := hb.1 x h1
          have := ha.1 y h2
          omega
    subst e
    have ih := sorted_unique ha.2 hb.2 fun z => by
      constructor
      · intro hz
        have h1 := (h z).mp (List.mem_cons_of_mem _ hz)
        rcases List.mem_cons.mp h1 with e | h1
        · have := ha.1 z hz; omega
        · exact h1
      · intro hz
        have h1 := (h z).mpr (List.mem_cons_of_mem _ hz)
        rcases List.mem_cons.mp h1 with e | h1
        · have := hb.1 z hz; omega
        · exact h1
    rw [ih]
theorem range_lt (n : Nat) : (List.range n).Pairwise (· < ·) := List.pairwise_lt_range
theorem nodup_length_le {α : Type} [DecidableEq α] : ∀ {a b : List α}, a.Nodup → (∀ x ∈ a, x ∈ b) → a.length ≤ b.length
  | [], _, _, _ => Nat.zero_le _
  | x :: a, b, hn, h => by
    rw [List.nodup_cons] at hn
    have hx := h x (List.mem_cons_self ..)
    have ih := nodup_length_le (a := a) (b := b.erase x) hn.2 fun y hy => (List.mem_erase_of_ne (fun e => hn.1 (by rw [← e]; exact hy))).mpr (h y (List.mem_cons_of_mem _ hy))
    rw [List.length_erase_of_mem hx] at ih
    have := List.length_pos_of_mem hx
    rw [List.length_cons]
    omega
open Classical in
/-- all that hang together with a place -/
noncomputable def connL (n : Nat) (R : Nat → Nat → Prop) (u : Nat) : List Nat := (List.range n).filter fun v => decide (Conn R u v)
open Classical in
theorem mem_connL {n : Nat} {R : Nat → Nat → Prop} {u v : Nat} : v ∈ connL n R u ↔ v < n ∧ Conn R u v := by
  unfold connL
  rw [List.mem_filter, List.mem_range, decide_eq_true_iff]
theorem connL_lt (n : Nat) (R : Nat → Nat → Prop) (u : Nat) : (connL n R u).Pairwise (· < ·) := (range_lt n).filter _
theorem connL_eq {n : Nat} {R : Nat → Nat → Prop} {u : Nat} {l : List Nat} (h : l.Pairwise (· < ·)) (hm : ∀ v, v ∈ l ↔ v < n ∧ Conn R u v) : l = connL n R u :=
  sorted_unique h (connL_lt n R u) fun v => by rw [hm, mem_connL]
open Classical in
/-- the places beside the posts that hang together with one -/
noncomputable def tiedL (W : Web) (posts : List Nat) : List Nat := (List.range W.n).filter fun v => decide (v ∉ posts ∧ ∃ p ∈ posts, Conn (Adj W.ts) p v)
open Classical in
theorem mem_tiedL {W : Web} {posts : List Nat} {v : Nat} : v ∈ tiedL W posts ↔ v < W.n ∧ v ∉ posts ∧ ∃ p ∈ posts, Conn (Adj W.ts) p v := by
  unfold tiedL
  rw [List.mem_filter, List.mem_range, decide_eq_true_iff]
theorem tiedL_lt (W : Web) (posts : List Nat) : (tiedL W posts).Pairwise (· < ·) := (range_lt W.n).filter _
end PW
set_option Elab.async false
set_option linter.all false
set_option maxRecDepth 100000
set_option maxHeartbeats 4000000
namespace PW
open PySem PySem.Spec PyProof.Rows L2
/-! data that stands tracked -/
mutual
inductive Is (φ : Addr → Prop) (H : Hp) : V → PyData → Prop
  | non : Is φ H .non .none
  | bl (b : Bool) : Is φ H (.bl b) (.bool b)
  | int (i : Int) : Is φ H (.int i) (.int i)
  | lst {a : Addr} {xs : List V} {ds : List PyData} : φ a → H a = some (.lst xs) → IsAll φ H xs ds → Is φ H (.ref a) (.list ds)
  | tup {a : Addr} {xs : List V} {ds : List PyData} : H a = some (.tup xs) → IsAll φ H xs ds → Is φ H (.ref a) (.tuple ds)
inductive IsAll (φ : Addr → Prop) (H : Hp) : List V → List PyData → Prop
  | nil : IsAll φ H [] []
  | cons {v : V} {vs : List V} {d : PyData} {ds : List PyData} : Is φ H v d → IsAll φ H vs ds → IsAll φ H (v :: vs) (d :: ds)
end
/-- any object; one that was not there -/
def Any : Addr → Prop := fun _ => True
def New (H : Hp) : Addr → Prop := fun a => H a = none
section
variable {φ ψ : Addr → Prop} {H H' : Hp} {K : PySem.W.Frag}
mutual
theorem Is.dp : ∀ {d : PyData} {v : V}, Is φ H v d → Dp K H v d
  | .none, _, h => by cases h; exact .non
  | .bool b, _, h => by cases h; exact .bl b
  | .int i, _, h => by cases h; exact .int i
  | .list ds, _, h => by
    cases h with
    | lst _ h1 h2 => exact .lst (SqL.of h1) (IsAll.dp h2)
  | .tuple ds, _, h => by
    cases h with
    | tup h1 h2 => exact .tup (SqT.of h1) (IsAll.dp h2)
  | .str _, _, h => by cases h
  | .dict _, _, h => by cases h
theorem IsAll.dp : ∀ {ds : List PyData} {vs : List V}, IsAll φ H vs ds → DpAll K H vs ds
  | [], _, h => by cases h; exact .nil
  | d :: ds, _, h => by
    cases h with
    | cons h1 h2 => exact .cons (Is.dp h1) (IsAll.dp h2)
end
mutual
theorem Is.same (e : Same H H') : ∀ {d : PyData} {v : V}, Is φ H v d → Is φ H' v d
  | .none, _, h => by cases h; exact .non
  | .bool b, _, h => by cases h; exact .bl b
  | .int i, _, h => by cases h; exact .int i
  | .list ds, _, h => by
    cases h with
    | lst h0 h1 h2 => exact .lst h0 (e _ _ h1) (IsAll.same e h2)
  | .tuple ds, _, h => by
    cases h with
    | tup h1 h2 => exact .tup (e _ _ h1) (IsAll.same e h2)
  | .str _, _, h => by cases h
  | .dict _, _, h => by cases h
theorem IsAll.same (e : Same H H') : ∀ {ds : List PyData} {vs : List V}, IsAll φ H vs ds → IsAll φ H' vs ds
  | [], _, h => by cases h; exact .nil
  | d :: ds, _, h => by
    cases h with
    | cons h1 h2 => exact .cons (Is.same e h1) (IsAll.same e h2)
end
mutual
theorem Is.imp (k : ∀ a, φ a → ψ a) : ∀ {d : PyData} {v : V}, Is φ H v d → Is ψ H v d
  | .none, _, h => by cases h; exact .non
  | .bool b, _, h => by cases h; exact .bl b
  | .int i, _, h => by cases h; exact .int i
  | .list ds, _, h => by
    cases h with
    | lst h0 h1 h2 => exact .lst (k _ h0) h1 (IsAll.imp k h2)
  | .tuple ds, _, h => by
    cases h with
    | tup h1 h2 => exact .tup h1 (IsAll.imp k h2)
  | .str _, _, h => by cases h
  | .dict _, _, h => by cases h
theorem IsAll.imp (k : ∀ a, φ a → ψ a) : ∀ {ds : List PyData} {vs : List V}, IsAll φ H vs ds → IsAll ψ H vs ds
  | [], _, h => by cases h; exact .nil
  | d :: ds, _, h => by
    cases h with
    | cons h1 h2 => exact .cons (Is.imp k h1) (IsAll.imp k h2)
end
mutual
/-- an object that is neither a tuple nor one of these may change -/
theorem Is.upd {p : Addr} {o : HO} (hp : ∀ a, φ a → a ≠ p) (ht : ∀ xs, H p ≠ some (.tup xs)) : ∀ {d : PyData} {v : V}, Is φ H v d → Is φ (upd H p o) v d
  | .none, _, h => by cases h; exact .non
  | .bool b, _, h => by cases h; exact .bl b
  | .int i, _, h => by cases h; exact .int i
  | .list ds, _, h => by
    cases h with
    | lst h0 h1 h2 => exact .lst h0 (by rw [upd_ne (hp _ h0)]; exact h1) (IsAll.upd hp ht h2)
  | .tuple ds, _, h => by
    cases h with
    | tup h1 h2 => exact .tup (by rw [upd_ne (fun e => ht _ (by rw [← e]; exact h1))]; exact h1) (IsAll.upd hp ht h2)
  | .str _, _, h => by cases h
  | .dict _, _, h => by cases h
theorem IsAll.upd {p : Addr} {o : HO} (hp : ∀ a, φ a → a ≠ p) (ht : ∀ xs, H p ≠ some (.tup xs)) : ∀ {ds : List PyData} {vs : List V}, IsAll φ H vs ds → IsAll φ (upd H p o) vs ds
  | [], _, h => by cases h; exact .nil
  | d :: ds, _, h => by
    cases h with
    | cons h1 h2 => exact .cons (Is.upd hp ht h1) (IsAll.upd hp ht h2)
end
theorem Is.any {d : PyData} {v : V} (h : Is φ H v d) : Is Any H v d := h.imp fun _ _ => trivial
theorem IsAll.any {ds : List PyData} {vs : List V} (h : IsAll φ H vs ds) : IsAll Any H vs ds := h.imp fun _ _ => trivial
theorem IsAll.length {vs : List V} : ∀ {ds : List PyData}, IsAll φ H vs ds → vs.length = ds.length := by
  induction vs with
  | nil => intro ds h; cases h; rfl
  | cons v vs ih => intro ds h; cases h with | cons h1 h2 => rw [List.length_cons, List.length_cons, ih h2]
theorem IsAll.get {vs : List V} : ∀ {ds : List PyData} {i : Nat} {v : V}, IsAll φ H vs ds → vs[i]? = some v → ∃ d, ds[i]? = some d ∧ Is φ H v d := by
  induction vs with
  | nil => intro ds i v _ e; simp at e
  | cons v vs ih =>
    intro ds i x h e
    cases h with
    | cons h1 h2 =>
      cases i with
      | zero => simp at e; subst e; exact ⟨_, rfl, h1⟩
      | succ i => obtain ⟨d, a, b⟩ := ih (i := i) h2 (by simpa using e); exact ⟨d, by simpa using a, b⟩
theorem IsAll.getD {vs : List V} : ∀ {ds : List PyData} {i : Nat} {d : PyData}, IsAll φ H vs ds → ds[i]? = some d → ∃ v, vs[i]? = some v ∧ Is φ H v d := by
  induction vs with
  | nil => intro ds i v h e; cases h; simp at e
  | cons v vs ih =>
    intro ds i x h e
    cases h with
    | cons h1 h2 =>
      cases i with
      | zero => simp at e; subst e; exact ⟨_, rfl, h1⟩
      | succ i => obtain ⟨d, a, b⟩ := ih (i := i) h2 (by simpa using e); exact ⟨d, by simpa using a, b⟩
theorem IsAll.snoc {vs : List V} : ∀ {ds : List PyData} {v : V} {d : PyData}, IsAll φ H vs ds → Is φ H v d → IsAll φ H (vs ++ [v]) (ds ++ [d]) := by
  induction vs with
  | nil => intro ds v d h h'; cases h; exact .cons h' .nil
  | cons v vs ih => intro ds x d h h'; cases h with | cons h1 h2 => exact .cons h1 (ih h2 h')
theorem IsAll.append {vs : List V} : ∀ {ds es : List PyData} {us : List V}, IsAll φ H vs ds → IsAll φ H us es → IsAll φ H (vs ++ us) (ds ++ es) := by
  induction vs with
  | nil => intro ds es us h h'; cases h; exact h'
  | cons v vs ih => intro ds es us h h'; cases h with | cons h1 h2 => exact .cons h1 (ih h2 h')
theorem IsAll.map_get {α : Type} {f : α → PyData} {vs : List V} {l : List α} {i : Nat} {v : V} (h : IsAll φ H vs (l.map f)) (e : vs[i]? = some v) : ∃ x, l[i]? = some x ∧ Is φ H v (f x) := by
  obtain ⟨d, h1, h2⟩ := h.get e
  rw [List.getElem?_map] at h1
  cases q : l[i]? with
  | none => rw [q] at h1; cases h1
  | some x => rw [q] at h1; cases h1; exact ⟨x, rfl, h2⟩
theorem IsAll.map_at {α : Type} {f : α → PyData} {vs : List V} {l : List α} {i : Nat} {x : α} (h : IsAll φ H vs (l.map f)) (e : l[i]? = some x) : ∃ v, vs[i]? = some v ∧ Is φ H v (f x) :=
  h.getD (by rw [List.getElem?_map, e]; rfl)
theorem IsAll.map_len {α : Type} {f : α → PyData} {vs : List V} {l : List α} (h : IsAll φ H vs (l.map f)) : vs.length = l.length := by rw [h.length, List.length_map]
theorem isAll_ints : ∀ {vs : List V} {ns : List Int}, IsAll φ H vs (ns.map .int) ↔ vs = ns.map V.int
  | [], [] => ⟨fun _ => rfl, fun _ => .nil⟩
  | [], n :: ns => ⟨fun h => (by cases h), fun h => (by cases h)⟩
  | v :: vs, [] => ⟨fun h => (by cases h), fun h => (by cases h)⟩
  | v :: vs, n :: ns => by
    constructor
    · intro h
      cases h with
      | cons h1 h2 =>
        cases h1
        rw [isAll_ints.mp h2]
        rfl
    · intro h
      cases h
      exact .cons (.int n) (isAll_ints.mpr rfl)
end
/-! the shapes of this program -/
abbrev nv (n : Nat) : V := .int (n : Int)
abbrev natD (n : Nat) : PyData := .int (n : Int)
abbrev pairD (p : Nat × Nat) : PyData := .tuple [natD p.1, natD p.2]
abbrev tieD (t : Tie) : PyData := .tuple [natD t.1, natD t.2.1, .int t.2.2]
abbrev webD (W : Web) : PyData := .tuple [natD W.n, .tuple (W.ts.map tieD)]
abbrev natsD (ns : List Nat) : PyData := .list (ns.map natD)
abbrev tupD (ns : List Nat) : PyData := .tuple (ns.map natD)
section
variable {φ : Addr → Prop} {H H' : Hp}
theorem is_int {v : V} {i : Int} (h : Is φ H v (.int i)) : v = .int i := by cases h; rfl
theorem is_pair {v : V} {p : Nat × Nat} (h : Is φ H v (pairD p)) : ∃ a, v = .ref a ∧ H a = some (.tup [nv p.1, nv p.2]) := by
  cases h with
  | tup h1 h2 =>
    cases h2 with
    | cons a1 a2 => cases a2 with | cons b1 b2 => cases b2; cases a1; cases b1; exact ⟨_, rfl, h1⟩
theorem is_pair' {a : Addr} {p : Nat × Nat} (h : H a = some (.tup [nv p.1, nv p.2])) : Is φ H (.ref a) (pairD p) := .tup h (.cons (.int _) (.cons (.int _) .nil))
theorem is_tie {v : V} {t : Tie} (h : Is φ H v (tieD t)) : ∃ a, v = .ref a ∧ H a = some (.tup [nv t.1, nv t.2.1, .int t.2.2]) := by
  cases h with
  | tup h1 h2 =>
    cases h2 with
    | cons a1 a2 => cases a2 with | cons b1 b2 => cases b2 with | cons c1 c2 => cases c2; cases a1; cases b1; cases c1; exact ⟨_, rfl, h1⟩
theorem is_tie' {a : Addr} {t : Tie} (h : H a = some (.tup [nv t.1, nv t.2.1, .int t.2.2])) : Is φ H (.ref a) (tieD t) := .tup h (.cons (.int _) (.cons (.int _) (.cons (.int _) .nil)))
theorem is_web {v : V} {W : Web} (h : Is φ H v (webD W)) : ∃ p q vs, v = .ref p ∧ H p = some (.tup [nv W.n, .ref q]) ∧ H q = some (.tup vs) ∧ IsAll φ H vs (W.ts.map tieD) := by
  cases h with
  | tup h1 h2 =>
    cases h2 with
    | cons a1 a2 => cases a2 with | cons b1 b2 => cases b2; cases a1; cases b1 with | tup h3 h4 => exact ⟨_, _, _, rfl, h1, h3, h4⟩
theorem is_web' {p q : Addr} {W : Web} {vs : List V} (h : H p = some (.tup [nv W.n, .ref q])) (h2 : H q = some (.tup vs)) (h3 : IsAll φ H vs (W.ts.map tieD)) : Is φ H (.ref p) (webD W) :=
  .tup h (.cons (.int _) (.cons (.tup h2 h3) .nil))
theorem isAll_nats {vs : List V} {ns : List Nat} : IsAll φ H vs (ns.map natD) ↔ vs = ns.map nv := by
  have e1 : ns.map natD = (ns.map (fun n : Nat => (n : Int))).map PyData.int := by rw [List.map_map]; rfl
  have e2 : ns.map nv = (ns.map (fun n : Nat => (n : Int))).map V.int := by rw [List.map_map]; rfl
  rw [e1, e2]
  exact isAll_ints
theorem is_nats {v : V} {ns : List Nat} (h : Is φ H v (natsD ns)) : ∃ a, v = .ref a ∧ φ a ∧ H a = some (.lst (ns.map nv)) := by
  cases h with
  | lst h0 h1 h2 => rw [isAll_nats.mp h2] at h1; exact ⟨_, rfl, h0, h1⟩
theorem is_nats' {a : Addr} {ns : List Nat} (h0 : φ a) (h : H a = some (.lst (ns.map nv))) : Is φ H (.ref a) (natsD ns) := .lst h0 h (isAll_nats.mpr rfl)
theorem is_tnats {v : V} {ns : List Nat} (h : Is φ H v (tupD ns)) : ∃ a, v = .ref a ∧ H a = some (.tup (ns.map nv)) := by
  cases h with
  | tup h1 h2 => rw [isAll_nats.mp h2] at h1; exact ⟨_, rfl, h1⟩
theorem is_tnats' {a : Addr} {ns : List Nat} (h : H a = some (.tup (ns.map nv))) : Is φ H (.ref a) (tupD ns) := .tup h (isAll_nats.mpr rfl)
theorem is_list {v : V} {ds : List PyData} (h : Is φ H v (.list ds)) : ∃ a vs, v = .ref a ∧ φ a ∧ H a = some (.lst vs) ∧ IsAll φ H vs ds := by
  cases h with
  | lst h0 h1 h2 => exact ⟨_, _, rfl, h0, h1, h2⟩
theorem is_tuple {v : V} {ds : List PyData} (h : Is φ H v (.tuple ds)) : ∃ a vs, v = .ref a ∧ H a = some (.tup vs) ∧ IsAll φ H vs ds := by
  cases h with
  | tup h1 h2 => exact ⟨_, _, rfl, h1, h2⟩
end
/-! heaps -/
theorem same_upd {H : Hp} {p : Addr} {o : HO} (h : H p = none) : Same H (upd H p o) := fun b x e => by rw [upd_ne (ne_of_none e h)]; exact e
theorem upd_self {H : Hp} {p : Addr} {o : HO} (h : H p = some o) : upd H p o = H := by
  funext b
  by_cases e : b = p
  · subst e; rw [upd_same, h]
  · rw [upd_ne e]
/-- what was not there may change -/
theorem Same.mut {H H' : Hp} {p : Addr} {o : HO} (e : Same H H') (h : H p = none) : Same H (upd H' p o) := fun a u ha => by
  rw [upd_ne (ne_of_none ha h)]
  exact e a u ha
end PW
set_option Elab.async false
set_option linter.all false
set_option maxRecDepth 100000
set_option maxHeartbeats 4000000
namespace PW
open PySem PySem.Spec PyProof.Rows L2
/-! ### dict(pairs), the keys tuples -/
def mergeT (kvs more : List (List Key × V)) : List (List Key × V) := more.foldl (fun acc kv => putK acc kv.1 kv.2) kvs
theorem length_mergeT : ∀ (more kvs : List (List Key × V)), (mergeT kvs more).length ≤ kvs.length + more.length
  | [], kvs => by show kvs.length ≤ kvs.length + 0; omega
  | p :: r, kvs => by
    have h1 := length_mergeT r (putK kvs p.1 p.2)
    have h2 := length_putK kvs p.1 p.2
    show (mergeT (putK kvs p.1 p.2) r).length ≤ _
    rw [List.length_cons]; omega
theorem kt_merge {H : Hp} : ∀ {more : List (List Key × V)} {rs : List (List Key × Addr × Value)} {kvs : List (List Key × V)} {vs : List (List Key × Addr × Value)}, KT H more rs → KT H kvs vs → KT H (mergeT kvs more) (storedAllH vs rs) := by
  intro more rs kvs vs r
  induction r generalizing kvs vs with
  | nil => intro q; exact q
  | @cons p q ps qs h t ih =>
    intro r0
    obtain ⟨h1, h2, h3⟩ := h
    have e : KT H (putK kvs p.1 p.2) (storedH vs q.1 q.2.1 q.2.2) := by
      rw [← h1]
      exact r0.put p.1 h2 h3
    exact ih e
/-- the pairs at ps: a key's tuple and a value -/
def PairsT (H : Hp) : List Addr → List (List Key × V) → Prop := Paired fun p kv => ∃ b, H p = some (.tup [.ref b, kv.2]) ∧ H b = some (.tup (kv.1.map kV))
section
variable {X : Cx}
theorem pairsT_of {pins : List (Addr × Obj)} {σ : L2.St} {H : Hp} {s : Shared} (I : Inv X pins σ H s) : ∀ {ps : List Addr} {kvs : List (List Key × V)}, PairsT H ps kvs →
    ∃ prs : List (List Key × Addr × Value), KT H kvs prs ∧ prs.length = ps.length ∧ (∀ (j : Nat) (q : List Key × Addr × Value), prs[j]? = some q → ∃ (b : Addr), ps[j]? = some b ∧ IsTup s.heap b #[.ref q.2.1, q.2.2])
  | _, _, .nil => ⟨[], .nil, rfl, fun j q e => by simp at e⟩
  | _, _, .cons (a := p) (b := kv) h t => by
    obtain ⟨prs, r, hl, hp⟩ := pairsT_of I t
    obtain ⟨b, h1, h2⟩ := h
    obtain ⟨its, rv, ht, _⟩ := I.tuple (SqT.of (K := X.K) h1)
    obtain ⟨u, y, ei, ru, ry⟩ := vals2 rv
    subst ei
    cases ru
    refine ⟨(kv.1, b, y) :: prs, .cons ⟨rfl, h2, ry⟩ r, by rw [List.length_cons, List.length_cons, hl], fun j q e => ?_⟩
    cases j with
    | zero =>
      have e' : (kv.1, b, y) = q := Option.some.inj e
      subst e'
      exact ⟨p, rfl, ht⟩
    | succ j =>
      obtain ⟨b', e1, e2⟩ := hp j q (by simpa using e)
      exact ⟨b', by simpa using e1, e2⟩
theorem kt_is {H : Hp} {h : Heap} {P : Program} {w : World} (ok : HOk P w H h) {l : List (List Key × V)} {m : List (List Key × Addr × Value)} (r : KT H l m) : ∀ x ∈ m, (tupleKind (mixKind P w)).is h x.1 x.2.1 := by
  induction r with
  | nil => intro x hx; exact nomatch hx
  | @cons p q ps qs hq t ih =>
    intro x hx
    rcases List.mem_cons.mp hx with e | hx
    · subst e
      exact key_of ok (by rw [← hq.1]; exact hq.2.1)
    · exact ih x hx
theorem call_dictPT (hcalm : X.calm = true) (hu : X.A.units + 64 < cLine) : CallR X (.type "dict") (fun xs H Q => ∃ (a : Addr) (ps : List Addr) (kvs : List (List Key × V)), xs = [.ref a] ∧ H a = some (.lst (ps.map V.ref)) ∧ PairsT H ps kvs ∧
    ∀ p, H p = none → Q (.ref p) (upd H p (.dT (mergeT [] kvs)))) := by
  intro pins s σ H xs us Q I r q
  obtain ⟨a, ps, kvs, ex, hq, hp, q⟩ := q
  subst ex
  obtain ⟨u, eu, rx⟩ := vals1 r
  subst eu
  cases rx
  obtain ⟨its, rv, pl, hz⟩ := I.list (SqL.of (K := X.K) hq)
  have ei := refs_at rv
  subst ei
  rw [List.length_map] at hz
  obtain ⟨prs, rel, hl, hpr⟩ := pairsT_of I hp
  obtain ⟨o, n, ho, hc, hd, hdat⟩ := pl
  have hm : (s.heap.objs.size == sysModules) = false := beq_eq_false_iff_ne.mpr (Nat.ne_of_gt I.big)
  have his := kt_is I.hok rel
  refine PySem.call_dict_pairsH (knd := tupleKind (mixKind X.prog X.w)) (ps := prs) (PairArg.list a (ps.map Value.ref).toArray (fun j => ps.getD j 0) (prs.map fun q => (Value.ref q.2.1, q.2.2))) (I.ok.hd hcalm) (by show X.A.units + 1 + 1 < cLine; omega)
    ⟨⟨o, n, ho, hc, hd, hdat⟩, ?_, fun j k v e => ?_⟩ ⟨?_, fun i key v e => ?_⟩ (fun h' hk x hx => ?_) ?_ fun h' tk hd' k => ?_
  · simp [hl]
  · rw [List.getElem?_map] at e
    cases e1 : prs[j]? with
    | none => rw [e1] at e; cases e
    | some q' =>
      rw [e1] at e
      cases e
      obtain ⟨b, e2, e3⟩ := hpr j q' e1
      have e4 : ps.getD j 0 = b := by rw [List.getD_eq_getElem?_getD, e2]; rfl
      refine ⟨?_, ?_⟩
      · show (List.map Value.ref ps).toArray[j]? = some (Value.ref (ps.getD j 0))
        rw [e4]
        simp [e2]
      show PairAt s.heap (ps.getD j 0) (Value.ref q'.snd.fst) q'.snd.snd
      rw [e4]
      obtain ⟨o3, h3, h4, n3, h5⟩ := e3
      exact .inl ⟨o3, h3, h4, n3, h5⟩
  · simp
  · have e' : (prs.map fun q => (Value.ref q.2.1, q.2.2))[i]? = some (key, v) := e
    rw [List.getElem?_map] at e'
    cases e1 : prs[i]? with
    | none => rw [e1] at e'; cases e'
    | some q' =>
      rw [e1] at e'
      cases e'
      exact ⟨q'.1, q'.2.1, rfl, rfl⟩
  · obtain ⟨o3, its3, n3, h1, h2, h3, h4⟩ := his x hx
    exact ⟨o3, its3, n3, hk _ _ (Nat.ne_of_lt (Heap.lt_size h1)) (by simp) h1, h2, h3, h4⟩
  · simpa [hl] using hz
  · have hlen : (mergeT [] kvs).length ≤ sizeLine := by
      refine Nat.le_trans (length_mergeT kvs []) ?_
      rw [List.length_nil, Nat.zero_add, Paired.length rel, hl]
      exact hz
    obtain ⟨q3, es, ep, hq3, h2, h3, h4, _, h5⟩ := hd'
    refine ⟨.ref s.heap.objs.size, upd H s.heap.objs.size (.dT (mergeT [] kvs)), I.laid (t' := tk) (fun b u e => k b u (by simp) e) (Nat.le_refl _) ⟨hlen, hm, storedAllH [] prs, ?_, q3, es, ep, hq3, h2, h3, h4, h5⟩, rfl, q _ (I.hok.fresh (Nat.le_refl _))⟩
    refine (kt_merge rel .nil).keeps fun c ys ec => ?_
    rw [upd_ne (ne_of_none ec (I.hok.fresh (Nat.le_refl _)))]
    exact ec
end
end PW
set_option Elab.async false
set_option linter.all false
set_option maxRecDepth 100000
set_option maxHeartbeats 4000000
namespace PW
open PySem PySem.Spec PyProof.Rows L2
/-! ### sorted of data: some arrangement of it -/
/-- an item and what it reads as -/
abbrev VD := V × PyData
def SortOk (ds : List PyData) : Prop := PySem.W.AllAlike ds ∧ PySem.W.Sortable ds ∧ ∀ d ∈ ds, d.depth ≤ 10
def rSortD : List V → Hp → VK → Prop := fun vs H Q => ∃ (a : Addr) (zs : List VD), vs = [V.ref a] ∧ H a = some (.lst (zs.map Prod.fst)) ∧ (∀ z ∈ zs, Is Any H z.1 z.2) ∧ SortOk (zs.map Prod.snd) ∧
  ∀ (zs' : List VD) (p : Addr), zs'.Perm zs → H p = none → Q (.ref p) (upd H p (.lst (zs'.map Prod.fst)))
section
variable {X : Cx} {pins : List (Addr × Obj)} {σ : L2.St} {H : Hp} {s : Shared}
theorem each_of (I : Inv X pins σ H s) : ∀ {zs : List VD} {us : List Value}, (∀ z ∈ zs, Is Any H z.1 z.2) → Vals (zs.map Prod.fst) us →
    PySem.W.EachIs (fun v b => RelV b.1 v) us zs ∧ PySem.W.EachIs (fun v b => ∃ as, Reads s.heap v (Prod.snd b) as) us zs
  | [], us, _, r => by
    rw [List.map_nil] at r
    cases r
    exact ⟨.nil, .nil⟩
  | z :: zs, us, h, r => by
    rw [List.map_cons] at r
    cases r with
    | cons r1 r2 =>
      obtain ⟨e1, e2⟩ := each_of I (fun z hz => h z (List.mem_cons_of_mem _ hz)) r2
      exact ⟨.cons r1 e1, .cons (Dp.reads I _ _ _ ((h z (List.mem_cons_self ..)).dp) r1) e2⟩
theorem vals_each : ∀ {us : List Value} {zs : List VD}, PySem.W.EachIs (fun v b => RelV b.1 v) us zs → Vals (zs.map Prod.fst) us
  | _, _, .nil => .nil
  | _, _, .cons h t => .cons h (vals_each t)
theorem cr_sortD (hu : X.A.units + 64 < cLine) : CallR X (.builtin "sorted") rSortD := by
  intro pins s σ H vs us Q I r h
  obtain ⟨a, zs, rfl, hs, hd, ⟨o1, o2, o3⟩, q⟩ := h
  obtain ⟨its, rv, hl, hz⟩ := I.list (SqL.of (K := X.K) hs)
  rw [Vals.ref1 r]
  obtain ⟨e1, e2⟩ := each_of I hd rv
  rw [List.length_map] at hz
  refine PySem.W.sorted_data (enc := Prod.snd) hl.isList e1 e2 o1 o2 hz (fun b hb => ?_) fun out h1 h2 => ?_
  · have := o3 b.2 (List.mem_map.mpr ⟨b, hb, rfl⟩)
    omega
  · obtain ⟨ep, he'⟩ := PyProof.Rows.sortedAll_at s.heap its out.toArray
    have hp : (zs.mergeSort (PySem.W.dataLe false Prod.snd)).Perm zs := List.mergeSort_perm _ _
    have hv := vals_each h2
    have hlen : ((zs.mergeSort (PySem.W.dataLe false Prod.snd)).map Prod.fst).length ≤ sizeLine := by rw [List.length_map, hp.length_eq]; exact hz
    exact ⟨.ref _, upd H (s.heap.objs.size + 1) (.lst _), I.laid (t' := s.toks) (fun _ _ => PyProof.Rows.sortedAll_old) (Nat.le_succ _) ⟨hlen, out, ep, hv, he'⟩, rfl, q _ _ hp (I.hok.fresh (Nat.le_succ _))⟩
/-- sorted(xs, reverse=True) -/
theorem cr_sortDR (hu : X.A.units + 64 < cLine) : CallRK X (.builtin "sorted") [Str.ofString "reverse"] (fun vs ks H Q => ks = [.bl true] ∧ rSortD vs H Q) := by
  intro pins s σ H vs ks us ws Q I r rk h
  obtain ⟨rfl, a, zs, rfl, hs, hd, ⟨o1, o2, o3⟩, q⟩ := h
  obtain ⟨its, rv, hl, hz⟩ := I.list (SqL.of (K := X.K) hs)
  rw [Vals.ref1 r]
  obtain ⟨w1, rfl, ew⟩ := vals1 rk
  obtain rfl : w1 = Value.bool true := ew
  obtain ⟨e1, e2⟩ := each_of I hd rv
  rw [List.length_map] at hz
  refine PySem.W.sorted_rev_data (b := true) (enc := Prod.snd) hl.isList e1 e2 o1 o2 hz (fun b hb => ?_) fun out h1 h2 => ?_
  · have := o3 b.2 (List.mem_map.mpr ⟨b, hb, rfl⟩)
    omega
  · obtain ⟨ep, he'⟩ := PyProof.Rows.sortedAll_at s.heap its out.toArray
    have hp : (zs.mergeSort (PySem.W.dataLe true Prod.snd)).Perm zs := List.mergeSort_perm _ _
    have hv := vals_each h2
    have hlen : ((zs.mergeSort (PySem.W.dataLe true Prod.snd)).map Prod.fst).length ≤ sizeLine := by rw [List.length_map, hp.length_eq]; exact hz
    exact ⟨.ref _, upd H (s.heap.objs.size + 1) (.lst _), I.laid (t' := s.toks) (fun _ _ => PyProof.Rows.sortedAll_old) (Nat.le_succ _) ⟨hlen, out, ep, hv, he'⟩, rfl, q _ _ hp (I.hok.fresh (Nat.le_succ _))⟩
/-- what is read does not change when other objects come -/
theorem reads_keeps {h h' : Heap} {v : Value} {d : PyData} {as : List Addr} (k : ∀ b o, h.get? b = some o → h'.get? b = some o) (r : Reads h v d as) : Reads h' v d as := PyProof.Rows.Reads.keeps k r
/-! ### sorted(d), the keys pairs of numbers -/
abbrev keyP (p : Nat × Nat) : List Key := [Sum.inl (p.1 : Int), Sum.inl (p.2 : Int)]
def rSortDT : List V → Hp → VK → Prop := fun vs H Q => ∃ (d : Addr) (kvs : List (List Key × V)) (ps : List (Nat × Nat)), vs = [V.ref d] ∧ H d = some (.dT kvs) ∧ kvs.map Prod.fst = ps.map keyP ∧
  ∀ (zs : List (Addr × (Nat × Nat))) (p : Addr), (zs.map Prod.snd).Perm ps → (∀ z ∈ zs, H z.1 = some (.tup [nv z.2.1, nv z.2.2])) → H p = none → Q (.ref p) (upd H p (.lst (zs.map fun z => V.ref z.1)))
theorem kt_zs {H : Hp} {kvs : List (List Key × V)} {xs : List (List Key × Addr × Value)} (r : KT H kvs xs) : ∀ {ps : List (Nat × Nat)}, kvs.map Prod.fst = ps.map keyP →
    ∃ zs : List (Addr × (Nat × Nat)), zs.map Prod.fst = xs.map (fun x => x.2.1) ∧ zs.map Prod.snd = ps ∧ ∀ z ∈ zs, H z.1 = some (.tup [nv z.2.1, nv z.2.2]) := by
  induction r with
  | nil =>
    intro ps e
    cases ps with
    | nil => exact ⟨[], rfl, rfl, fun z hz => nomatch hz⟩
    | cons p ps => simp at e
  | @cons q x qs xs h t ih =>
    intro ps e
    cases ps with
    | nil => simp at e
    | cons p ps =>
      rw [List.map_cons, List.map_cons] at e
      injection e with e1 e2
      obtain ⟨zs, h1, h2, h3⟩ := ih e2
      refine ⟨(x.2.1, p) :: zs, by rw [List.map_cons, List.map_cons, h1], by rw [List.map_cons, h2], fun z hz => ?_⟩
      rcases List.mem_cons.mp hz with e | hz
      · subst e
        have := h.2.1
        rw [e1] at this
        exact this
      · exact h3 z hz
theorem pairs_alike (zs : List (Addr × (Nat × Nat))) : PySem.W.AllAlike (zs.map fun z => pairD z.2) := PySem.W.AllAlike.of (enc := fun z : Addr × (Nat × Nat) => pairD z.2) fun b b' => rfl
theorem cr_sortDT (hcalm : X.calm = true) (hu : X.A.units + 64 < cLine) : CallR X (.builtin "sorted") rSortDT := by
  intro pins s σ H xs us Q I r h
  obtain ⟨d, kvs, ps, rfl, hd, hk, q⟩ := h
  obtain ⟨u, rfl, rx⟩ := vals1 r
  cases rx
  obtain ⟨z, hs, ks, pr, o, es, ep, ho, hx, hdt, he, hn⟩ := (show ObjOk X.prog X.w H s.heap d (.dT kvs) from I.hok d _ hd)
  have l1 : es.size = ks.length := size_of_entries he
  have l2 : kvs.length = ks.length := Paired.length pr
  obtain ⟨zs, z1, z2, z3⟩ := kt_zs pr hk
  have l3 : zs.length = ks.length := by
    have e := congrArg List.length z1
    rw [List.length_map, List.length_map] at e
    exact e
  refine Calls.call_function_entry PyProof.Rows.kind_sorted PyProof.Rows.plain_sorted PyProof.Rows.entry_sorted (PyProof.Rows.args_sorted1 _) ?_
  unfold Builtin.«sorted»
  refine wpAny_bind (m := checkCount "sorted" 1 1 _) (wpAny_pure ?_)
  refine wpAny_bind (PySem.W.kdu_collect (A := X.A.in1) (kdl_raw hs hx hdt) (I.ok.hd hcalm) ho (by omega) fun h' tk acc' kp it => ?_)
  have ea : acc'.toList = zs.map fun z => Value.ref z.1 := by
    have hl : acc'.toList.length = ks.length := by rw [Array.length_toList, it.1]; exact l1
    have e0 : (zs.map fun z => Value.ref z.1) = ks.map fun x => Value.ref x.2.1 := by
      have := congrArg (List.map Value.ref) z1
      rw [List.map_map, List.map_map] at this
      exact this
    rw [e0]
    apply List.ext_getElem?
    intro j
    rw [List.getElem?_map]
    cases hj : acc'.toList[j]? with
    | none =>
      have h1 := List.getElem?_eq_none_iff.mp hj
      rw [List.getElem?_eq_none (by omega)]
      all_goals rfl
    | some v =>
      obtain ⟨en, hen, hv⟩ := it.2 j v (by rw [← Array.getElem?_toList]; exact hj)
      have qe := entry_at he j
      rw [hen] at qe
      cases hb : ks[j]? with
      | none =>
        rw [hb] at qe
        exact nomatch (show some en = none from qe)
      | some b =>
        rw [hb] at qe
        have e2 : en = entryOfKey (tupleKind (mixKind X.prog X.w)) b := Option.some.inj qe
        rw [hv, e2]
        all_goals rfl
  have I1 : Inv X pins σ H { s with heap := h', toks := tk } := I.kept kp
  have hal : acc'.toList.length ≤ sizeLine := by rw [ea, List.length_map]; omega
  refine wpAny_bind (wpAny_newList ?_ hal)
  have hoL : (h'.push (seqObj "list" acc'.toList.toArray 0)).get? h'.objs.size = some (seqObj "list" acc'.toList.toArray 0) := Heap.get?_push_size _ rfl
  show wpAny _ _ _ _ _ { s with heap := h'.push (seqObj "list" acc'.toList.toArray 0), toks := tk }
  have e1 : PySem.W.EachIs (fun v b => v = Value.ref b.1) acc'.toList zs := by
    rw [ea]
    clear ea z1 z2 l3
    induction zs with
    | nil => exact .nil
    | cons z zs ih => exact .cons rfl (ih fun z hz => z3 z (List.mem_cons_of_mem _ hz))
  have rd : ∀ z ∈ zs, Reads (h'.push (seqObj "list" acc'.toList.toArray 0)) (.ref z.1) (pairD z.2) [] := fun z hz => by
    obtain ⟨_, its, rv, o3, h1, h2, n, h3⟩ := (show ObjOk X.prog X.w H h' z.1 (.tup [nv z.2.1, nv z.2.2]) from I1.hok _ _ (z3 z hz))
    obtain ⟨u1, u2, rfl, r1, r2⟩ := vals2 rv
    obtain ⟨t1, rfl⟩ := r1
    obtain ⟨t2, rfl⟩ := r2
    have := Reads.tuple (h := h'.push (seqObj "list" acc'.toList.toArray 0)) (xs := [natD z.2.1, natD z.2.2]) (as := []) (Heap.get?_push_of_some _ h1) h2 h3 (ReadsAll.cons (as := []) (bs := []) (Reads.int _ _) (ReadsAll.cons (as := []) (bs := []) (Reads.int _ _) .nil))
    exact this
  have e2 : PySem.W.EachIs (fun v b => ∃ as, Reads (h'.push (seqObj "list" acc'.toList.toArray 0)) v (pairD b.2) as ∧ h'.objs.size ∉ as) acc'.toList zs := by
    rw [ea] at rd ⊢
    generalize (h'.push (seqObj "list" (zs.map fun z => Value.ref z.1).toArray 0)) = h2 at rd
    clear ea z1 z2 l3 e1 hoL hal
    induction zs with
    | nil => exact .nil
    | cons z zs ih => exact .cons ⟨[], rd z (List.mem_cons_self ..), by simp⟩ (ih (fun z hz => z3 z (List.mem_cons_of_mem _ hz)) fun z hz => rd z (List.mem_cons_of_mem _ hz))
  have srt := PySem.W.list_sort_data (prog := X.prog) (w := X.w) (A := X.A.in1) (E := X.xe) (s := { s with heap := h'.push (seqObj "list" acc'.toList.toArray 0), toks := tk }) (enc := fun z : Addr × (Nat × Nat) => pairD z.2)
    (Q := fun v s' => ∃ out : List Value, PySem.W.EachIs (fun v b => v = Value.ref b.1) out (zs.mergeSort (PySem.W.dataLe false fun z : Addr × (Nat × Nat) => pairD z.2)) ∧ s' = { s with heap := sortedHeap (h'.push (seqObj "list" acc'.toList.toArray 0)) h'.objs.size acc'.toList out.toArray, toks := tk })
    hoL e1 e2 (pairs_alike zs) (PySem.W.Sortable.tuples fun b => ⟨_, _, rfl⟩) (by omega) (fun b _ => by
      have : (pairD b.2).depth = 1 := by simp [PyData.depth, PyData.depthAll]
      rw [this]
      show X.A.units + 1 + 1 + 1 < cLine
      omega) (fun out _ h2 => ⟨out, h2, rfl⟩)
  refine wpAny_bind (wpAny_holding (wpAny_mono srt (fun _ s' x => ?_) fun _ _ e => e))
  obtain ⟨out, h2, rfl⟩ := x
  obtain ⟨e', he'⟩ := PyProof.Rows.sortedHeap_at (vs := acc'.toList) (out := out.toArray) hoL
  have hp : (zs.mergeSort (PySem.W.dataLe false fun z : Addr × (Nat × Nat) => pairD z.2)).Perm zs := List.mergeSort_perm _ _
  generalize (zs.mergeSort (PySem.W.dataLe false fun z : Addr × (Nat × Nat) => pairD z.2)) = ws at h2 hp
  have hv : Vals (ws.map fun z => V.ref z.1) out := by
    clear he' hp
    induction h2 with
    | nil => exact .nil
    | cons h t ih => exact .cons h ih
  have hlen : (ws.map fun z => V.ref z.1).length ≤ sizeLine := by
    rw [List.length_map, hp.length_eq]
    omega
  refine wpAny_pure ⟨_, rfl, .ref h'.objs.size, upd H h'.objs.size (.lst (ws.map fun z => V.ref z.1)), I1.laid (t' := tk) (fun b u e => ?_) (Nat.le_refl _)
    (show ObjOk X.prog X.w _ _ _ (.lst (ws.map fun z => V.ref z.1)) from ⟨hlen, out, e', hv, he'⟩), rfl, q ws _ ?_ (fun z hz => z3 z (hp.mem_iff.mp hz)) (I1.hok.fresh (Nat.le_refl _))⟩
  · have hb : b < h'.objs.size := Heap.lt_size e
    rw [PyProof.Rows.sortedHeap_old (Nat.ne_of_lt hb) (by rw [size_push']; exact Nat.lt_succ_of_lt hb)]
    exact Heap.get?_push_of_some _ e
  · rw [← z2]
    exact hp.map _
end
end PW
set_option Elab.async false
set_option linter.all false
set_option maxRecDepth 100000
set_option maxHeartbeats 4000000
namespace PW
open PySem PySem.Spec PyProof.Rows L2
section
variable {X : Cx}
/-! ### d.values(), list of it -/
def valsO (p d : Addr) : HO := .ext fun h => h.IsValuesView p d
theorem valsO_ok {P : Program} {w : World} {H : Hp} {h : Heap} {p d : Addr} (e : h.get? p = some { cls := .type "dict_values", data := .fields #[.ref d] }) : ObjOk P w H h p (valsO p d) :=
  ⟨⟨_, e, rfl, rfl⟩, ⟨_, e⟩, fun h1 h2 x k => let ⟨o, ho, r⟩ := x; ⟨o, k o ho, r⟩⟩
def rValsK : V → List V → Hp → VK → Prop := fun x xs H Q => ∃ (a : Addr) (kvs : List (Key × V)), x = .ref a ∧ xs = [] ∧ H a = some (.dK kvs) ∧ ∀ p, H p = none → Q (.ref p) (upd H p (valsO p a))
theorem mt_valuesK : MtR X "dict.values" rValsK := by
  intro pins s σ H x xs v us Q I rx rxs h
  obtain ⟨a, kvs, rfl, rfl, ha, q⟩ := h
  cases rx
  cases rxs
  obtain ⟨z, hd, vs, rel, dd⟩ := dk_of I.hok ha
  refine call_meetsIn PySem.F.slot_dict_values dd.typeIs PySem.F.entry_dict_values (PySem.F.args_dict_values_1 _) (meets_dict_values (mixKind X.prog X.w) a hd) ⟨⟨vs, dd⟩, ?_⟩
  exact ⟨.ref s.heap.objs.size, upd H s.heap.objs.size (valsO s.heap.objs.size a), I.laid (t' := s.toks) (fun b u e => Heap.get?_push_of_some _ e) (Nat.le_refl _) (valsO_ok (Heap.get?_push_size _ rfl)), rfl, q _ (I.hok.fresh (Nat.le_refl _))⟩
theorem call_listV (hcalm : X.calm = true) : CallR X (.type "list") (fun xs H Q => ∃ (p a : Addr) (kvs : List (Key × V)), xs = [.ref p] ∧ H p = some (valsO p a) ∧ H a = some (.dK kvs) ∧ ∀ q, H q = none → Q (.ref q) (upd H q (.lst (kvs.map Prod.snd)))) := by
  intro pins s σ H xs us Q I r q
  obtain ⟨p, a, kvs, ex, hp, hd, q⟩ := q
  subst ex
  obtain ⟨u, eu, rx⟩ := vals1 r
  subst eu
  cases rx
  obtain ⟨hv, _, _⟩ := (show ObjOk X.prog X.w H s.heap p (valsO p a) from I.hok p _ hp)
  obtain ⟨z, lo, vs, rel, dd⟩ := dk_of I.hok hd
  obtain ⟨ep, hat⟩ := dd.dictAt
  refine PySem.W.kdl_call (PySem.W.kdl_values (knd := mixKind X.prog X.w) (kvs := vs) (ep := ep)) (I.ok.hd hcalm) ⟨hv, hat⟩ (by rw [← rel.length]; exact z) fun h' tk acc c' hk hD hacc => ?_
  have ea : acc.toList = vs.map (·.2) := PySem.W.kdl_vals_eq acc.toList (by rw [Array.length_toList]; exact hacc.1) fun j v e => hacc.2 j v (by rw [← Array.getElem?_toList]; exact e)
  have hV : Vals (kvs.map Prod.snd) acc.toList := by
    rw [ea]
    clear ea hacc hD q hd dd hat z
    unfold KV at rel
    induction rel with
    | nil => exact .nil
    | cons h t ih => exact .cons h.2 ih
  exact ⟨.ref s.heap.objs.size, upd H s.heap.objs.size (.lst (kvs.map Prod.snd)), I.laid (t' := tk) hk (Nat.le_refl _)
    (show ObjOk X.prog X.w _ _ _ (.lst (kvs.map Prod.snd)) from ⟨by rw [List.length_map]; exact z, acc.toList, c', hV, by rw [Array.toArray_toList]; exact hD⟩), rfl, q _ (I.hok.fresh (Nat.le_refl _))⟩
/-! ### d.update(e) -/
def rUpdK : V → List V → Hp → VK → Prop := fun x xs H Q => ∃ (a b : Addr) (kvs more : List (Key × V)), x = .ref a ∧ xs = [.ref b] ∧ H a = some (.dK kvs) ∧ H b = some (.dK more) ∧ a ≠ b ∧ kvs.length + more.length ≤ sizeLine ∧ Q .non (upd H a (.dK (mergeK kvs more)))
theorem mt_updateK : MtR X "dict.update" rUpdK := by
  intro pins s σ H x xs v us Q I rx rxs h
  obtain ⟨a, b, kvs, more, rfl, rfl, ha, hb, ne, hz, q⟩ := h
  cases rx
  obtain ⟨u, rfl, ru⟩ := vals1 rxs
  cases ru
  obtain ⟨z, hd, vs, rel, dd⟩ := dk_of I.hok ha
  obtain ⟨z2, hd2, vs2, rel2, dd2⟩ := dk_of I.hok hb
  refine call_meetsIn PySem.F.slot_dict_update dd.typeIs PySem.F.entry_dict_update (PySem.F.args_dict_update_2 _ _) (meets_dict_update (mixKind X.prog X.w) a b ne hd2)
    ⟨vs, vs2, dd, dd2, by rw [← rel.length, ← rel2.length]; exact hz, fun h' d1 _ hs => ⟨.non, _, d_write (t' := s.toks) I (by rw [ha]; exact True.intro) hs (let ⟨q, _, _, hq, _⟩ := d1; ⟨q, hq⟩) (dk_new (Nat.le_trans (length_mergeK more kvs) hz) hd (KV.merge rel2 rel) d1), rfl, q⟩⟩
/-! ### xs[i] as a value, for xs[i] += e -/
def rGetL : V → V → Hp → VK → Prop := fun o i H Q => ∃ (p : Addr) (xs : List V) (j : Nat) (v : V), o = .ref p ∧ i = nv j ∧ H p = some (.lst xs) ∧ xs[j]? = some v ∧ Q v H
theorem get_list : PGet X rGetL := by
  intro pins s σ H o i ov iv Q I ro ri h
  obtain ⟨p, xs, j, v, rfl, rfl, hp, hj, q⟩ := h
  cases ro
  obtain ⟨t, rfl⟩ := ri
  obtain ⟨its, r, pl, hz⟩ := I.list (SqL.of (K := X.K) hp)
  obtain ⟨w, ew, rw'⟩ := r.get hj
  have hl := r.length
  have hlt := (List.getElem?_eq_some_iff.mp hj).1
  have hn := line63
  refine wpAny_getItem_list (x := w) pl.isList (by omega) (by omega) ?_ ⟨v, H, I, rw', q⟩
  simpa using ew
end
end PW
set_option Elab.async false
set_option linter.all false
set_option maxRecDepth 100000
set_option maxHeartbeats 4000000
namespace PW
open PySem PySem.Spec PyProof.Rows L2
/-! ### enumerate(t), t a tuple -/
theorem meets_enumerate_newB1 {v : Value} {o : Obj} {H : Heap → Prop} (B : Begins v o H) :
    Meets (Builtin.«enumerate.__new__» ⟨[.type "enumerate", v], []⟩) (fun _ R s => H s.heap ∧
      R (.ok (.ret (.ref (s.heap.push o).objs.size))) { s with heap := (s.heap.push o).push { cls := .type "enumerate", data := .fields #[.none, .bool false, .ref s.heap.objs.size, rawInt 0, .none, .none] } }) :=
  .of_wp fun prog w A R s h => by
    obtain ⟨hp, g, d, tk, os⟩ := s; obtain ⟨h1, h⟩ := h
    have hsub := sub_enumerate
    have q1 : ∀ {A' : Around} {E : Value → Shared → Prop} {Q : Value → Shared → Prop}, Q (.ref hp.objs.size) ⟨hp.push o, g, d, tk, os⟩ → wpAny (model prog w) A' (pyIter v) Q E ⟨hp, g, d, tk, os⟩ :=
      fun q => B.iter prog w _ _ ⟨hp, g, d, tk, os⟩ _ h1 q
    wp_walk using q1
    refine wpAny_stack_any fun st => wpAny_pure ?_
    split
    · rename_i c _ _ _ _ _
      cases (c == Value.type "enumerate")
      · wp_walk using q1
        exact ⟨_, rfl, h⟩
      · wp_walk using q1
        exact ⟨_, rfl, h⟩
    · wp_walk using q1
      exact ⟨_, rfl, h⟩
section
variable {prog : Program} {w : World} {A : Around} {E : Value → Shared → Prop} {s : Shared}
theorem enum_begins1 {v : Value} {o : Obj} {H : Heap → Prop} {Q : Value → Shared → Prop} (B : Begins v o H) (h1 : H s.heap)
    (h : ∀ h', IsEnum h' (s.heap.objs.size + 1) s.heap.objs.size 0 .none → h'.get? s.heap.objs.size = some o → h'.objs.size = s.heap.objs.size + 2 →
      (∀ b o, s.heap.get? b = some o → h'.get? b = some o) → Q (.ref (s.heap.objs.size + 1)) { s with heap := h' }) :
    wpAny (model prog w) A (call (.type "enumerate") [v]) Q E s := by
  refine callType_new F.called_enumerate (by decide) (F.typeCall_enumerate_1 _) (F.newCall_enumerate_1 _) (fun obj => F.args_object_init_2 obj _) F.entry_enumerate_new
    (meets_enumerate_newB1 B) ⟨h1, ?_⟩
  have hz : (s.heap.push o).objs.size = s.heap.objs.size + 1 := Heap.size_push ..
  show _ ∧ _
  rw [hz]
  have he : IsEnum ((s.heap.push o).push { cls := .type "enumerate", data := .fields #[.none, .bool false, .ref s.heap.objs.size, rawInt 0, .none, .none] }) (s.heap.objs.size + 1) s.heap.objs.size 0 .none := by
    have := Heap.get?_push_size (s.heap.push o) (o := { cls := .type "enumerate", data := .fields #[.none, .bool false, .ref s.heap.objs.size, rawInt 0, .none, .none] }) rfl
    rw [hz] at this; exact this
  exact ⟨⟨_, he, rfl⟩, h _ he (Heap.get?_push_of_some _ (Heap.get?_push_size _ B.free)) (by rw [Heap.size_push, hz]) fun b o x => Heap.get?_push_of_some _ (Heap.get?_push_of_some _ x)⟩
end
/-- the tuple at a, each item in a new pair -/
def IteT (K : PySem.W.Frag) (a : Addr) : It :=
  ⟨fun i H => ∃ (xs : List V) (x : V), SqT K H a xs ∧ xs[i]? = some x, fun i H v H' => ∃ T x, v = .ref T ∧ H T = none ∧ H' = upd H T (.tup [.int (i : Nat), x]) ∧ ∀ xs, SqT K H a xs → xs[i]? = some x, fun i H => ∃ xs : List V, SqT K H a xs ∧ xs.length = i⟩
theorem turn_enumT {P : Program} {w : World} {K : PySem.W.Frag} {elts : List Expr} {kk : Nat} {tpos : Pos} (a e it : Addr) :
    Turn P w K (.Tuple elts kk tpos) (IteT K a) [e, it] e (fun i h => (∃ old, IsEnum h e it ((i : Nat) : Int) old) ∧ h.IsTupleIter it a i ∧ e ≠ it) where
  mem := by simp
  obj := fun i h st b hb => by
    obtain ⟨⟨old, he⟩, ⟨o, ho, hc, hd⟩, _⟩ := st
    have e' : b = e ∨ b = it := by simpa using hb
    rcases e' with z | z
    · rw [z]; exact ⟨_, he, fun v q => nomatch q⟩
    · rw [z]; exact ⟨o, ho, fun v q => by rw [hd] at q; cases q⟩
  keep := fun i h h' st k => let ⟨⟨old, he⟩, hi, hne⟩ := st; ⟨⟨old, k e (by simp) _ he⟩, hi.at fun o q => k it (by simp) o q, hne⟩
  item := by
    intro X hP hw hK hc i pins s σ H E I hf st hg
    subst hP hw hK
    obtain ⟨⟨old, he⟩, hit, hne⟩ := st
    obtain ⟨xs, x, hq, hx⟩ := hg
    obtain ⟨its, rv, p, hz⟩ := I.tuple hq
    obtain ⟨u, hu, ru⟩ := rv.get hx
    have hel : e < s.heap.objs.size := Heap.lt_size he
    have hil : it < s.heap.objs.size := by obtain ⟨_, q, _⟩ := hit; exact Heap.lt_size q
    have hai : a ≠ it := fun z => by
      obtain ⟨o1, q1, q2, _⟩ := p
      obtain ⟨o2, q3, q4, _⟩ := hit
      rw [z, q3] at q1
      cases q1
      rw [q4] at q2
      exact absurd (Value.type.inj q2) (by decide)
    have hae : e ≠ a := fun z => by
      obtain ⟨o1, q1, q2, _⟩ := p
      rw [← z, he] at q1
      cases q1
      exact absurd (Value.type.inj q2) (by decide)
    have hlt : i < its.toArray.size := by
      have := (List.getElem?_eq_some_iff.mp hu).1
      simpa using this
    refine wpAny_pyNext_enum_itemD (Draws.tuple (prog := X.prog) (w := X.w) (A := X.A.in1) (show X.A.in1.handled = Option.none from I.ok.hd hc) it a hai its.toArray) he ⟨hit, p⟩ hlt hne (by simp [hne, hae]) fun x' h' tk hx' ho hst' hT hsz hk => ?_
    have ex : x' = u := by
      have e1 : its.toArray[i]? = some u := by simpa using hu
      rw [hx'] at e1
      exact Option.some.inj e1
    subst ex
    refine ⟨_, rfl, wpAny_letOwnedTupleGo_enum (s := { s with heap := h', toks := tk + 1 }) ho fun h'' he' sb => ?_⟩
    have hT2 : h''.get? s.heap.objs.size = some { cls := .type "tuple", data := .seq #[.int i tk, x'] } := (sb.2 _ (Nat.ne_of_gt hel)).trans hT
    have new : ObjOk X.prog X.w (upd H s.heap.objs.size (.tup [.int (i : Nat), x])) h'' s.heap.objs.size (.tup [.int (i : Nat), x]) :=
      ⟨by show 2 ≤ sizeLine; decide, [.int i tk, x'], .cons ⟨_, rfl⟩ (.cons ru .nil), ⟨_, hT2, rfl, _, rfl⟩⟩
    have I1 : Inv X pins σ (upd H s.heap.objs.size (.tup [.int (i : Nat), x])) { s with heap := h'', toks := tk + 1 } :=
      I.turnedNew (ch := [e, it]) (fun b ob hb q => (sb.2 b (fun z => hb (by simp [z]))).trans (hk b ob (fun z => hb (by simp [z])) (fun z => hb (by simp [z])) q)) hf (Nat.le_refl _) new
    refine ⟨.ref s.heap.objs.size, _, I1, rfl, ⟨_, x, rfl, I.hok.fresh (Nat.le_refl _), rfl, fun ys hy => by rw [I.tuple_inj hy hq]; exact hx⟩, ⟨⟨x', ?_⟩, hst'.1.at fun o q => (sb.2 it (Ne.symm hne)).trans q, hne⟩, fun b hb => ?_⟩
    · have e1 : ((i + 1 : Nat) : Int) = (i : Int) + 1 := by omega
      rw [e1]; exact he'
    · have hb' : b < s.heap.objs.size := by
        have e' : b = e ∨ b = it := by simpa using hb
        rcases e' with z | z
        · rw [z]; exact hel
        · rw [z]; exact hil
      rw [upd_ne (Nat.ne_of_lt hb')]
      exact (hf b hb).1
  done := by
    intro X hP hw hK hc i pins s σ H E I hf st hg
    subst hP hw hK
    obtain ⟨⟨old, he⟩, hit, hne⟩ := st
    obtain ⟨xs, hq, hx⟩ := hg
    obtain ⟨its, rv, p, hz⟩ := I.tuple hq
    obtain ⟨f0, f1, f2, f3, f4, f5⟩ := hf it (by simp)
    have hl := rv.length
    have hai : a ≠ it := fun z => by
      obtain ⟨o1, q1, q2, _⟩ := p
      obtain ⟨o2, q3, q4, _⟩ := hit
      rw [z, q3] at q1
      cases q1
      rw [q4] at q2
      exact absurd (Value.type.inj q2) (by decide)
    have e1 : its.toArray.size = i := by simp; omega
    exact wpAny_pyNext_enum_endD (Draws.tuple (prog := X.prog) (w := X.w) (A := X.A.in1) (show X.A.in1.handled = Option.none from I.ok.hd hc) it a hai its.toArray) he ⟨by rw [e1]; exact hit, p⟩ fun h' eb => ⟨rfl, I.turned (t' := s.toks) (fun b o hb q => eb b o hb q) f0 f1 f3 f4 f5⟩
  self := fun A i s Q E st h => let ⟨⟨_, he⟩, _⟩ := st; wpAny_pyIter_enum he h
def iEnumT (K : PySem.W.Frag) (ta : TA) : TI := fun σ H R => ta σ H fun vs H1 => ∃ a xs, vs = [.ref a] ∧ SqT K H1 a xs ∧ R (IteT K a) H1
theorem pi_enumT {X : Cx} {e : Expr} {ta : TA} {p pos tpos : Pos} {elts : List Expr} {kk : Nat} (hg : Gl X "enumerate") (hm : X.mg "enumerate" = none) (ha : PA X [e] ta) (hs : starEach [e] X.env = [(false, eval e X.env)] := by rfl) :
    PI X (.Tuple elts kk tpos) (.Call (.Name "enumerate" p) [e] [] pos) (iEnumT X.K ta) := by
  refine ⟨fun pins s σ H R I h => ?_⟩
  refine Call_ (ld_blt I hg hm boot_enumerate (PyProof.Rows.callWith_type1 (thn (ha.run pos pins s σ H _ I h) fun us s1 ⟨vs, H1, I1, r1, q1⟩ => ?_) hs rfl))
  obtain ⟨a, xs, ex, hq, q⟩ := q1
  subst ex
  cases r1 with
  | cons r rr =>
    cases rr
    cases r
    obtain ⟨its, rv, p', hz⟩ := I1.tuple hq
    refine enum_begins1 (begins_tuple a its.toArray) p' fun h' he hit hsz hk => wpAny_pyIter_enum he ?_
    have I2 : Inv X pins σ H1 { s1 with heap := h' } := I1.kept (t' := s1.toks) hk
    refine ⟨s1.heap.objs.size + 1, [s1.heap.objs.size + 1, s1.heap.objs.size], _, _, H1, rfl, I2, turn_enumT a (s1.heap.objs.size + 1) s1.heap.objs.size, ⟨⟨.none, he⟩, ⟨_, hit, rfl, rfl⟩, Nat.succ_ne_self _⟩, fun b hb => ?_, q⟩
    have e' : b = s1.heap.objs.size + 1 ∨ b = s1.heap.objs.size := by simpa using hb
    have hle : s1.heap.objs.size ≤ b := by
      rcases e' with z | z
      · rw [z]; exact Nat.le_add_right _ _
      · rw [z]; exact Nat.le_refl _
    exact I1.fpOk hle (I1.hok.fresh hle)
end PW
set_option Elab.async false
set_option linter.all false
set_option maxRecDepth 100000
set_option maxHeartbeats 4000000
namespace PW
open PySem PySem.Spec PyProof.Rows L2
/-! ### zip of a list and a tuple, in any mix (b: it is a list) -/
def SqB (b : Bool) (K : PySem.W.Frag) (H : Hp) (a : Addr) (xs : List V) : Prop := if b = true then SqL K H a xs else SqT K H a xs
def ItB (b : Bool) (h : Heap) (it a : Addr) (i : Nat) : Prop := if b = true then h.IsListIter it a i else h.IsTupleIter it a i
def SeB (b : Bool) (h : Heap) (a : Addr) (items : Array Value) : Prop := if b = true then h.IsList a items else h.IsTuple a items
def objB (b : Bool) (a : Addr) : Obj := if b = true then { cls := .type "list_iterator", data := .fields #[.ref a, .int 0 0] } else { cls := .type "tuple_iterator", data := .fields #[.ref a, .int 0 0] }
theorem begins_B (b : Bool) (a : Addr) (items : Array Value) : Begins (.ref a) (objB b a) fun h => SeB b h a items := by
  cases b with
  | true => exact begins_list a items
  | false => exact begins_tuple a items
theorem itB_of {b : Bool} {h : Heap} {it a : Addr} (e : h.get? it = some (objB b a)) : ItB b h it a 0 := by
  cases b with
  | true => exact ⟨_, e, rfl, rfl⟩
  | false => exact ⟨_, e, rfl, rfl⟩
theorem draws_B (b : Bool) {prog : Program} {w : World} {A : Around} (hh : A.handled = none) (it a : Addr) (hne : a ≠ it) (items : Array Value) :
    Draws prog w A it [it, a] items.size (fun i v => items[i]? = some v) (fun i h => ItB b h it a i ∧ SeB b h a items) := by
  cases b with
  | true => exact Draws.list hh it a hne items
  | false => exact Draws.tuple hh it a hne items
theorem seqB {b : Bool} {X : Cx} {pins : List (Addr × Obj)} {σ : L2.St} {H : Hp} {s : Shared} {a : Addr} {xs : List V} (I : Inv X pins σ H s) (h : SqB b X.K H a xs) : ∃ its : List Value, Vals xs its ∧ SeB b s.heap a its.toArray := by
  cases b with
  | true => obtain ⟨its, r, p, _⟩ := I.list h; exact ⟨its, r, p.isList⟩
  | false => obtain ⟨its, r, p, _⟩ := I.tuple h; exact ⟨its, r, p⟩
theorem seqB_inj {b : Bool} {X : Cx} {pins : List (Addr × Obj)} {σ : L2.St} {H : Hp} {s : Shared} {a : Addr} {xs ys : List V} (I : Inv X pins σ H s) (h : SqB b X.K H a xs) (h' : SqB b X.K H a ys) : xs = ys := by
  cases b with
  | true => exact I.list_inj h h'
  | false => exact I.tuple_inj h h'
theorem itB_obj {b : Bool} {h : Heap} {it a : Addr} {i : Nat} (x : ItB b h it a i) : ∃ o, h.get? it = some o ∧ (∀ v, o.data ≠ .cell v) ∧ (o.cls = .type "list_iterator" ∨ o.cls = .type "tuple_iterator") := by
  cases b with
  | true => obtain ⟨o, e, c, d⟩ := x; exact ⟨o, e, fun v q => (by rw [d] at q; cases q), .inl c⟩
  | false => obtain ⟨o, e, c, d⟩ := x; exact ⟨o, e, fun v q => (by rw [d] at q; cases q), .inr c⟩
theorem itB_at {b : Bool} {h h' : Heap} {it a : Addr} {i : Nat} (x : ItB b h it a i) (k : ∀ o, h.get? it = some o → h'.get? it = some o) : ItB b h' it a i := by
  cases b with
  | true => obtain ⟨o, e, c, d⟩ := x; exact ⟨o, k o e, c, d⟩
  | false => obtain ⟨o, e, c, d⟩ := x; exact ⟨o, k o e, c, d⟩
theorem seB_obj {b : Bool} {h : Heap} {a : Addr} {items : Array Value} (x : SeB b h a items) : ∃ o, h.get? a = some o ∧ (o.cls = .type "list" ∨ o.cls = .type "tuple") := by
  cases b with
  | true => obtain ⟨o, e, c, _⟩ := x; exact ⟨o, e, .inl c⟩
  | false => obtain ⟨o, e, c, _⟩ := x; exact ⟨o, e, .inr c⟩
theorem cls_ne {c1 c2 : String} {o1 o2 : Obj} {h : Heap} {a b : Addr} (e1 : h.get? a = some o1) (e2 : h.get? b = some o2) (d1 : o1.cls = .type c1) (d2 : o2.cls = .type c2) (ne : c1 ≠ c2) : a ≠ b := fun z => by
  rw [z, e2] at e1
  cases e1
  rw [d2] at d1
  exact ne (Value.type.inj d1).symm
theorem seB_ne_it {b b' : Bool} {h : Heap} {a it a' : Addr} {items : Array Value} {i : Nat} (x : SeB b h a items) (y : ItB b' h it a' i) : a ≠ it := by
  obtain ⟨o1, e1, c1⟩ := seB_obj x
  obtain ⟨o2, e2, _, c2⟩ := itB_obj y
  rcases c1 with c1 | c1 <;> rcases c2 with c2 | c2 <;> exact cls_ne e1 e2 c1 c2 (by decide)
/-- the sequences at a and b as they stand at each turn, the items in new pairs -/
def Itx (ka kb : Bool) (K : PySem.W.Frag) (a b : Addr) : It :=
  ⟨fun i H => ∃ (xs ys : List V) (x y : V), SqB ka K H a xs ∧ SqB kb K H b ys ∧ xs[i]? = some x ∧ ys[i]? = some y,
    fun i H v H' => ∃ T x y, v = .ref T ∧ H T = none ∧ H' = upd H T (.tup [x, y]) ∧ (∀ xs, SqB ka K H a xs → xs[i]? = some x) ∧ ∀ ys, SqB kb K H b ys → ys[i]? = some y,
    fun i H => ∃ xs ys : List V, SqB ka K H a xs ∧ SqB kb K H b ys ∧ xs.length = i ∧ ys.length = i⟩
theorem turn_zipx {ka kb : Bool} {P : Program} {w : World} {K : PySem.W.Frag} {elts : List Expr} {kk : Nat} {tpos : Pos} {a b z TI TO i1 i2 : Addr} (D : ZipSep2 z TI TO i1 i2 [i1, a] [i2, b]) :
    Turn P w K (.Tuple elts kk tpos) (Itx ka kb K a b) [z, TI, TO, i1, i2] z (fun i h => IsZip h z TI TO .none ∧ IsTupOf2 h TI (.ref i1) (.ref i2) ∧ (∃ x y, IsTupOf2 h TO x y) ∧ ItB ka h i1 a i ∧ ItB kb h i2 b i) where
  mem := by simp
  obj := fun i h st c hc => by
    obtain ⟨hz, hTI, ⟨x, y, hTO⟩, h1, h2⟩ := st
    obtain ⟨o1, e1, d1, _⟩ := itB_obj h1
    obtain ⟨o2, e2, d2, _⟩ := itB_obj h2
    have e' : c = z ∨ c = TI ∨ c = TO ∨ c = i1 ∨ c = i2 := by simpa using hc
    rcases e' with q | q | q | q | q
    · rw [q]; exact ⟨_, hz, fun v q => nomatch q⟩
    · rw [q]; exact ⟨_, hTI, fun v q => nomatch q⟩
    · rw [q]; exact ⟨_, hTO, fun v q => nomatch q⟩
    · rw [q]; exact ⟨o1, e1, d1⟩
    · rw [q]; exact ⟨o2, e2, d2⟩
  keep := fun i h h' st k => by
    obtain ⟨hz, hTI, ⟨x, y, hTO⟩, h1, h2⟩ := st
    exact ⟨k z (by simp) _ hz, k TI (by simp) _ hTI, ⟨x, y, k TO (by simp) _ hTO⟩, itB_at h1 fun o q => k i1 (by simp) o q, itB_at h2 fun o q => k i2 (by simp) o q⟩
  item := by
    intro X hP hw hK hc i pins s σ H E I hf st hg
    subst hP hw hK
    obtain ⟨hz, hTI, ⟨x0, y0, hTO⟩, h1, h2⟩ := st
    obtain ⟨xs, ys, x, y, hqx, hqy, hx, hy⟩ := hg
    obtain ⟨its, rv, p⟩ := seqB I hqx
    obtain ⟨its2, rv2, p2⟩ := seqB I hqy
    obtain ⟨u, hu, ru⟩ := rv.get hx
    obtain ⟨u2, hu2, ru2⟩ := rv2.get hy
    have hzl : z < s.heap.objs.size := Heap.lt_size hz
    have hh : X.A.in1.handled = Option.none := I.ok.hd hc
    have l1 : i < its.toArray.size := by have := (List.getElem?_eq_some_iff.mp hu).1; simpa using this
    have l2 : i < its2.toArray.size := by have := (List.getElem?_eq_some_iff.mp hu2).1; simpa using this
    refine wpAny_pyNext_zipD2_item D (draws_B ka (prog := X.prog) (w := X.w) (A := X.A.in1) hh i1 a (seB_ne_it p h1) its.toArray) (draws_B kb (prog := X.prog) (w := X.w) (A := X.A.in1) hh i2 b (seB_ne_it p2 h2) its2.toArray)
      hz hTI hTO ⟨h1, p⟩ ⟨h2, p2⟩ l1 l2 fun x1 x2 h' tk hx1 hx2 z' TO' st1' st2' hT hsz hk => ?_
    have ex1 : x1 = u := by
      have e1 : its.toArray[i]? = some u := by simpa using hu
      rw [hx1] at e1
      exact Option.some.inj e1
    have ex2 : x2 = u2 := by
      have e1 : its2.toArray[i]? = some u2 := by simpa using hu2
      rw [hx2] at e1
      exact Option.some.inj e1
    subst ex1 ex2
    refine ⟨_, rfl, wpAny_letOwnedTupleGo_zip (s := { s with heap := h', toks := tk }) z' fun h'' z'' sb => ?_⟩
    have hT2 : h''.get? s.heap.objs.size = some { cls := .type "tuple", data := .seq #[x1, x2] } := (sb.2 _ (Nat.ne_of_gt hzl)).trans hT
    have new : ObjOk X.prog X.w (upd H s.heap.objs.size (.tup [x, y])) h'' s.heap.objs.size (.tup [x, y]) :=
      ⟨by show 2 ≤ sizeLine; decide, [x1, x2], .cons ru (.cons ru2 .nil), ⟨_, hT2, rfl, _, rfl⟩⟩
    have I1 : Inv X pins σ (upd H s.heap.objs.size (.tup [x, y])) { s with heap := h'', toks := tk } :=
      I.turnedNew (t' := tk) (ch := [z, TI, TO, i1, i2]) (fun c o hb q => (sb.2 c (fun q' => hb (by simp [q']))).trans (hk c o (fun q' => hb (by simp [q'])) (fun q' => hb (by simp [q'])) (fun q' => hb (by simp [q'])) (fun q' => hb (by simp [q'])) q)) hf (Nat.le_refl _) new
    have TOz := D.TOz
    have TIz := D.TIz
    have z1 := D.zi1
    have z2 := D.zi2
    refine ⟨.ref s.heap.objs.size, _, I1, rfl, ⟨_, x, y, rfl, I.hok.fresh (Nat.le_refl _), rfl, fun l hl => by rw [seqB_inj I hl hqx]; exact hx, fun l hl => by rw [seqB_inj I hl hqy]; exact hy⟩, ⟨z'', ?_, ⟨x1, x2, ?_⟩, ?_, ?_⟩, fun c hcm => ?_⟩
    · exact (sb.2 _ TIz).trans (hk _ _ TIz D.TITO D.TIi1 D.TIi2 hTI)
    · exact (sb.2 _ TOz).trans TO'
    · exact itB_at st1'.1 fun o q => (sb.2 _ (Ne.symm z1)).trans q
    · exact itB_at st2'.1 fun o q => (sb.2 _ (Ne.symm z2)).trans q
    · have hlt : c < s.heap.objs.size := by
        have e' : c = z ∨ c = TI ∨ c = TO ∨ c = i1 ∨ c = i2 := by simpa using hcm
        rcases e' with q | q | q | q | q
        · rw [q]; exact hzl
        · rw [q]; exact Heap.lt_size hTI
        · rw [q]; exact Heap.lt_size hTO
        · rw [q]; obtain ⟨_, e1, _⟩ := itB_obj h1; exact Heap.lt_size e1
        · rw [q]; obtain ⟨_, e2, _⟩ := itB_obj h2; exact Heap.lt_size e2
      rw [upd_ne (Nat.ne_of_lt hlt)]
      exact (hf c hcm).1
  done := by
    intro X hP hw hK hc i pins s σ H E I hf st hg
    subst hP hw hK
    obtain ⟨hz, hTI, ⟨x0, y0, hTO⟩, h1, h2⟩ := st
    obtain ⟨xs, ys, hqx, hqy, e1, e2⟩ := hg
    obtain ⟨its, rv, p⟩ := seqB I hqx
    obtain ⟨its2, rv2, p2⟩ := seqB I hqy
    have l1 := rv.length
    have l2 := rv2.length
    have hh : X.A.in1.handled = Option.none := I.ok.hd hc
    have m1 : its.toArray.size = i := by simp; omega
    have m2 : its2.toArray.size = i := by simp; omega
    exact wpAny_pyNext_zipD2_end D (draws_B ka (prog := X.prog) (w := X.w) (A := X.A.in1) hh i1 a (seB_ne_it p h1) its.toArray) (draws_B kb (prog := X.prog) (w := X.w) (A := X.A.in1) hh i2 b (seB_ne_it p2 h2) its2.toArray)
      hz hTI hTO ⟨h1, p⟩ ⟨h2, p2⟩ (Nat.le_of_eq m1.symm) (Nat.le_of_eq m2.symm) (.inl m1.symm) fun h' tk hk => ⟨rfl, I.turnedL (t' := tk) (ch := [z, TI, TO, i1, i2]) (fun c o hb q =>
      hk c o (fun q' => hb (by simp [q'])) (fun q' => hb (by simp [q'])) (fun q' => hb (by simp [q'])) (fun q' => hb (by simp [q'])) q) hf⟩
  self := fun A i s Q E st h => wpAny_pyIter_zip st.1 h
def iZipx (ka kb : Bool) (K : PySem.W.Frag) (ta : TA) : TI := fun σ H R => ta σ H fun vs H1 => ∃ a b xs ys, vs = [.ref a, .ref b] ∧ SqB ka K H1 a xs ∧ SqB kb K H1 b ys ∧ R (Itx ka kb K a b) H1
theorem pi_zipx (ka kb : Bool) {X : Cx} {e e2 : Expr} {ta : TA} {p pos tpos : Pos} {elts : List Expr} {kk : Nat} (hg : Gl X "zip") (hm : X.mg "zip" = none) (ha : PA X [e, e2] ta)
    (hs : starEach [e, e2] X.env = (false, eval e X.env) :: starEach [e2] X.env := by rfl) (hpl : (backTo pos (starEach [e2] X.env)).any (·.1) = false := by rfl) :
    PI X (.Tuple elts kk tpos) (.Call (.Name "zip" p) [e, e2] [] pos) (iZipx ka kb X.K ta) := by
  refine ⟨fun pins s σ H R I h => ?_⟩
  refine Call_ (ld_blt I hg hm PyProof.Rows.boot_zip (PyProof.Rows.callWith_type1 (thn (ha.run pos pins s σ H _ I h) fun us s1 ⟨vs, H1, I1, r1, q1⟩ => ?_) hs hpl))
  obtain ⟨a, b, xs, ys, ex, hqx, hqy, q⟩ := q1
  subst ex
  cases r1 with
  | cons r rr =>
    cases rr with
    | cons r' rr =>
      cases rr
      cases r
      cases r'
      obtain ⟨its, rv, p1⟩ := seqB I1 hqx
      obtain ⟨its2, rv2, p2⟩ := seqB I1 hqy
      have la : a < s1.heap.objs.size := by obtain ⟨o, e, _⟩ := seB_obj p1; exact Heap.lt_size e
      have lb : b < s1.heap.objs.size := by obtain ⟨o, e, _⟩ := seB_obj p2; exact Heap.lt_size e
      refine zip_begins2 (begins_B ka a its.toArray) (begins_B kb b its2.toArray) p1 p2 fun h' hz hTI hTO h1 h2 hsz hk => wpAny_pyIter_zip hz ?_
      have I2 : Inv X pins σ H1 { s1 with heap := h' } := I1.kept (t' := s1.toks) hk
      refine ⟨s1.heap.objs.size + 4, [s1.heap.objs.size + 4, s1.heap.objs.size + 2, s1.heap.objs.size + 3, s1.heap.objs.size, s1.heap.objs.size + 1], _, _, H1, rfl, I2, turn_zipx (zip_sep2 (fp1 := [a]) (fp2 := [b]) (by simpa using la) (by simpa using lb)), ⟨hz, hTI, ⟨_, _, hTO⟩, itB_of h1, itB_of h2⟩, fun c hcm => ?_, q⟩
      have e' : c = s1.heap.objs.size + 4 ∨ c = s1.heap.objs.size + 2 ∨ c = s1.heap.objs.size + 3 ∨ c = s1.heap.objs.size ∨ c = s1.heap.objs.size + 1 := by simpa using hcm
      have hle : s1.heap.objs.size ≤ c := by
        rcases e' with z | z | z | z | z
        · rw [z]; exact Nat.le_add_right _ _
        · rw [z]; exact Nat.le_add_right _ _
        · rw [z]; exact Nat.le_add_right _ _
        · rw [z]; exact Nat.le_refl _
        · rw [z]; exact Nat.le_add_right _ _
      exact I1.fpOk hle (I1.hok.fresh hle)
end PW
set_option Elab.async false
set_option linter.all false
set_option maxRecDepth 100000
set_option maxHeartbeats 4000000
namespace PW
open PySem PySem.Spec PyProof.Rows L2
/-! the readings of operators and built-ins, by names -/
theorem hu65 {k : Nat} {A : Around} (hr : Room k A) : A.units + 65 < cLine := by have := hr.un; omega
abbrev qAdd : R2 := rI0 fun i j => .int (i + j)
abbrev qSub : R2 := rI0 fun i j => .int (i - j)
abbrev qMul : R2 := rI CMul fun i j => .int (i * j)
abbrev qDiv : R2 := rI CDiv fun i j => .int (i / j)
abbrev qMod : R2 := rI (fun _ j => 0 < j) fun i j => .int (i % j)
abbrev qPow : R2 := rI CPow fun i j => .int (i ^ j.toNat)
abbrev qLt : R2 := rI0 fun i j => .bl (decide (i < j))
abbrev qLe : R2 := rI0 fun i j => .bl (decide (i ≤ j))
abbrev qGt : R2 := rI0 fun i j => .bl (decide (j < i))
abbrev qGe : R2 := rI0 fun i j => .bl (decide (j ≤ i))
abbrev qNeg : V → Hp → VK → Prop := rU fun i => .int (-i)
abbrev qIsN : R2 := fun x y H Q => y = .non ∧ Q (.bl (decide (x = .non))) H
abbrev qNotN : R2 := fun x y H Q => y = .non ∧ Q (.bl (!decide (x = .non))) H
abbrev qLen (K : PySem.W.Frag) : List V → Hp → VK → Prop := fun xs H Q => ∃ p ys, xs = [.ref p] ∧ (SqL K H p ys ∨ SqT K H p ys) ∧ Q (.int ys.length) H
abbrev qMax2 : List V → Hp → VK → Prop := fun xs H Q => ∃ i j, xs = [.int i, .int j] ∧ Q (.int (if j > i then j else i)) H
abbrev qMin2 : List V → Hp → VK → Prop := fun xs H Q => ∃ i j, xs = [.int i, .int j] ∧ Q (.int (if j < i then j else i)) H
abbrev qAbs : List V → Hp → VK → Prop := fun xs H Q => ∃ i, xs = [.int i] ∧ Q (.int (if i < 0 then -i else i)) H
abbrev qInt : List V → Hp → VK → Prop := fun xs H Q => (∃ i, xs = [.int i] ∧ Q (.int i) H) ∨ ∃ k, xs = [.bl k] ∧ Q (.int (if k then 1 else 0)) H
abbrev qSortedDI : List V → Hp → VK → Prop := fun xs H Q => ∃ (a : Addr) (kvs : List (Key × V)) (ks : List Int), xs = [.ref a] ∧ Rd H a (.dK kvs) ∧ kvs.map (·.1) = ks.map Sum.inl ∧ ks.length < 64 ∧ ∀ (ys : List Int) (p : Addr), ys.Perm ks → ys.Pairwise (· ≤ ·) → H p = none → Q (.ref p) (upd H p (.lst (ys.map V.int)))
abbrev qSortDR : List V → List V → Hp → VK → Prop := fun vs ks H Q => ks = [.bl true] ∧ rSortD vs H Q
abbrev qDictD : List V → Hp → VK → Prop := fun xs H Q => ∃ (a : Addr) (kvs : List (Key × V)), xs = [.ref a] ∧ Rd H a (.dK kvs) ∧ ∀ p, H p = none → Q (.ref p) (upd H p (.dK kvs))
abbrev qDictP (K : PySem.W.Frag) : List V → Hp → VK → Prop := fun xs H Q => ∃ (a : Addr) (ps : List Addr) (kvs : List (Key × V)), xs = [.ref a] ∧ SqL K H a (ps.map V.ref) ∧ Paired (fun p kv => SqT K H p [kV kv.1, kv.2]) ps kvs ∧ ∀ p, H p = none → Q (.ref p) (upd H p (.dK (mergeK [] kvs)))
abbrev qDictPT : List V → Hp → VK → Prop := fun xs H Q => ∃ (a : Addr) (ps : List Addr) (kvs : List (List Key × V)), xs = [.ref a] ∧ H a = some (.lst (ps.map V.ref)) ∧ PairsT H ps kvs ∧ ∀ p, H p = none → Q (.ref p) (upd H p (.dT (mergeT [] kvs)))
abbrev qListD : List V → Hp → VK → Prop := fun xs H Q => ∃ (a : Addr) (kvs : List (Key × V)), xs = [.ref a] ∧ Rd H a (.dK kvs) ∧ ∀ p, H p = none → Q (.ref p) (upd H p (.lst (kvs.map fun kv => kV kv.1)))
abbrev qListV : List V → Hp → VK → Prop := fun xs H Q => ∃ (p a : Addr) (kvs : List (Key × V)), xs = [.ref p] ∧ H p = some (valsO p a) ∧ H a = some (.dK kvs) ∧ ∀ q, H q = none → Q (.ref q) (upd H q (.lst (kvs.map Prod.snd)))
abbrev qList (K : PySem.W.Frag) : List V → Hp → VK → Prop := fun xs H Q => ∃ p ys, xs = [.ref p] ∧ (SqL K H p ys ∨ SqT K H p ys) ∧ ∀ l, H l = none → Q (.ref l) (upd H l (.lst ys))
abbrev qTuple (K : PySem.W.Frag) : List V → Hp → VK → Prop := fun xs H Q => ∃ p ys, xs = [.ref p] ∧ ((SqL K H p ys ∧ ∀ l, H l = none → Q (.ref l) (upd H l (.tup ys))) ∨ (SqT K H p ys ∧ Q (.ref p) H))
abbrev qInsert : V → List V → Hp → VK → Prop := fun x vs H Q => ∃ (l : Addr) (xs : List V) (i : Int) (y : V), x = .ref l ∧ vs = [.int i, y] ∧ H l = some (.lst xs) ∧ xs.length < sizeLine ∧ 0 ≤ i ∧ i < 2 ^ 63 ∧
    Q .non (upd H l (.lst (xs.take i.toNat ++ [y] ++ xs.drop i.toNat)))
end PW
set_option Elab.async false
set_option linter.all false
set_option maxRecDepth 100000
set_option maxHeartbeats 4000000
namespace PW
open PySem PySem.Spec PyProof.Rows L2
/-! ### sorted of a tuple of ties -/
def rSortTT : List V → Hp → VK → Prop := fun vs H Q => ∃ (a : Addr) (xs : List V) (ts : List Tie), vs = [V.ref a] ∧ H a = some (.tup xs) ∧ IsAll Any H xs (ts.map tieD) ∧
  ∀ (zs : List (Addr × Tie)) (p : Addr), (zs.map Prod.snd).Perm ts → (∀ z ∈ zs, H z.1 = some (.tup [nv z.2.1, nv z.2.2.1, .int z.2.2.2])) → H p = none → Q (.ref p) (upd H p (.lst (zs.map fun z => V.ref z.1)))
section
variable {X : Cx}
theorem ties_zs {H : Hp} : ∀ {xs : List V} {ts : List Tie}, IsAll Any H xs (ts.map tieD) → ∃ zs : List (Addr × Tie), zs.map (fun z => V.ref z.1) = xs ∧ zs.map Prod.snd = ts ∧ ∀ z ∈ zs, H z.1 = some (.tup [nv z.2.1, nv z.2.2.1, .int z.2.2.2])
  | [], [], _ => ⟨[], rfl, rfl, fun z hz => nomatch hz⟩
  | [], _ :: _, h => by cases h
  | _ :: _, [], h => by cases h
  | x :: xs, t :: ts, h => by
    rw [List.map_cons] at h
    cases h with
    | cons h1 h2 =>
      obtain ⟨zs, e1, e2, e3⟩ := ties_zs h2
      obtain ⟨a, rfl, ha⟩ := is_tie h1
      refine ⟨(a, t) :: zs, by rw [List.map_cons, e1], by rw [List.map_cons, e2], fun z hz => ?_⟩
      rcases List.mem_cons.mp hz with e | hz
      · subst e; exact ha
      · exact e3 z hz
theorem tie_depth (t : Tie) : (tieD t).depth = 1 := by simp [PyData.depth, PyData.depthAll]
theorem cr_sortDU (hu : X.A.units + 64 < cLine) : CallR X (.builtin "sorted") rSortTT := by
  intro pins s σ H xs us Q I r h
  obtain ⟨d, ys, ts, rfl, hd, hk, q⟩ := h
  obtain ⟨u, rfl, rx⟩ := vals1 r
  cases rx
  obtain ⟨its, rv, pt, hz⟩ := I.tuple (SqT.of (K := X.K) hd)
  obtain ⟨zs, z1, z2, z3⟩ := ties_zs hk
  obtain ⟨o, ho, hc, n, hdt⟩ := pt
  have l3 : zs.length = its.length := by
    have e := congrArg List.length z1
    rw [List.length_map] at e
    rw [e, rv.length]
  have ea : its = zs.map fun z => Value.ref z.1 := by
    rw [← z1] at rv
    have e0 : (zs.map fun z => V.ref z.1) = (zs.map Prod.fst).map V.ref := by rw [List.map_map]; rfl
    rw [e0] at rv
    rw [refs_at rv, List.map_map]
    rfl
  refine Calls.call_function_entry PyProof.Rows.kind_sorted PyProof.Rows.plain_sorted PyProof.Rows.entry_sorted (PyProof.Rows.args_sorted1 _) ?_
  unfold Builtin.«sorted»
  refine wpAny_bind (m := checkCount "sorted" 1 1 _) (wpAny_pure ?_)
  have hz2 : its.length ≤ sizeLine := by rw [← rv.length]; exact hz
  refine wpAny_bind (wpAny_collect_seq d (.inr rfl) ho hc hdt (fun h' kp => ?_) (by rw [List.size_toArray]; exact hz2))
  have I1 : Inv X pins σ H { s with heap := h' } := I.kept (t' := s.toks) kp
  have hal : its.toArray.toList.length ≤ sizeLine := by simpa using hz2
  have ea' : its.toArray.toList = zs.map fun z => Value.ref z.1 := by simpa using ea
  generalize its.toArray.toList = acc at hal ea'
  refine wpAny_bind (wpAny_newList ?_ hal)
  have hoL : (h'.push (seqObj "list" acc.toArray 0)).get? h'.objs.size = some (seqObj "list" acc.toArray 0) := Heap.get?_push_size _ rfl
  show wpAny _ _ _ _ _ { s with heap := h'.push (seqObj "list" acc.toArray 0) }
  have e1 : PySem.W.EachIs (fun v b => v = Value.ref b.1) acc zs := by
    rw [ea']
    clear ea' ea z1 z2 l3 hal hoL
    induction zs with
    | nil => exact .nil
    | cons z zs ih => exact .cons rfl (ih fun z hz => z3 z (List.mem_cons_of_mem _ hz))
  have rd : ∀ z ∈ zs, Reads (h'.push (seqObj "list" acc.toArray 0)) (.ref z.1) (tieD z.2) [] := fun z hz => by
    obtain ⟨_, its, rv, o3, h1, h2, n, h3⟩ := (show ObjOk X.prog X.w H h' z.1 (.tup [nv z.2.1, nv z.2.2.1, .int z.2.2.2]) from I1.hok _ _ (z3 z hz))
    cases rv with
    | cons r1 rv => cases rv with | cons r2 rv => cases rv with | cons r3 rv =>
        cases rv
        obtain ⟨t1, rfl⟩ := r1
        obtain ⟨t2, rfl⟩ := r2
        obtain ⟨t3, rfl⟩ := r3
        have := Reads.tuple (h := h'.push (seqObj "list" acc.toArray 0)) (xs := [natD z.2.1, natD z.2.2.1, .int z.2.2.2]) (as := []) (Heap.get?_push_of_some _ h1) h2 h3 (ReadsAll.cons (as := []) (bs := []) (Reads.int _ _) (ReadsAll.cons (as := []) (bs := []) (Reads.int _ _) (ReadsAll.cons (as := []) (bs := []) (Reads.int _ _) .nil)))
        exact this
  have e2 : PySem.W.EachIs (fun v b => ∃ as, Reads (h'.push (seqObj "list" acc.toArray 0)) v (tieD b.2) as ∧ h'.objs.size ∉ as) acc zs := by
    rw [ea'] at rd ⊢
    generalize (h'.push (seqObj "list" (zs.map fun z => Value.ref z.1).toArray 0)) = h2 at rd
    clear ea' ea z1 z2 l3 e1 hoL hal
    induction zs with
    | nil => exact .nil
    | cons z zs ih => exact .cons ⟨[], rd z (List.mem_cons_self ..), by simp⟩ (ih (fun z hz => z3 z (List.mem_cons_of_mem _ hz)) fun z hz => rd z (List.mem_cons_of_mem _ hz))
  have hzl : zs.length ≤ sizeLine := by rw [l3]; exact hz2
  have srt := PySem.W.list_sort_data (prog := X.prog) (w := X.w) (A := X.A.in1) (E := X.xe) (s := { s with heap := h'.push (seqObj "list" acc.toArray 0) }) (enc := fun z : Addr × Tie => tieD z.2)
    (Q := fun v s' => ∃ out : List Value, PySem.W.EachIs (fun v b => v = Value.ref b.1) out (zs.mergeSort (PySem.W.dataLe false fun z : Addr × Tie => tieD z.2)) ∧ s' = { s with heap := sortedHeap (h'.push (seqObj "list" acc.toArray 0)) h'.objs.size acc out.toArray })
    hoL e1 e2 (PySem.W.AllAlike.of (enc := fun z : Addr × Tie => tieD z.2) fun b b' => rfl) (PySem.W.Sortable.tuples fun b => ⟨_, _, rfl⟩) hzl (fun b _ => by
      rw [tie_depth]
      show X.A.units + 1 + 1 + 1 < cLine
      omega) (fun out _ h2 => ⟨out, h2, rfl⟩)
  refine wpAny_bind (wpAny_holding (wpAny_mono srt (fun _ s' x => ?_) fun _ _ e => e))
  obtain ⟨out, h2, rfl⟩ := x
  obtain ⟨e', he'⟩ := PyProof.Rows.sortedHeap_at (vs := acc) (out := out.toArray) hoL
  have hp : (zs.mergeSort (PySem.W.dataLe false fun z : Addr × Tie => tieD z.2)).Perm zs := List.mergeSort_perm _ _
  generalize (zs.mergeSort (PySem.W.dataLe false fun z : Addr × Tie => tieD z.2)) = ws at h2 hp
  have hv : Vals (ws.map fun z => V.ref z.1) out := by
    clear he' hp
    induction h2 with
    | nil => exact .nil
    | cons h t ih => exact .cons h ih
  have hlen : (ws.map fun z => V.ref z.1).length ≤ sizeLine := by
    rw [List.length_map, hp.length_eq]
    exact hzl
  refine wpAny_pure ⟨_, rfl, .ref h'.objs.size, upd H h'.objs.size (.lst (ws.map fun z => V.ref z.1)), I1.laid (t' := s.toks) (fun b u e => ?_) (Nat.le_refl _)
    (show ObjOk X.prog X.w _ _ _ (.lst (ws.map fun z => V.ref z.1)) from ⟨hlen, out, e', hv, he'⟩), rfl, q ws _ ?_ (fun z hz => z3 z (hp.mem_iff.mp hz)) (I1.hok.fresh (Nat.le_refl _))⟩
  · have hb : b < h'.objs.size := Heap.lt_size e
    rw [PyProof.Rows.sortedHeap_old (Nat.ne_of_lt hb) (by rw [size_push']; exact Nat.lt_succ_of_lt hb)]
    exact Heap.get?_push_of_some _ e
  · rw [← z2]
    exact hp.map _
end
end PW
set_option Elab.async false
set_option linter.all false
set_option maxRecDepth 100000
set_option maxHeartbeats 4000000
namespace PW
open PySem PySem.Spec PyProof.Rows L2
/-- max of a tuple of whole numbers -/
def rMaxT (K : PySem.W.Frag) : List V → Hp → VK → Prop := fun vs H Q => ∃ (a : Addr) (ns : List Int), vs = [V.ref a] ∧ SqT K H a (ns.map V.int) ∧ 0 < ns.length ∧ ∀ m, m ∈ ns → (∀ y, y ∈ ns → y ≤ m) → Q (.int m) H
theorem foldl_max (n : Int) : ∀ ns : List Int, ns.foldl max n ∈ n :: ns ∧ ∀ y ∈ n :: ns, y ≤ ns.foldl max n := by
  intro ns
  induction ns generalizing n with
  | nil => exact ⟨List.mem_cons_self .., fun y hy => by rw [List.mem_singleton.mp hy]; exact Int.le_refl _⟩
  | cons k r ih =>
    obtain ⟨h1, h2⟩ := ih (max n k)
    rw [List.foldl_cons]
    have hm := h2 (max n k) (List.mem_cons_self ..)
    refine ⟨?_, fun y hy => ?_⟩
    · rcases List.mem_cons.mp h1 with e | e
      · rw [e]
        by_cases hk : n ≤ k
        · rw [Int.max_eq_right hk]; simp
        · rw [Int.max_eq_left (by omega)]; simp
      · exact List.mem_cons_of_mem _ (List.mem_cons_of_mem _ e)
    · rcases List.mem_cons.mp hy with rfl | hy
      · omega
      · rcases List.mem_cons.mp hy with rfl | hy
        · omega
        · exact h2 y (List.mem_cons_of_mem _ hy)
theorem reads_int {h : Heap} {v : Value} {i : Int} {bs : List Addr} (r : Reads h v (.int i) bs) : ∃ t, v = .int i t := by cases r; exact ⟨_, rfl⟩
theorem dpAll_ints {K : PySem.W.Frag} {H : Hp} : ∀ ns : List Int, DpAll K H (ns.map V.int) (ns.map PyData.int)
  | [] => .nil
  | n :: ns => .cons (.int n) (dpAll_ints ns)
theorem cr_maxT {X : Cx} (hc : X.calm = true) (hu : X.A.units + 64 < cLine) : CallR X (.builtin "max") (rMaxT X.K) := by
  intro pins s σ H vs us Q I r h
  obtain ⟨a, ns, rfl, hs, hne, q⟩ := h
  obtain ⟨its, rv, hl, _⟩ := I.tuple hs
  rw [Vals.ref1 r]
  obtain ⟨as, hr⟩ := Dp.readsAll I (ns.map PyData.int) _ its (dpAll_ints ns) rv
  cases ns with
  | nil => exact absurd hne (by simp)
  | cons n ns =>
    obtain ⟨h1, h2⟩ := foldl_max n ns
    have hal : PySem.W.AlikeAll ((n :: ns).map PyData.int) := by
      refine ⟨fun x hx y hy => ?_, fun x hx => ?_⟩
      · obtain ⟨_, _, rfl⟩ := List.mem_map.mp hx
        obtain ⟨_, _, rfl⟩ := List.mem_map.mp hy
        rfl
      · obtain ⟨_, _, rfl⟩ := List.mem_map.mp hx
        intro e
        cases e
    refine PySem.W.max_tuple_data (I.ok.hd hc) hl hr hal (by
      have := PySem.W.depth_ints (n :: ns)
      show X.A.units + 1 + PyData.depthAll ((n :: ns).map PyData.int) < cLine
      rw [this]
      omega) fun i v h' tk bs hi rd hk => ?_
    rw [PySem.W.maxD_ints] at rd
    obtain ⟨t, rfl⟩ := reads_int rd
    exact ⟨.int _, H, I.kept hk, ⟨_, rfl⟩, q _ h1 h2⟩
end PW
set_option Elab.async false
set_option linter.all false
set_option maxRecDepth 100000
set_option maxHeartbeats 4000000
namespace PW
open PySem PySem.Spec PyProof.Rows L2
theorem small {n : Nat} (h : n ≤ 100000) : n ≤ sizeLine := Nat.le_trans h (by decide)
theorem sz0 : 0 ≤ sizeLine := by decide
theorem sz1 : 1 ≤ sizeLine := by decide
theorem sz2 : 2 ≤ sizeLine := by decide
theorem sz3 : 3 ≤ sizeLine := by decide
theorem cut2n : ¬ (HT.sIx 3 0 none = 0 ∧ HT.sIx 3 3 (some 2) = 3) := by decide
theorem cut2 (x y z : V) : cutV [x, y, z] none (some 2) = [x, y] := rfl
theorem smallLt {n : Nat} (h : n < 100000) : n < sizeLine := Nat.lt_of_lt_of_le h (by decide)
/-- fresh ahead of an extension is fresh before -/
theorem Same.back {H H' : Hp} {p : Addr} (e : Same H H') (h : H' p = none) : H p = none := Same.free e h
theorem New.back {H H' : Hp} (e : Same H H') {a : Addr} (h : New H' a) : New H a := Same.free e h
theorem Is.back {H H' G : Hp} {v : V} {d : PyData} (e : Same H H') (h : Is (New H') G v d) : Is (New H) G v d := h.imp fun _ q => New.back e q
theorem IsAll.back {H H' G : Hp} {v : List V} {d : List PyData} (e : Same H H') (h : IsAll (New H') G v d) : IsAll (New H) G v d := h.imp fun _ q => New.back e q
/-! ### what is promised -/
/-- data, made anew -/
def Gives (d : PyData) (H : Hp) (Q : VK) : Prop := ∀ r H', Same H H' → Is (New H) H' r d → Q r H'
theorem Gives.go {d : PyData} {H H1 H2 : Hp} {Q : VK} (q : Gives d H Q) (e1 : Same H H1) {r : V} (e2 : Same H1 H2) (h : Is (New H1) H2 r d) : Q r H2 := q r H2 (e1.trans e2) (h.back e1)
/-- an int, a truth value -/
def GivesI (i : Int) (H : Hp) (Q : VK) : Prop := ∀ H', Same H H' → Q (.int i) H'
def GivesB (b : Bool) (H : Hp) (Q : VK) : Prop := ∀ H', Same H H' → Q (.bl b) H'
/-! ### lists -/
theorem filterMap_range {α β : Type} (G : α → Option β) : ∀ (l : List α), (List.range l.length).filterMap (fun i => (l[i]?).bind G) = l.filterMap G := by
  intro l
  induction l with
  | nil => rfl
  | cons x l ih =>
    rw [List.length_cons, List.range_succ_eq_map, List.filterMap_cons, List.filterMap_map]
    have e : (List.range l.length).filterMap ((fun i => ((x :: l)[i]?).bind G) ∘ Nat.succ) = l.filterMap G := by
      rw [← ih]
      rfl
    rw [e, List.filterMap_cons]
    rfl
theorem filterMap_take {α β : Type} {G : α → Option β} {l : List α} {i : Nat} {y : α} (h : l[i]? = some y) : (l.take (i + 1)).filterMap G = (l.take i).filterMap G ++ (match G y with | some d => [d] | none => []) := by
  rw [List.take_add_one, h, List.filterMap_append]
  show _ ++ List.filterMap G [y] = _
  rw [List.filterMap_cons]
  cases G y <;> rfl
/-! ### comprehensions, as a filterMap -/
/-- a comprehension over any walk: what each turn adds (G y) or leaves out -/
theorem lc_M {α : Type} {J : It} {GG : Hp → Prop} {Y : Nat → Hp → V → Hp → Prop} {g : TG} {tt : TT} {te : TE} {vs : List Nat} {σ : L2.St} {H1 : Hp} {D : Addr} {Qd : Hp → Prop} (l : List α) (G : α → Option PyData) (w : Walk J l.length GG Y)
    (hD : H1 D = none) (hn : l.length ≤ 90000) (hG : ∀ H, Same H1 H → GG H) (hY : ∀ i H x H', Y i H x H' → Same H H')
    (hs : ∀ i x y H H', l[i]? = some y → Same H1 H → Y i H x H' → ∀ (Kont : V → Hp → Prop) (Skip : Hp → Prop), (∀ z H4 d, Same H' H4 → G y = some d → Is (New H') H4 z d → Kont z H4) → (∀ H3, Same H' H3 → G y = none → Skip H3) →
      g x (wipe σ vs) H' fun σ2 H2 => wipe σ2 vs = wipe σ vs ∧ tt σ2 H2 fun b H3 => if b = true then te σ2 H3 Kont else Skip H3)
    (hd : ∀ H, Same H1 H → Is (New H1) H (.ref D) (.list (l.filterMap G)) → Qd H) :
    ∃ W : Nat → Nat → Hp → Prop, (∃ m, W 0 m (upd H1 D (.lst []))) ∧ ∀ i m H, W i m H →
      (J.stop i H ∧ Qd H) ∨ (J.go i H ∧ ∃ Nx : Hp → Prop, (∀ H', Nx H' → ∃ m', m' < m ∧ W (i + 1) m' H') ∧ ∀ x H', J.yld i H x H' → g x (wipe σ vs) H' fun σ2 H2 => wipe σ2 vs = wipe σ vs ∧ tt σ2 H2 fun b H3 =>
        if b = true then te σ2 H3 fun y H4 => ∃ acc, H4 D = some (.lst acc) ∧ acc.length < sizeLine ∧ Nx (upd H4 D (.lst (acc ++ [y]))) else Nx H3) := by
  refine lc_it w (fun i H => ∃ acc, H D = some (.lst acc) ∧ acc.length ≤ i ∧ Same H1 H ∧ IsAll (fun a => H1 a = none ∧ a ≠ D) H acc ((l.take i).filterMap G)) ⟨[], upd_same, Nat.le_refl _, same_upd hD, .nil⟩ (fun i H _ ⟨_, _, _, s, _⟩ => hG H s) ?_ ?_
  · rintro i x H H' hi ⟨acc, e, hl, s, r⟩ y
    obtain ⟨yy, hy⟩ : ∃ yy, l[i]? = some yy := ⟨l[i], List.getElem?_eq_getElem hi⟩
    have s2 := hY i H x H' y
    have eD : H' D = some (.lst acc) := s2 _ _ e
    refine hs i x yy H H' hy s y _ _ (fun z H4 d s4 hg hz => ⟨acc, s4 _ _ eD, smallLt (by omega), acc ++ [z], upd_same, by rw [List.length_append]; show _ + 1 ≤ _; omega, Same.mut (s.trans (s2.trans s4)) hD, ?_⟩) (fun H3 s3 hg => ⟨acc, s3 _ _ eD, by omega, s.trans (s2.trans s3), ?_⟩)
    · rw [filterMap_take hy, hg]
      have t : ∀ xs, H4 D ≠ some (.tup xs) := fun xs q => by rw [s4 _ _ eD] at q; cases q
      refine IsAll.snoc (((r.same s2).same s4).upd (fun a q => q.2) t) (Is.upd (fun a q => q.2) t (hz.imp fun a q => ⟨?_, fun ea => ?_⟩))
      · exact (s.trans s2).free q
      · subst ea
        rw [show H' a = none from q] at eD
        cases eD
    · rw [filterMap_take hy, hg, List.append_nil]
      exact (r.same s2).same s3
  · rintro H ⟨acc, e, hl, s, r⟩
    rw [List.take_length] at r
    exact hd H s (.lst hD e (r.imp fun a q => q.1))
/-- what a range's turns give, as the items of List.range -/
theorem walk_rangeN (n : Nat) : Walk (Itr 0 n) (List.range n).length (fun _ => True) (YFn fun i => nv i) := by
  rw [List.length_range]
  exact (walk_range (lo := 0) (n := n)).mono (fun _ h => h) fun i H x H' _ _ y => ⟨y.1, y.2.trans (by show V.int (0 + (i : Int)) = _; rw [Int.zero_add])⟩
theorem yat_same {xs : List V} : ∀ (i : Nat) (H : Hp) (x : V) (H' : Hp), YAt xs i H x H' → Same H H' := fun _ _ _ _ y => by rw [y.1]; exact Same.refl _
theorem yfn_same {f : Nat → V} : ∀ (i : Nat) (H : Hp) (x : V) (H' : Hp), YFn f i H x H' → Same H H' := fun _ _ _ _ y => by rw [y.1]; exact Same.refl _
theorem ypair_same {f g : Nat → Option V} : ∀ (i : Nat) (H : Hp) (x : V) (H' : Hp), YPair f g i H x H' → Same H H' := fun _ _ _ _ ⟨T, x, y, _, h, e, _⟩ => by rw [e]; exact same_upd h
/-- over a list of l's data -/
theorem lc_L {α : Type} {K : PySem.W.Frag} {a : Addr} {xs : List V} {φ : Addr → Prop} {g : TG} {tt : TT} {te : TE} {vs : List Nat} {σ : L2.St} {H1 : Hp} {D : Addr} {Qd : Hp → Prop} (l : List α) (f : α → PyData) (G : α → Option PyData) (ha : H1 a = some (.lst xs)) (hx : IsAll φ H1 xs (l.map f))
    (hD : H1 D = none) (hn : l.length ≤ 90000)
    (hs : ∀ x y H, y ∈ l → Same H1 H → Is φ H x (f y) → ∀ (Kont : V → Hp → Prop) (Skip : Hp → Prop), (∀ z H4 d, Same H H4 → G y = some d → Is (New H) H4 z d → Kont z H4) → (∀ H3, Same H H3 → G y = none → Skip H3) →
      g x (wipe σ vs) H fun σ2 H2 => wipe σ2 vs = wipe σ vs ∧ tt σ2 H2 fun b H3 => if b = true then te σ2 H3 Kont else Skip H3)
    (hd : ∀ H, Same H1 H → Is (New H1) H (.ref D) (.list (l.filterMap G)) → Qd H) :
    ∃ W : Nat → Nat → Hp → Prop, (∃ m, W 0 m (upd H1 D (.lst []))) ∧ ∀ i m H, W i m H →
      ((Itl K a).stop i H ∧ Qd H) ∨ ((Itl K a).go i H ∧ ∃ Nx : Hp → Prop, (∀ H', Nx H' → ∃ m', m' < m ∧ W (i + 1) m' H') ∧ ∀ x H', (Itl K a).yld i H x H' → g x (wipe σ vs) H' fun σ2 H2 => wipe σ2 vs = wipe σ vs ∧ tt σ2 H2 fun b H3 =>
        if b = true then te σ2 H3 fun y H4 => ∃ acc, H4 D = some (.lst acc) ∧ acc.length < sizeLine ∧ Nx (upd H4 D (.lst (acc ++ [y]))) else Nx H3) := by
  have el : xs.length = l.length := hx.map_len
  refine lc_M l G (GG := fun H => SqL K H a xs) (Y := YAt xs) (by rw [← el]; exact walk_list) hD hn (fun H s => SqL.of (s _ _ ha)) yat_same (fun i x y H H' hy s yy Kont Skip k1 k2 => ?_) hd
  obtain ⟨e, hxi⟩ := yy
  subst e
  obtain ⟨y', h1, h2⟩ := hx.map_get hxi
  rw [hy] at h1
  cases h1
  exact hs x y H' (List.mem_of_getElem? hy) s (h2.same s) Kont Skip k1 k2
theorem lc_T {α : Type} {K : PySem.W.Frag} {a : Addr} {xs : List V} {φ : Addr → Prop} {g : TG} {tt : TT} {te : TE} {vs : List Nat} {σ : L2.St} {H1 : Hp} {D : Addr} {Qd : Hp → Prop} (l : List α) (f : α → PyData) (G : α → Option PyData) (ha : H1 a = some (.tup xs)) (hx : IsAll φ H1 xs (l.map f))
    (hD : H1 D = none) (hn : l.length ≤ 90000)
    (hs : ∀ x y H, y ∈ l → Same H1 H → Is φ H x (f y) → ∀ (Kont : V → Hp → Prop) (Skip : Hp → Prop), (∀ z H4 d, Same H H4 → G y = some d → Is (New H) H4 z d → Kont z H4) → (∀ H3, Same H H3 → G y = none → Skip H3) →
      g x (wipe σ vs) H fun σ2 H2 => wipe σ2 vs = wipe σ vs ∧ tt σ2 H2 fun b H3 => if b = true then te σ2 H3 Kont else Skip H3)
    (hd : ∀ H, Same H1 H → Is (New H1) H (.ref D) (.list (l.filterMap G)) → Qd H) :
    ∃ W : Nat → Nat → Hp → Prop, (∃ m, W 0 m (upd H1 D (.lst []))) ∧ ∀ i m H, W i m H →
      ((Itt K a).stop i H ∧ Qd H) ∨ ((Itt K a).go i H ∧ ∃ Nx : Hp → Prop, (∀ H', Nx H' → ∃ m', m' < m ∧ W (i + 1) m' H') ∧ ∀ x H', (Itt K a).yld i H x H' → g x (wipe σ vs) H' fun σ2 H2 => wipe σ2 vs = wipe σ vs ∧ tt σ2 H2 fun b H3 =>
        if b = true then te σ2 H3 fun y H4 => ∃ acc, H4 D = some (.lst acc) ∧ acc.length < sizeLine ∧ Nx (upd H4 D (.lst (acc ++ [y]))) else Nx H3) := by
  have el : xs.length = l.length := hx.map_len
  refine lc_M l G (GG := fun H => SqT K H a xs) (Y := YAt xs) (by rw [← el]; exact walk_tup) hD hn (fun H s => SqT.of (s _ _ ha)) yat_same (fun i x y H H' hy s yy Kont Skip k1 k2 => ?_) hd
  obtain ⟨e, hxi⟩ := yy
  subst e
  obtain ⟨y', h1, h2⟩ := hx.map_get hxi
  rw [hy] at h1
  cases h1
  exact hs x y H' (List.mem_of_getElem? hy) s (h2.same s) Kont Skip k1 k2
theorem lc_R {g : TG} {tt : TT} {te : TE} {vs : List Nat} {σ : L2.St} {H1 : Hp} {D : Addr} {Qd : Hp → Prop} (n : Nat) (G : Nat → Option PyData) (hD : H1 D = none) (hn : n ≤ 90000)
    (hs : ∀ y H, y < n → Same H1 H → ∀ (Kont : V → Hp → Prop) (Skip : Hp → Prop), (∀ z H4 d, Same H H4 → G y = some d → Is (New H) H4 z d → Kont z H4) → (∀ H3, Same H H3 → G y = none → Skip H3) →
      g (nv y) (wipe σ vs) H fun σ2 H2 => wipe σ2 vs = wipe σ vs ∧ tt σ2 H2 fun b H3 => if b = true then te σ2 H3 Kont else Skip H3)
    (hd : ∀ H, Same H1 H → Is (New H1) H (.ref D) (.list ((List.range n).filterMap G)) → Qd H) :
    ∃ W : Nat → Nat → Hp → Prop, (∃ m, W 0 m (upd H1 D (.lst []))) ∧ ∀ i m H, W i m H →
      ((Itr 0 n).stop i H ∧ Qd H) ∨ ((Itr 0 n).go i H ∧ ∃ Nx : Hp → Prop, (∀ H', Nx H' → ∃ m', m' < m ∧ W (i + 1) m' H') ∧ ∀ x H', (Itr 0 n).yld i H x H' → g x (wipe σ vs) H' fun σ2 H2 => wipe σ2 vs = wipe σ vs ∧ tt σ2 H2 fun b H3 =>
        if b = true then te σ2 H3 fun y H4 => ∃ acc, H4 D = some (.lst acc) ∧ acc.length < sizeLine ∧ Nx (upd H4 D (.lst (acc ++ [y]))) else Nx H3) := by
  refine lc_M (List.range n) G (walk_rangeN n) hD (by rw [List.length_range]; exact hn) (fun _ _ => trivial) yfn_same (fun i x y H H' hy s yy Kont Skip k1 k2 => ?_) hd
  obtain ⟨e, hx⟩ := yy
  subst e
  obtain ⟨hi, e⟩ := List.getElem?_eq_some_iff.mp hy
  rw [List.getElem_range] at e
  subst e
  rw [List.length_range] at hi
  rw [hx]
  exact hs i H' hi s Kont Skip k1 k2
theorem filterMap_some {α β : Type} (f : α → β) (l : List α) : l.filterMap (fun x => some (f x)) = l.map f := by rw [List.filterMap_eq_map']
theorem filterMap_if {α β : Type} (p : α → Bool) (f : α → β) : ∀ l : List α, l.filterMap (fun x => if p x = true then some (f x) else none) = (l.filter p).map f
  | [] => rfl
  | x :: l => by
    rw [List.filterMap_cons, List.filter_cons, filterMap_if p f l]
    cases h : p x
    · simp
    · simp
theorem is_ints {φ : Addr → Prop} {H : Hp} {v : V} {ns : List Int} (h : Is φ H v (.list (ns.map PyData.int))) : ∃ a, v = .ref a ∧ φ a ∧ H a = some (.lst (ns.map V.int)) := by
  obtain ⟨a, xs, e, h0, h1, h2⟩ := is_list h
  rw [isAll_ints.mp h2] at h1
  exact ⟨a, e, h0, h1⟩
theorem map_int {α : Type} (f : α → Int) (l : List α) : l.map (fun x => PyData.int (f x)) = (l.map f).map PyData.int := by rw [List.map_map]; rfl
theorem flat_nats (l : List Nat) : (l.map nv).all flatV = true := by
  rw [List.all_map]
  exact List.all_eq_true.mpr fun _ _ => rfl
theorem eq_nats (a b : Nat) : decide (nv a = nv b) = (a == b) := by
  by_cases h : a = b
  · subst h; simp
  · have : ¬ nv a = nv b := fun e => h (by have := V.int.inj e; omega)
    rw [decide_eq_false this]
    exact (beq_eq_false_iff_ne.mpr h).symm
theorem ne_nats (a b : Nat) : (!decide (nv a = nv b)) = (a != b) := by rw [eq_nats]; rfl
theorem inV_nats (n : Nat) (l : List Nat) : (if false = true then !inV (nv n) (l.map nv) else inV (nv n) (l.map nv)) = decide (n ∈ l) := by
  rw [if_neg Bool.false_ne_true]
  unfold inV
  rw [List.any_map]
  induction l with
  | nil => simp
  | cons x l ih =>
    rw [List.any_cons, ih]
    have e : ((fun y => eqV y (nv n)) ∘ nv) x = decide (n = x) := by
      show eqV (nv x) (nv n) = _
      have e2 : eqV (nv x) (nv n) = ((x : Int) == (n : Int)) := rfl
      rw [e2]
      by_cases h : n = x
      · subst h; simp
      · rw [decide_eq_false h]
        exact beq_eq_false_iff_ne.mpr (by omega)
    rw [e]
    simp
theorem inV_natsN (n : Nat) (l : List Nat) : (if true = true then !inV (nv n) (l.map nv) else inV (nv n) (l.map nv)) = decide (n ∉ l) := by
  have h := inV_nats n l
  rw [if_neg Bool.false_ne_true] at h
  rw [if_pos rfl, h, decide_not]
theorem at_nats {l : List Nat} {i : Nat} (h : i < l.length) : atI (l.map nv) (i : Int) = some (nv (l.getD i 0)) := by
  refine atI_nat ?_
  rw [List.getElem?_map, List.getElem?_eq_getElem h]
  simp [List.getD_eq_getElem?_getD, List.getElem?_eq_getElem h]
/-! ### small helps for readings -/
theorem ix_nat {xs : List V} {n : Nat} {v : V} (h : xs[n]? = some v) : atI xs (n : Int) = some v := atI_nat h
/-- the two ways of a test that is known -/
theorem ifT {A B : Prop} {c : Bool} (e : c = true) (h : A) : if c = true then A else B := by rw [if_pos e]; exact h
theorem ifF {A B : Prop} {c : Bool} (e : c = false) (h : B) : if c = true then A else B := by rw [if_neg (by rw [e]; exact Bool.false_ne_true)]; exact h
theorem ifB {A B : Prop} {c : Bool} (h1 : c = true → A) (h2 : c = false → B) : if c = true then A else B := by
  cases c with
  | true => exact iteT (h1 rfl)
  | false => exact iteF (h2 rfl)
end PW
set_option Elab.async false
set_option linter.all false
set_option maxRecDepth 100000
set_option maxHeartbeats 4000000
namespace PW
open PySem PySem.Spec PyProof.Rows L2
theorem at_refs {as : List Addr} {i : Nat} {a : Addr} (h : as[i]? = some a) : atI (as.map V.ref) (i : Int) = some (.ref a) := atI_nat (by rw [List.getElem?_map, h]; rfl)
theorem nd_at {α : Type} {l : List α} (hN : l.Nodup) {i j : Nat} {x : α} (a : l[i]? = some x) (b : l[j]? = some x) : i = j := nd_ix hN a b
/-! ### a list of lists of our own -/
structure Cells (H0 H : Hp) (D : Addr) (as : List Addr) (L : Nat → List V) : Prop where
  top : H D = some (.lst (as.map V.ref))
  topn : H0 D = none
  nd : as.Nodup
  off : ∀ a ∈ as, H0 a = none ∧ a ≠ D
  at_ : ∀ v a, as[v]? = some a → H a = some (.lst (L v))
section
variable {H0 H H' : Hp} {D : Addr} {as : List Addr} {L : Nat → List V}
theorem Cells.same (c : Cells H0 H D as L) (s : Same H H') : Cells H0 H' D as L := ⟨s _ _ c.top, c.topn, c.nd, c.off, fun v a e => s _ _ (c.at_ v a e)⟩
theorem Cells.get (c : Cells H0 H D as L) {v : Nat} (h : v < as.length) : ∃ a, as[v]? = some a ∧ H a = some (.lst (L v)) := by
  obtain ⟨a, e⟩ : ∃ a, as[v]? = some a := ⟨as[v], List.getElem?_eq_getElem h⟩
  exact ⟨a, e, c.at_ v a e⟩
theorem Cells.put (c : Cells H0 H D as L) {v : Nat} {a : Addr} {ys : List V} (h : as[v]? = some a) : Cells H0 (upd H a (.lst ys)) D as (fun u => if u = v then ys else L u) := by
  have ha := c.off a (List.mem_of_getElem? h)
  refine ⟨by rw [upd_ne (Ne.symm ha.2)]; exact c.top, c.topn, c.nd, c.off, fun u b e => ?_⟩
  by_cases hu : u = v
  · subst hu
    rw [h] at e
    cases e
    rw [upd_same, if_pos rfl]
  · have nb : b ≠ a := fun z => hu (nd_at c.nd (z ▸ e) h)
    rw [upd_ne nb, if_neg hu]
    exact c.at_ u b e
theorem Cells.congr (c : Cells H0 H D as L) {L' : Nat → List V} (h : ∀ v, v < as.length → L v = L' v) : Cells H0 H D as L' :=
  ⟨c.top, c.topn, c.nd, c.off, fun v a e => by rw [← h v (List.getElem?_eq_some_iff.mp e).1]; exact c.at_ v a e⟩
theorem isAll_of {φ : Addr → Prop} {xs : List V} {ds : List PyData} (hl : xs.length = ds.length) (h : ∀ (i : Nat) (x : V) (d : PyData), xs[i]? = some x → ds[i]? = some d → Is φ H x d) : IsAll φ H xs ds := by
  induction xs generalizing ds with
  | nil => cases ds with | nil => exact .nil | cons d ds => simp at hl
  | cons x xs ih =>
    cases ds with
    | nil => simp at hl
    | cons d ds => exact .cons (h 0 x d rfl rfl) (ih (by simpa using hl) fun i x d e1 e2 => h (i + 1) x d (by simpa using e1) (by simpa using e2))
theorem Cells.is (c : Cells H0 H D as L) {ds : Nat → List PyData} (h : ∀ v, v < as.length → IsAll (New H0) H (L v) (ds v)) : Is (New H0) H (.ref D) (.list ((List.range as.length).map fun v => .list (ds v))) := by
  refine .lst c.topn c.top (isAll_of (by simp) fun i x d e1 e2 => ?_)
  rw [List.getElem?_map] at e1 e2
  cases e3 : as[i]? with
  | none => rw [e3] at e1; cases e1
  | some a =>
    rw [e3] at e1
    cases e1
    have hi := (List.getElem?_eq_some_iff.mp e3).1
    rw [List.getElem?_range hi] at e2
    cases e2
    exact .lst (c.off a (List.mem_of_getElem? e3)).1 (c.at_ i a e3) (h i hi)
end
/-- a comprehension that makes a new object each turn -/
theorem lc_fresh {J : It} {n : Nat} {GG : Hp → Prop} {Y : Nat → Hp → V → Hp → Prop} {g : TG} {tt : TT} {te : TE} {vs : List Nat} {σ : L2.St} {H1 : Hp} {D : Addr} {Qd : Hp → Prop} (o : HO) (w : Walk J n GG Y)
    (hD : H1 D = none) (hn : n ≤ 90000) (hG : ∀ H, Same H1 H → GG H) (hY : ∀ i H x H', Y i H x H' → Same H H')
    (hs : ∀ i x H H', i < n → Same H1 H → Y i H x H' → ∀ (Kont : V → Hp → Prop) (Skip : Hp → Prop), (∀ p H4, Same H' H4 → H' p = none → H4 p = some o → Kont (.ref p) H4) →
      g x (wipe σ vs) H' fun σ2 H2 => wipe σ2 vs = wipe σ vs ∧ tt σ2 H2 fun b H3 => if b = true then te σ2 H3 Kont else Skip H3)
    (hd : ∀ (H : Hp) (as : List Addr), as.length = n → as.Nodup → Same H1 H → H D = some (.lst (as.map V.ref)) → (∀ a ∈ as, H1 a = none ∧ a ≠ D ∧ H a = some o) → Qd H) :
    ∃ W : Nat → Nat → Hp → Prop, (∃ m, W 0 m (upd H1 D (.lst []))) ∧ ∀ i m H, W i m H →
      (J.stop i H ∧ Qd H) ∨ (J.go i H ∧ ∃ Nx : Hp → Prop, (∀ H', Nx H' → ∃ m', m' < m ∧ W (i + 1) m' H') ∧ ∀ x H', J.yld i H x H' → g x (wipe σ vs) H' fun σ2 H2 => wipe σ2 vs = wipe σ vs ∧ tt σ2 H2 fun b H3 =>
        if b = true then te σ2 H3 fun y H4 => ∃ acc, H4 D = some (.lst acc) ∧ acc.length < sizeLine ∧ Nx (upd H4 D (.lst (acc ++ [y]))) else Nx H3) := by
  refine lc_it w (fun i H => ∃ as : List Addr, H D = some (.lst (as.map V.ref)) ∧ as.length = i ∧ Same H1 H ∧ as.Nodup ∧ ∀ a ∈ as, H1 a = none ∧ a ≠ D ∧ H a = some o) ⟨[], upd_same, rfl, same_upd hD, List.nodup_nil, fun a ha => nomatch ha⟩ (fun i H _ ⟨_, _, _, s, _⟩ => hG H s) ?_ ?_
  · rintro i x H H' hi ⟨as, e, hl, s, nd, r⟩ y
    have s2 := hY i H x H' y
    have eD := s2 _ _ e
    refine hs i x H H' hi s y _ _ fun p H4 s4 hp ho => ?_
    have npD : p ≠ D := fun z => by rw [z, eD] at hp; cases hp
    have npa : p ∉ as := fun z => by
      have := s2 _ _ (r p z).2.2
      rw [hp] at this
      cases this
    refine ⟨_, s4 _ _ eD, smallLt (by rw [List.length_map]; omega), as ++ [p], by rw [upd_same, List.map_append]; rfl, by rw [List.length_append, hl]; rfl, Same.mut (s.trans (s2.trans s4)) hD, ?_, fun a ha => ?_⟩
    · exact nd_snoc nd npa
    · rcases List.mem_append.mp ha with ha | ha
      · obtain ⟨q1, q2, q3⟩ := r a ha
        exact ⟨q1, q2, by rw [upd_ne q2]; exact s4 _ _ (s2 _ _ q3)⟩
      · rw [List.mem_singleton] at ha
        subst ha
        exact ⟨(s.trans s2).free hp, npD, by rw [upd_ne npD]; exact ho⟩
  · rintro H ⟨as, e, hl, s, nd, r⟩
    exact hd H as hl nd s e r
/-! ### sorting numbers -/
theorem sortN {ys : List Int} {M : List Nat} (hp : ys.Perm (M.map fun v : Nat => (v : Int))) (hs : ys.Pairwise (· ≤ ·)) (hn : M.Nodup) : ∃ L : List Nat, ys = L.map (fun v : Nat => (v : Int)) ∧ L.Perm M ∧ L.Pairwise (· < ·) := by
  have e : ys = (ys.map Int.toNat).map (fun v : Nat => (v : Int)) := by
    rw [List.map_map]
    have : ∀ y ∈ ys, ((fun v : Nat => (v : Int)) ∘ Int.toNat) y = y := fun y hy => by
      obtain ⟨v, _, e⟩ := List.mem_map.mp (hp.mem_iff.mp hy)
      show ((y.toNat : Nat) : Int) = y
      omega
    rw [List.map_congr_left this]
    simp
  have hp2 : (ys.map Int.toNat).Perm M := by
    have := hp.map Int.toNat
    rw [List.map_map] at this
    have e2 : M.map (Int.toNat ∘ fun v : Nat => (v : Int)) = M := by
      have : ∀ v ∈ M, (Int.toNat ∘ fun v : Nat => (v : Int)) v = v := fun v _ => by simp
      rw [List.map_congr_left this]
      simp
    rw [e2] at this
    exact this
  refine ⟨ys.map Int.toNat, e, hp2, ?_⟩
  have nd : (ys.map Int.toNat).Nodup := hp2.nodup_iff.mpr hn
  have le : (ys.map Int.toNat).Pairwise (· ≤ ·) := by
    rw [List.pairwise_map]
    refine hs.imp fun {a b} h => ?_
    omega
  exact (le.and nd).imp fun {a b} h => by have := h.1; have := h.2; omega
theorem nv_int (L : List Nat) : (L.map fun v : Nat => (v : Int)).map V.int = L.map nv := by rw [List.map_map]; rfl
end PW
set_option Elab.async false
set_option linter.all false
set_option maxRecDepth 100000
set_option maxHeartbeats 4000000
namespace PW
open PySem PySem.Spec PyProof.Rows L2
/-- a for over any walk that yields l's data in order -/
theorem for_M {α : Type} {J : It} {GG : Hp → Prop} {Y : Nat → Hp → V → Hp → Prop} {g : TG} {tb : TS} {D : Ends} {σ : L2.St} {H : Hp} (l : List α) (w : Walk J l.length GG Y) (Pv : List α → L2.St → Hp → Prop) (h0 : Pv [] σ H) (hG : ∀ d σ H, Pv d σ H → GG H)
    (hs : ∀ d y r i x σ H H', l = d ++ y :: r → i = d.length → Pv d σ H → Y i H x H' → g x σ H' fun σ2 H2 => tb { D with nx := Pv (d ++ [y]), ct := Pv (d ++ [y]), bk := D.nx } σ2 H2) (hd : ∀ σ H, Pv l σ H → D.nx σ H) :
    ∃ W : Nat → Nat → L2.St → Hp → Prop, (∃ m, W 0 m σ H) ∧ ∀ i m σ H, W i m σ H →
      (J.stop i H ∧ D.nx σ H) ∨ (J.go i H ∧ ∃ N : L2.St → Hp → Prop, (∀ σ' H', N σ' H' → ∃ m', m' < m ∧ W (i + 1) m' σ' H') ∧ ∀ x H', J.yld i H x H' → g x σ H' fun σ2 H2 => tb { D with nx := N, ct := N, bk := D.nx } σ2 H2) := by
  refine for_it w (fun i σ H => Pv (l.take i) σ H) h0 (fun i σ H _ p => hG _ σ H p) (fun i x σ H H' hi p y => ?_) (fun σ H p => hd σ H (by rw [List.take_length] at p; exact p))
  have e := hs (l.take i) l[i] (l.drop (i + 1)) i x σ H H' (by rw [← List.drop_eq_getElem_cons hi, List.take_append_drop]) (by rw [List.length_take]; omega) p y
  rw [← List.take_append_getElem hi]
  exact e
theorem for_T {α : Type} {K : PySem.W.Frag} {φ : Addr → Prop} {a : Addr} {xs : List V} {g : TG} {tb : TS} {D : Ends} {σ : L2.St} {H0 H : Hp} (l : List α) (f : α → PyData) (ha : H0 a = some (.tup xs)) (hx : IsAll φ H0 xs (l.map f)) (Pv : List α → L2.St → Hp → Prop) (h0 : Pv [] σ H) (hG : ∀ d σ H, Pv d σ H → Same H0 H)
    (hs : ∀ d y r x σ H, l = d ++ y :: r → Pv d σ H → Is φ H x (f y) → g x σ H fun σ2 H2 => tb { D with nx := Pv (d ++ [y]), ct := Pv (d ++ [y]), bk := D.nx } σ2 H2) (hd : ∀ σ H, Pv l σ H → D.nx σ H) :
    ∃ W : Nat → Nat → L2.St → Hp → Prop, (∃ m, W 0 m σ H) ∧ ∀ i m σ H, W i m σ H →
      ((Itt K a).stop i H ∧ D.nx σ H) ∨ ((Itt K a).go i H ∧ ∃ N : L2.St → Hp → Prop, (∀ σ' H', N σ' H' → ∃ m', m' < m ∧ W (i + 1) m' σ' H') ∧ ∀ x H', (Itt K a).yld i H x H' → g x σ H' fun σ2 H2 => tb { D with nx := N, ct := N, bk := D.nx } σ2 H2) := by
  have el : xs.length = l.length := hx.map_len
  refine for_M l (GG := fun H => SqT K H a xs) (Y := YAt xs) (by rw [← el]; exact walk_tup) Pv h0 (fun d σ H p => SqT.of (hG d σ H p _ _ ha)) (fun d y r i x σ H H' e ei p yy => ?_) hd
  obtain ⟨e1, hxi⟩ := yy
  subst e1
  obtain ⟨y', h1, h2⟩ := hx.map_get hxi
  have : y' = y := by
    subst ei
    rw [e, List.getElem?_append_right (Nat.le_refl _), Nat.sub_self] at h1
    cases h1
    rfl
  subst this
  exact hs d y' r x σ H' e p (h2.same (hG _ _ _ p))
theorem for_L {α : Type} {K : PySem.W.Frag} {φ : Addr → Prop} {a : Addr} {xs : List V} {g : TG} {tb : TS} {D : Ends} {σ : L2.St} {H0 H : Hp} (l : List α) (f : α → PyData) (ha : H0 a = some (.lst xs)) (hx : IsAll φ H0 xs (l.map f)) (Pv : List α → L2.St → Hp → Prop) (h0 : Pv [] σ H) (hG : ∀ d σ H, Pv d σ H → Same H0 H)
    (hs : ∀ d y r x σ H, l = d ++ y :: r → Pv d σ H → Is φ H x (f y) → g x σ H fun σ2 H2 => tb { D with nx := Pv (d ++ [y]), ct := Pv (d ++ [y]), bk := D.nx } σ2 H2) (hd : ∀ σ H, Pv l σ H → D.nx σ H) :
    ∃ W : Nat → Nat → L2.St → Hp → Prop, (∃ m, W 0 m σ H) ∧ ∀ i m σ H, W i m σ H →
      ((Itl K a).stop i H ∧ D.nx σ H) ∨ ((Itl K a).go i H ∧ ∃ N : L2.St → Hp → Prop, (∀ σ' H', N σ' H' → ∃ m', m' < m ∧ W (i + 1) m' σ' H') ∧ ∀ x H', (Itl K a).yld i H x H' → g x σ H' fun σ2 H2 => tb { D with nx := N, ct := N, bk := D.nx } σ2 H2) := by
  have el : xs.length = l.length := hx.map_len
  refine for_M l (GG := fun H => SqL K H a xs) (Y := YAt xs) (by rw [← el]; exact walk_list) Pv h0 (fun d σ H p => SqL.of (hG d σ H p _ _ ha)) (fun d y r i x σ H H' e ei p yy => ?_) hd
  obtain ⟨e1, hxi⟩ := yy
  subst e1
  obtain ⟨y', h1, h2⟩ := hx.map_get hxi
  have : y' = y := by
    subst ei
    rw [e, List.getElem?_append_right (Nat.le_refl _), Nat.sub_self] at h1
    cases h1
    rfl
  subst this
  exact hs d y' r x σ H' e p (h2.same (hG _ _ _ p))
/-- over a range from nought -/
theorem for_R {n : Nat} {g : TG} {tb : TS} {D : Ends} {σ : L2.St} {H : Hp} (Pv : Nat → L2.St → Hp → Prop) (h0 : Pv 0 σ H)
    (hs : ∀ i σ H, i < n → Pv i σ H → g (nv i) σ H fun σ2 H2 => tb { D with nx := Pv (i + 1), ct := Pv (i + 1), bk := D.nx } σ2 H2) (hd : ∀ σ H, Pv n σ H → D.nx σ H) :
    ∃ W : Nat → Nat → L2.St → Hp → Prop, (∃ m, W 0 m σ H) ∧ ∀ i m σ H, W i m σ H →
      ((Itr 0 n).stop i H ∧ D.nx σ H) ∨ ((Itr 0 n).go i H ∧ ∃ N : L2.St → Hp → Prop, (∀ σ' H', N σ' H' → ∃ m', m' < m ∧ W (i + 1) m' σ' H') ∧ ∀ x H', (Itr 0 n).yld i H x H' → g x σ H' fun σ2 H2 => tb { D with nx := N, ct := N, bk := D.nx } σ2 H2) :=
  for_range Pv h0 (fun i σ H hi p => by rw [Int.zero_add]; exact hs i σ H hi p) hd
/-- an index into a mapped list -/
theorem at_map {α : Type} {f : α → V} {l : List α} {i : Nat} {x : α} (h : l[i]? = some x) : atI (l.map f) (i : Int) = some (f x) := atI_nat (by rw [List.getElem?_map, h]; rfl)
/-- append on a list we own -/
theorem list_ty {K : PySem.W.Frag} {H : Hp} {a : Addr} {xs : List V} (h : H a = some (.lst xs)) : tyV K "list" (.ref a) H := .inl ⟨rfl, _, SqL.of h⟩
theorem dict_ty {K : PySem.W.Frag} {H : Hp} {a : Addr} {kvs : List (Key × V)} (h : H a = some (.dK kvs)) : tyV K "dict" (.ref a) H := .inr (.inr (.inl ⟨rfl, .inl ⟨_, h⟩⟩))
end PW
namespace L2
theorem Same.mut {H H' : Hp} {p : PySem.Addr} {o : HO} (e : Same H H') (h : H p = none) : Same H (upd H' p o) := PW.Same.mut e h
end L2
set_option Elab.async false
set_option linter.all false
set_option maxRecDepth 100000
set_option maxHeartbeats 4000000
namespace PW
open PySem PySem.Spec PyProof.Rows L2
abbrev nk (n : Nat) : Key := Sum.inl (n : Int)
theorem nk_inj {a b : Nat} (h : nk a = nk b) : a = b := by have := Sum.inl.inj h; omega
/-- a dict with places for keys -/
def mapD (M : List Nat) (f : Nat → V) : List (Key × V) := M.map fun v => (nk v, f v)
theorem mapD_len (M : List Nat) (f : Nat → V) : (mapD M f).length = M.length := List.length_map _
theorem mapD_keys (M : List Nat) (f : Nat → V) : (mapD M f).map (·.1) = (M.map fun v : Nat => (v : Int)).map Sum.inl := by
  unfold mapD
  rw [List.map_map, List.map_map]
  rfl
theorem mapD_val (M : List Nat) (f : Nat → V) (v : Nat) : valV (mapD M f) (nk v) = if v ∈ M then some (f v) else none := by
  induction M with
  | nil => rfl
  | cons x M ih =>
    show valV ((nk x, f x) :: mapD M f) (nk v) = _
    by_cases e : x = v
    · subst e
      rw [valV_pos rfl, if_pos (List.mem_cons_self ..)]
    · rw [valV_neg (fun h => e (nk_inj h)), ih]
      have : v ∈ x :: M ↔ v ∈ M := by
        rw [List.mem_cons]
        exact ⟨fun h => h.resolve_left fun q => e q.symm, .inr⟩
      by_cases h : v ∈ M
      · rw [if_pos h, if_pos (this.mpr h)]
      · rw [if_neg h, if_neg (fun q => h (this.mp q))]
theorem mapD_has (M : List Nat) (f : Nat → V) (v : Nat) : (valV (mapD M f) (nk v)).isSome = decide (v ∈ M) := by
  rw [mapD_val]
  by_cases h : v ∈ M
  · rw [if_pos h]; simp [h]
  · rw [if_neg h]; simp [h]
theorem mapD_congr {M : List Nat} {f g : Nat → V} (h : ∀ v ∈ M, f v = g v) : mapD M f = mapD M g := by
  unfold mapD
  exact List.map_congr_left fun v hv => by rw [h v hv]
theorem mapD_new {M : List Nat} {f : Nat → V} {v : Nat} (x : V) (h : v ∉ M) : putK (mapD M f) (nk v) x = mapD (M ++ [v]) fun u => if u = v then x else f u := by
  rw [putK_new x (by rw [mapD_val, if_neg h])]
  unfold mapD
  have e0 : (fun u => if u = v then x else f u) v = x := if_pos rfl
  rw [List.map_append, List.map_singleton, e0]
  congr 1
  exact List.map_congr_left fun u hu => by
    show _ = (nk u, if u = v then x else f u)
    rw [if_neg (fun e : u = v => h (by rw [← e]; exact hu))]
theorem mapD_old {M : List Nat} {f : Nat → V} {v : Nat} (x : V) (h : v ∈ M) : putK (mapD M f) (nk v) x = mapD M fun u => if u = v then x else f u := by
  unfold putK
  rw [if_pos (by rw [valV_any, mapD_has]; exact decide_eq_true h)]
  unfold mapD
  rw [List.map_map]
  refine List.map_congr_left fun u _ => ?_
  show (if nk u = nk v then (nk u, x) else (nk u, f u)) = (nk u, if u = v then x else f u)
  by_cases e : u = v
  · rw [if_pos (by rw [e]), if_pos e]
  · rw [if_neg (fun q => e (nk_inj q)), if_neg e]
theorem mapD_merge : ∀ (l : List Nat) (M : List Nat) (f g : Nat → V), M.Nodup → ∃ M' f', mergeK (mapD M f) (l.map fun v => (nk v, g v)) = mapD M' f' ∧ M'.Nodup ∧ (∀ v, v ∈ M' ↔ v ∈ M ∨ v ∈ l) ∧ ∀ v, f' v = if v ∈ l then g v else f v
  | [], M, f, g, hM => ⟨M, f, rfl, hM, by simp, by simp⟩
  | x :: l, M, f, g, hM => by
    show ∃ M' f', mergeK (putK (mapD M f) (nk x) (g x)) (l.map fun v => (nk v, g v)) = mapD M' f' ∧ _
    by_cases h : x ∈ M
    · rw [mapD_old _ h]
      obtain ⟨M', f', e, n, a, b⟩ := mapD_merge l M (fun u => if u = x then g x else f u) g hM
      refine ⟨M', f', e, n, fun v => ?_, fun v => ?_⟩
      · rw [a, List.mem_cons]
        constructor
        · rintro (q | q)
          · exact .inl q
          · exact .inr (.inr q)
        · rintro (q | q | q)
          · exact .inl q
          · exact .inl (q ▸ h)
          · exact .inr q
      · rw [b]
        by_cases q : v ∈ l
        · rw [if_pos q, if_pos (List.mem_cons_of_mem _ q)]
        · rw [if_neg q]
          by_cases z : v = x
          · subst z; simp
          · rw [if_neg z, if_neg (by simp [z, q])]
    · rw [mapD_new _ h]
      obtain ⟨M', f', e, n, a, b⟩ := mapD_merge l (M ++ [x]) (fun u => if u = x then g x else f u) g (nd_snoc hM h)
      refine ⟨M', f', e, n, fun v => ?_, fun v => ?_⟩
      · rw [a, List.mem_cons, List.mem_append, List.mem_singleton, or_assoc]
      · rw [b]
        by_cases q : v ∈ l
        · rw [if_pos q, if_pos (List.mem_cons_of_mem _ q)]
        · rw [if_neg q]
          by_cases z : v = x
          · subst z; simp
          · rw [if_neg z, if_neg (by simp [z, q])]
theorem mapD_mergeN : ∀ (l : List Nat) (M : List Nat) (g : Nat → V), (M ++ l).Nodup → mergeK (mapD M g) (l.map fun v => (nk v, g v)) = mapD (M ++ l) g
  | [], M, g, _ => by rw [List.append_nil]; rfl
  | x :: l, M, g, h => by
    show mergeK (putK (mapD M g) (nk x) (g x)) (l.map fun v => (nk v, g v)) = _
    have hx : x ∉ M := by
      rw [List.nodup_append] at h
      intro q
      exact h.2.2 x q x (List.mem_cons_self ..) rfl
    rw [mapD_new _ hx]
    have e : mapD (M ++ [x]) (fun u => if u = x then g x else g u) = mapD (M ++ [x]) g := mapD_congr fun v _ => by split <;> simp_all
    rw [e, mapD_mergeN l (M ++ [x]) g (by rw [List.append_assoc]; exact h), List.append_assoc]
    rfl
theorem mapD_merge0 (l : List Nat) (g : Nat → V) (h : l.Nodup) : mergeK [] (l.map fun v => (nk v, g v)) = mapD l g := mapD_mergeN l [] g (by simpa using h)
theorem mapD_get {M : List Nat} {f : Nat → V} {v : Nat} {H : Hp} {a : Addr} (e : H a = some (.dK (mapD M f))) (h : v ∈ M) : DGet H a (nv v) (some (f v)) := by
  have := DGet.k (k := nk v) e
  rw [mapD_val, if_pos h] at this
  exact this
theorem mapD_getO {M : List Nat} {f : Nat → V} (v : Nat) {H : Hp} {a : Addr} (e : H a = some (.dK (mapD M f))) : DGet H a (nv v) (if v ∈ M then some (f v) else none) := by
  have := DGet.k (k := nk v) e
  rw [mapD_val] at this
  exact this
theorem mapD_in {M : List Nat} {v : Nat} (x : V) : (if v ∈ M then some x else none).isSome = decide (v ∈ M) := by
  by_cases h : v ∈ M
  · rw [if_pos h]; simp [h]
  · rw [if_neg h]; simp [h]
theorem mapD_notin {M : List Nat} {v : Nat} (x : V) : (!(if v ∈ M then some x else none).isSome) = decide (v ∉ M) := by
  rw [mapD_in, decide_not]
/-- a list of pairs, as dict reads it -/
theorem pairsK_is {φ : Addr → Prop} {H : Hp} {K : PySem.W.Frag} {α : Type} (key : α → Nat) (val : α → V) (vd : α → PyData) : ∀ {l : List α} {xs : List V}, (∀ a ∈ l, ∀ x, Is φ H x (vd a) → x = val a) → IsAll φ H xs (l.map fun a => .tuple [natD (key a), vd a]) →
    ∃ ps : List Addr, xs = ps.map V.ref ∧ Paired (fun p kv => SqT K H p [kV kv.1, kv.2]) ps (l.map fun a => (nk (key a), val a))
  | [], _, _, h => by cases h; exact ⟨[], rfl, .nil⟩
  | a :: l, _, hv, h => by
    rw [List.map_cons] at h
    cases h with
    | cons h1 h2 =>
      obtain ⟨ps, e1, e2⟩ := pairsK_is key val vd (fun b hb => hv b (List.mem_cons_of_mem _ hb)) h2
      cases h1 with
      | tup t1 t2 =>
        cases t2 with
        | cons a1 a2 =>
          cases a2 with
          | cons b1 b2 =>
            cases b2
            cases a1
            rw [hv a (List.mem_cons_self ..) _ b1] at t1
            exact ⟨_ :: ps, by rw [e1]; rfl, .cons (SqT.of t1) e2⟩
/-- the list of pairs that stands before dict's eyes -/
theorem dictP_is {φ : Addr → Prop} {H : Hp} {K : PySem.W.Frag} {α : Type} {l : List α} {key : α → Nat} (val : α → V) (vd : α → PyData) {v : V} (h : Is φ H v (.list (l.map fun a => .tuple [natD (key a), vd a]))) (hv : ∀ a ∈ l, ∀ x, Is φ H x (vd a) → x = val a) :
    ∃ (a : Addr) (ps : List Addr), v = .ref a ∧ SqL K H a (ps.map V.ref) ∧ Paired (fun p kv => SqT K H p [kV kv.1, kv.2]) ps (l.map fun a => (nk (key a), val a)) := by
  obtain ⟨a, ys, e, _, hys, hyy⟩ := is_list h
  subst e
  obtain ⟨ps, e1, e2⟩ := pairsK_is (K := K) key val vd hv hyy
  subst e1
  exact ⟨a, ps, rfl, SqL.of hys, e2⟩
/-- sorted(a dict of places) -/
theorem sortedD_of {H : Hp} {a : Addr} {M : List Nat} {f : Nat → V} {Q : VK} (e : H a = some (.dK (mapD M f))) (hM : M.Nodup) (hn : M.length < 64) (q : ∀ (L : List Nat) (p : Addr), L.Perm M → L.Pairwise (· < ·) → H p = none → Q (.ref p) (upd H p (.lst (L.map nv)))) : qSortedDI [.ref a] H Q := by
  refine ⟨a, _, M.map fun v : Nat => (v : Int), rfl, .inl e, mapD_keys M f, by rw [List.length_map]; exact hn, fun ys p h1 h2 hp => ?_⟩
  obtain ⟨L, rfl, h3, h4⟩ := sortN h1 h2 hM
  rw [nv_int]
  exact q L p h3 h4 hp
end PW
set_option Elab.async false
set_option linter.all false
set_option maxRecDepth 100000
set_option maxHeartbeats 4000000
namespace PW
open PySem PySem.Spec PyProof.Rows L2
/-! a heap but for one place: what a loop that changes that place keeps -/
def del (H : Hp) (p : Addr) : Hp := fun b => if b = p then none else H b
section
variable {φ : Addr → Prop} {H H' : Hp} {p : Addr}
theorem del_self : del H p p = none := if_pos rfl
theorem del_ne {a : Addr} (h : a ≠ p) : del H p a = H a := if_neg h
theorem del_same : Same (del H p) H := fun a o h => by
  by_cases e : a = p
  · subst e; rw [del_self] at h; cases h
  · rw [del_ne e] at h; exact h
theorem same_del {o : HO} (s : Same H H') (h : H p = none) : Same H (del H' p) := fun a o ha => by
  rw [del_ne (ne_of_none ha h)]
  exact s a o ha
theorem del_get {a : Addr} {o : HO} (h : H a = some o) (e : a ≠ p) : del H p a = some o := by rw [del_ne e]; exact h
theorem del_upd {o : HO} : Same (del H p) (upd H p o) := fun a u h => by
  by_cases e : a = p
  · subst e; rw [del_self] at h; cases h
  · rw [upd_ne e]; rw [del_ne e] at h; exact h
mutual
theorem Is.del (hp : ∀ a, φ a → a ≠ p) (ht : ∀ xs, H p ≠ some (.tup xs)) : ∀ {d : PyData} {v : V}, Is φ H v d → Is φ (del H p) v d
  | .none, _, h => by cases h; exact .non
  | .bool b, _, h => by cases h; exact .bl b
  | .int i, _, h => by cases h; exact .int i
  | .list ds, _, h => by
    cases h with
    | lst h0 h1 h2 => exact .lst h0 (by rw [del_ne (hp _ h0)]; exact h1) (IsAll.del hp ht h2)
  | .tuple ds, _, h => by
    cases h with
    | tup h1 h2 => exact .tup (by rw [del_ne (fun e => ht _ (by rw [← e]; exact h1))]; exact h1) (IsAll.del hp ht h2)
  | .str _, _, h => by cases h
  | .dict _, _, h => by cases h
theorem IsAll.del (hp : ∀ a, φ a → a ≠ p) (ht : ∀ xs, H p ≠ some (.tup xs)) : ∀ {ds : List PyData} {vs : List V}, IsAll φ H vs ds → IsAll φ (del H p) vs ds
  | [], _, h => by cases h; exact .nil
  | d :: ds, _, h => by
    cases h with
    | cons h1 h2 => exact .cons (Is.del hp ht h1) (IsAll.del hp ht h2)
end
end
theorem New.ne {H : Hp} {a p : Addr} {o : HO} (h : New H a) (hp : H p = some o) : a ≠ p := fun e => by
  rw [e] at h
  rw [show H p = none from h] at hp
  cases hp
theorem not_tup {H : Hp} {p : Addr} {ys : List V} (h : H p = some (.lst ys)) : ∀ xs, H p ≠ some (.tup xs) := fun xs q => by rw [h] at q; cases q
theorem not_tupD {H : Hp} {p : Addr} {kvs : List (Key × V)} (h : H p = some (.dK kvs)) : ∀ xs, H p ≠ some (.tup xs) := fun xs q => by rw [h] at q; cases q
theorem perm_map_ex {α β : Type} {f : α → β} {zs : List α} : ∀ {l : List β}, l.Perm (zs.map f) → ∃ zs' : List α, zs'.Perm zs ∧ zs'.map f = l := by
  intro l h
  generalize e : zs.map f = m at h
  induction h generalizing zs with
  | nil => exact ⟨zs, List.Perm.refl _, e⟩
  | cons x _ ih =>
    cases zs with
    | nil => cases e
    | cons z zs =>
      cases e
      obtain ⟨zs', h1, h2⟩ := ih rfl
      exact ⟨z :: zs', h1.cons z, by rw [List.map_cons, h2]⟩
  | swap x y l =>
    match zs, e with
    | a :: b :: zs, e =>
      cases e
      exact ⟨b :: a :: zs, List.Perm.swap _ _ _, rfl⟩
  | trans _ _ h1 h2 =>
    obtain ⟨z2, p2, e2⟩ := h2 e
    obtain ⟨z1, p1, e1⟩ := h1 e2
    exact ⟨z1, p1.trans p2, e1⟩
theorem getD_set {l : List Nat} {i v x : Nat} (h : v < l.length) : (l.set i x).getD v 0 = if v = i then x else l.getD v 0 := by
  rw [List.getD_eq_getElem?_getD, List.getD_eq_getElem?_getD, List.getElem?_set]
  by_cases e : i = v
  · subst e
    rw [if_pos rfl, if_pos h, if_pos rfl]
    rfl
  · rw [if_neg e, if_neg (Ne.symm e)]
theorem walk_zipx {K : PySem.W.Frag} {a b : Addr} {xs ys : List V} (ka kb : Bool) (hl : ys.length = xs.length) : Walk (Itx ka kb K a b) xs.length (fun H => SqB ka K H a xs ∧ SqB kb K H b ys) (YPair (fun i => xs[i]?) (fun i => ys[i]?)) := by
  refine ⟨fun i H hi q => ⟨xs, ys, xs[i], ys[i]'(by omega), q.1, q.2, by simp, by simp⟩, fun H q => ⟨xs, ys, q.1, q.2, rfl, hl⟩, fun i H v H' _ q y => ?_⟩
  obtain ⟨T, x, y, h1, h2, h3, h4, h5⟩ := y
  exact ⟨T, x, y, h1, h2, h3, h4 _ q.1, h5 _ q.2⟩
theorem walk_enumT {K : PySem.W.Frag} {a : Addr} {xs : List V} : Walk (IteT K a) xs.length (fun H => SqT K H a xs) (YPair (fun i => some (.int (i : Nat))) (fun i => xs[i]?)) := by
  refine ⟨fun i _ hi q => ⟨xs, xs[i], q, by simp [hi]⟩, fun _ q => ⟨xs, q, rfl⟩, fun i H v H' _ q y => ?_⟩
  obtain ⟨T, x, h1, h2, h3, h4⟩ := y
  exact ⟨T, .int (i : Nat), x, h1, h2, h3, rfl, h4 xs q⟩
theorem ixN_at {n j : Nat} (hj : j < n) : ixN n (j : Int) = some j := by
  unfold ixN
  rw [if_pos (by omega), if_pos (by omega)]
  simp
theorem ix_set {l : List Nat} {i : Nat} (h : i < l.length) : ixN (l.map nv).length (i : Int) = some i := ixN_at (by rw [List.length_map]; exact h)
end PW
set_option Elab.async false
set_option linter.all false
set_option maxRecDepth 100000
set_option maxHeartbeats 4000000
namespace PW
open PySem PySem.Spec PyProof.Rows L2
/-- a comprehension whose items are told by a relation -/
theorem lc_X {α : Type} {J : It} {GG : Hp → Prop} {Y : Nat → Hp → V → Hp → Prop} {g : TG} {tt : TT} {te : TE} {vs : List Nat} {σ : L2.St} {H1 : Hp} {D : Addr} {Qd : Hp → Prop} (l : List α) (Rel : α → PyData → Prop) (w : Walk J l.length GG Y)
    (hD : H1 D = none) (hn : l.length ≤ 90000) (hG : ∀ H, Same H1 H → GG H) (hY : ∀ i H x H', Y i H x H' → Same H H')
    (hs : ∀ i x y H H', l[i]? = some y → Same H1 H → Y i H x H' → ∀ (Kont : V → Hp → Prop) (Skip : Hp → Prop), (∀ z H4 d, Same H' H4 → Rel y d → Is (New H') H4 z d → Kont z H4) →
      g x (wipe σ vs) H' fun σ2 H2 => wipe σ2 vs = wipe σ vs ∧ tt σ2 H2 fun b H3 => if b = true then te σ2 H3 Kont else Skip H3)
    (hd : ∀ (H : Hp) (zs : List (α × PyData)), Same H1 H → zs.map Prod.fst = l → (∀ z ∈ zs, Rel z.1 z.2) → Is (New H1) H (.ref D) (.list (zs.map Prod.snd)) → Qd H) :
    ∃ W : Nat → Nat → Hp → Prop, (∃ m, W 0 m (upd H1 D (.lst []))) ∧ ∀ i m H, W i m H →
      (J.stop i H ∧ Qd H) ∨ (J.go i H ∧ ∃ Nx : Hp → Prop, (∀ H', Nx H' → ∃ m', m' < m ∧ W (i + 1) m' H') ∧ ∀ x H', J.yld i H x H' → g x (wipe σ vs) H' fun σ2 H2 => wipe σ2 vs = wipe σ vs ∧ tt σ2 H2 fun b H3 =>
        if b = true then te σ2 H3 fun y H4 => ∃ acc, H4 D = some (.lst acc) ∧ acc.length < sizeLine ∧ Nx (upd H4 D (.lst (acc ++ [y]))) else Nx H3) := by
  refine lc_it w (fun i H => ∃ (acc : List V) (zs : List (α × PyData)), H D = some (.lst acc) ∧ acc.length ≤ i ∧ Same H1 H ∧ zs.map Prod.fst = l.take i ∧ (∀ z ∈ zs, Rel z.1 z.2) ∧ IsAll (fun a => H1 a = none ∧ a ≠ D) H acc (zs.map Prod.snd)) ⟨[], [], upd_same, Nat.le_refl _, same_upd hD, rfl, by simp, .nil⟩ (fun i H _ ⟨_, _, _, _, s, _⟩ => hG H s) ?_ ?_
  · rintro i x H H' hi ⟨acc, zs, e, hl, s, ez, rz, r⟩ y
    obtain ⟨yy, hy⟩ : ∃ yy, l[i]? = some yy := ⟨l[i], List.getElem?_eq_getElem hi⟩
    have s2 := hY i H x H' y
    have eD : H' D = some (.lst acc) := s2 _ _ e
    refine hs i x yy H H' hy s y _ _ (fun z H4 d s4 hg hz => ⟨acc, s4 _ _ eD, smallLt (by omega), acc ++ [z], zs ++ [(yy, d)], upd_same, by rw [List.length_append]; show _ + 1 ≤ _; omega, Same.mut (s.trans (s2.trans s4)) hD, ?_, ?_, ?_⟩)
    · rw [List.map_append, List.take_add_one, hy, ez]
      rfl
    · intro q hq
      rcases List.mem_append.mp hq with h | h
      · exact rz q h
      · rw [List.mem_singleton] at h
        subst h
        exact hg
    · have t : ∀ xs, H4 D ≠ some (.tup xs) := fun xs q => by rw [s4 _ _ eD] at q; cases q
      rw [List.map_append]
      refine IsAll.snoc (((r.same s2).same s4).upd (fun a q => q.2) t) (Is.upd (fun a q => q.2) t (hz.imp fun a q => ⟨?_, fun ea => ?_⟩))
      · exact (s.trans s2).free q
      · subst ea
        rw [show H' a = none from q] at eD
        cases eD
  · rintro H ⟨acc, zs, e, hl, s, ez, rz, r⟩
    rw [List.take_length] at ez
    exact hd H zs s ez rz (.lst hD e (r.imp fun a q => q.1))
/-- a comprehension of any values -/
theorem lc_V {n : Nat} {J : It} {GG : Hp → Prop} {Y : Nat → Hp → V → Hp → Prop} {g : TG} {tt : TT} {te : TE} {vs : List Nat} {σ : L2.St} {H1 : Hp} {D : Addr} {Qd : Hp → Prop} (w : Walk J n GG Y)
    (hD : H1 D = none) (hn : n ≤ 90000) (hG : ∀ H, Same H1 H → GG H) (hY : ∀ i H x H', Y i H x H' → Same H H')
    (hs : ∀ i x H H', i < n → Same H1 H → Y i H x H' → ∀ (Kont : V → Hp → Prop) (Skip : Hp → Prop), (∀ z H4, Same H' H4 → Kont z H4) →
      g x (wipe σ vs) H' fun σ2 H2 => wipe σ2 vs = wipe σ vs ∧ tt σ2 H2 fun b H3 => if b = true then te σ2 H3 Kont else Skip H3)
    (hd : ∀ (H : Hp) (zs : List V), Same H1 H → H D = some (.lst zs) → Qd H) :
    ∃ W : Nat → Nat → Hp → Prop, (∃ m, W 0 m (upd H1 D (.lst []))) ∧ ∀ i m H, W i m H →
      (J.stop i H ∧ Qd H) ∨ (J.go i H ∧ ∃ Nx : Hp → Prop, (∀ H', Nx H' → ∃ m', m' < m ∧ W (i + 1) m' H') ∧ ∀ x H', J.yld i H x H' → g x (wipe σ vs) H' fun σ2 H2 => wipe σ2 vs = wipe σ vs ∧ tt σ2 H2 fun b H3 =>
        if b = true then te σ2 H3 fun y H4 => ∃ acc, H4 D = some (.lst acc) ∧ acc.length < sizeLine ∧ Nx (upd H4 D (.lst (acc ++ [y]))) else Nx H3) := by
  refine lc_it w (fun i H => ∃ acc : List V, H D = some (.lst acc) ∧ acc.length ≤ i ∧ Same H1 H) ⟨[], upd_same, Nat.le_refl _, same_upd hD⟩ (fun i H _ ⟨_, _, _, s⟩ => hG H s) ?_ ?_
  · rintro i x H H' hi ⟨acc, e, hl, s⟩ y
    have s2 := hY i H x H' y
    have eD : H' D = some (.lst acc) := s2 _ _ e
    exact hs i x H H' hi s y _ _ (fun z H4 s4 => ⟨acc, s4 _ _ eD, smallLt (by omega), acc ++ [z], upd_same, by rw [List.length_append]; show _ + 1 ≤ _; omega, Same.mut (s.trans (s2.trans s4)) hD⟩)
  · rintro H ⟨acc, e, hl, s⟩
    exact hd H acc s e
/-- objects of our own in a list -/
structure CellsO (H0 H : Hp) (D : Addr) (as : List Addr) (L : Nat → HO) : Prop where
  top : H D = some (.lst (as.map V.ref))
  topn : H0 D = none
  nd : as.Nodup
  off : ∀ a ∈ as, H0 a = none ∧ a ≠ D
  at_ : ∀ v a, as[v]? = some a → H a = some (L v)
section
variable {H0 H H' : Hp} {D : Addr} {as : List Addr} {L : Nat → HO}
theorem CellsO.same (c : CellsO H0 H D as L) (s : Same H H') : CellsO H0 H' D as L := ⟨s _ _ c.top, c.topn, c.nd, c.off, fun v a e => s _ _ (c.at_ v a e)⟩
theorem CellsO.get (c : CellsO H0 H D as L) {v : Nat} (h : v < as.length) : ∃ a, as[v]? = some a ∧ H a = some (L v) := by
  obtain ⟨a, e⟩ : ∃ a, as[v]? = some a := ⟨as[v], List.getElem?_eq_getElem h⟩
  exact ⟨a, e, c.at_ v a e⟩
theorem CellsO.put (c : CellsO H0 H D as L) {v : Nat} {a : Addr} {ys : HO} (h : as[v]? = some a) : CellsO H0 (upd H a ys) D as (fun u => if u = v then ys else L u) := by
  have ha := c.off a (List.mem_of_getElem? h)
  refine ⟨by rw [upd_ne (Ne.symm ha.2)]; exact c.top, c.topn, c.nd, c.off, fun u b e => ?_⟩
  by_cases hu : u = v
  · subst hu
    rw [h] at e
    cases e
    rw [upd_same, if_pos rfl]
  · have nb : b ≠ a := fun z => hu (nd_at c.nd (z ▸ e) h)
    rw [upd_ne nb, if_neg hu]
    exact c.at_ u b e
theorem CellsO.congr (c : CellsO H0 H D as L) {L' : Nat → HO} (h : ∀ v, v < as.length → L v = L' v) : CellsO H0 H D as L' :=
  ⟨c.top, c.topn, c.nd, c.off, fun v a e => by rw [← h v (List.getElem?_eq_some_iff.mp e).1]; exact c.at_ v a e⟩
end
end PW
set_option linter.all false
namespace PW
/-! the rows: owners by number, in an order of places -/
def aheadL (ts : List Tie) (O : List Nat) (j : Nat) : List (Nat × Int) := ts.filterMap fun t => if t.1 ∈ O ∧ t.2.1 ∈ O ∧ max (O.idxOf t.1) (O.idxOf t.2.1) = j then some (min (O.idxOf t.1) (O.idxOf t.2.1), t.2.2) else none
def putW (ts : List Tie) (O row : List Nat) (k : Nat) : Int := (((aheadL ts O row.length).filter fun p => row.getD p.1 0 != k).map fun p => p.2).sum
def rc (ts : List Tie) (O row : List Nat) : Int := wsum ts fun a b => decide (a ∈ O) && decide (b ∈ O) && decide (max (O.idxOf a) (O.idxOf b) < row.length) && (row.getD (O.idxOf a) 0 != row.getD (O.idxOf b) 0)
theorem aheadL_snoc (ts : List Tie) (t : Tie) (O : List Nat) (j : Nat) : aheadL (ts ++ [t]) O j = aheadL ts O j ++ if t.1 ∈ O ∧ t.2.1 ∈ O ∧ max (O.idxOf t.1) (O.idxOf t.2.1) = j then [(min (O.idxOf t.1) (O.idxOf t.2.1), t.2.2)] else [] := by
  unfold aheadL
  rw [List.filterMap_append]
  congr 1
  rw [List.filterMap_cons]
  by_cases h : t.1 ∈ O ∧ t.2.1 ∈ O ∧ max (O.idxOf t.1) (O.idxOf t.2.1) = j
  · rw [if_pos h, if_pos h]; rfl
  · rw [if_neg h, if_neg h]; rfl
theorem aheadL_len (ts : List Tie) (O : List Nat) (j : Nat) : (aheadL ts O j).length ≤ ts.length := List.length_filterMap_le ..
theorem get_idx {O : List Nat} {a : Nat} (h : a ∈ O) : O[O.idxOf a]? = some a := by
  rw [List.getElem?_eq_getElem (List.idxOf_lt_length_of_mem h), List.getElem_idxOf]
theorem idx_inj {O : List Nat} {a b : Nat} (h1 : a ∈ O) (h2 : b ∈ O) (e : O.idxOf a = O.idxOf b) : a = b := by
  have := get_idx h1
  rw [e, get_idx h2] at this
  cases this
  rfl
theorem aheadL_lt {ts : List Tie} {O : List Nat} {j : Nat} (hne : ∀ t ∈ ts, t.1 ≠ t.2.1) : ∀ p ∈ aheadL ts O j, p.1 < j := by
  intro p hp
  unfold aheadL at hp
  obtain ⟨t, ht, e⟩ := List.mem_filterMap.mp hp
  split at e
  · rename_i h
    cases e
    have hn := hne t ht
    have hi : O.idxOf t.1 ≠ O.idxOf t.2.1 := fun e => hn (idx_inj h.1 h.2.1 e)
    have := h.2.2
    show min (O.idxOf t.1) (O.idxOf t.2.1) < j
    omega
  · cases e
theorem putW_eq (ts : List Tie) (O row : List Nat) (k : Nat) : putW ts O row k = wsum ts fun a b => decide (a ∈ O) && decide (b ∈ O) && decide (max (O.idxOf a) (O.idxOf b) = row.length) && (row.getD (min (O.idxOf a) (O.idxOf b)) 0 != k) := by
  unfold putW aheadL
  induction ts with
  | nil => rfl
  | cons t ts ih =>
    rw [wsum_cons, ← ih, List.filterMap_cons]
    by_cases h : t.1 ∈ O ∧ t.2.1 ∈ O ∧ max (O.idxOf t.1) (O.idxOf t.2.1) = row.length
    · rw [if_pos h]
      obtain ⟨h1, h2, h3⟩ := h
      rw [decide_eq_true h1, decide_eq_true h2, decide_eq_true h3]
      rw [Bool.true_and, Bool.true_and, Bool.true_and, List.filter_cons]
      show (List.map _ (if (row.getD (min (O.idxOf t.1) (O.idxOf t.2.1)) 0 != k) = true then _ else _)).sum = _
      by_cases h4 : (row.getD (min (O.idxOf t.1) (O.idxOf t.2.1)) 0 != k) = true
      · rw [if_pos h4, if_pos h4, List.map_cons, List.sum_cons]
      · rw [if_neg h4, if_neg h4]; omega
    · rw [if_neg h, if_neg]
      · rw [Int.zero_add]
      · intro q
        simp only [Bool.and_eq_true, decide_eq_true_eq] at q
        exact h ⟨q.1.1.1, q.1.1.2, q.1.2⟩
theorem getD_snoc_lt {l : List Nat} {x i : Nat} (h : i < l.length) : (l ++ [x]).getD i 0 = l.getD i 0 := by
  rw [List.getD_eq_getElem?_getD, List.getD_eq_getElem?_getD, List.getElem?_append_left h]
theorem getD_snoc_eq {l : List Nat} {x : Nat} : (l ++ [x]).getD l.length 0 = x := by
  rw [List.getD_eq_getElem?_getD, List.getElem?_append_right (Nat.le_refl _), Nat.sub_self]
  rfl
theorem rc_snoc {ts : List Tie} {O : List Nat} (hne : ∀ t ∈ ts, t.1 ≠ t.2.1) (row : List Nat) (k : Nat) : rc ts O (row ++ [k]) = rc ts O row + putW ts O row k := by
  rw [putW_eq]
  unfold rc
  rw [← wsum_or]
  · refine wsum_congr fun t ht => ?_
    by_cases h1 : t.1 ∈ O
    · by_cases h2 : t.2.1 ∈ O
      · rw [decide_eq_true h1, decide_eq_true h2]
        simp only [Bool.true_and]
        have hi : O.idxOf t.1 ≠ O.idxOf t.2.1 := fun e => hne t ht (idx_inj h1 h2 e)
        revert hi
        generalize O.idxOf t.1 = i
        generalize O.idxOf t.2.1 = j
        intro hi
        rw [List.length_append, List.length_singleton]
        by_cases h3 : max i j < row.length
        · rw [decide_eq_true h3, decide_eq_true (show max i j < row.length + 1 by omega), decide_eq_false (show ¬ max i j = row.length by omega), getD_snoc_lt (by omega), getD_snoc_lt (by omega)]
          simp
        · rw [decide_eq_false h3]
          by_cases h4 : max i j = row.length
          · rw [decide_eq_true h4, decide_eq_true (show max i j < row.length + 1 by omega)]
            simp only [Bool.true_and, Bool.false_and, Bool.false_or]
            by_cases h5 : i < j
            · rw [show min i j = i by omega, show j = row.length by omega, getD_snoc_eq, getD_snoc_lt (by omega)]
            · rw [show min i j = j by omega, show i = row.length by omega, getD_snoc_eq, getD_snoc_lt (by omega), bne_comm]
          · rw [decide_eq_false h4, decide_eq_false (show ¬ max i j < row.length + 1 by omega)]
            simp
      · rw [decide_eq_false h2]; simp
    · rw [decide_eq_false h1]; simp
  · intro t _ ⟨q1, q2⟩
    simp only [Bool.and_eq_true, decide_eq_true_eq] at q1 q2
    omega
theorem putW_nonneg {ts : List Tie} (hp : ∀ t ∈ ts, 0 ≤ t.2.2) (O row : List Nat) (k : Nat) : 0 ≤ putW ts O row k := by
  rw [putW_eq]
  exact wsum_nonneg hp
theorem rc_nil (ts : List Tie) (O : List Nat) : rc ts O [] = 0 := by
  unfold rc
  refine wsum_zero fun t _ => ?_
  simp
/-! all that a row may become -/
def exts (p : Nat) : Nat → List Nat → List (List Nat)
  | 0, row => [row]
  | k + 1, row => (List.range p).flatMap fun j => exts p k (row ++ [j])
def full (p N : Nat) (row : List Nat) : List (List Nat) := exts p (N - row.length) row
theorem full_done {p N : Nat} {row : List Nat} (h : row.length = N) : full p N row = [row] := by
  unfold full
  rw [h, Nat.sub_self]
  rfl
theorem full_step {p N : Nat} {row : List Nat} (h : row.length < N) : full p N row = (List.range p).flatMap fun j => full p N (row ++ [j]) := by
  unfold full
  have e : N - row.length = (N - (row.length + 1)) + 1 := by omega
  rw [e]
  show ((List.range p).flatMap fun j => exts p (N - (row.length + 1)) (row ++ [j])) = _
  congr 1
  funext j
  rw [List.length_append, List.length_singleton]
theorem exts_mem (p : Nat) : ∀ (k : Nat) (row r : List Nat), r ∈ exts p k row ↔ ∃ e : List Nat, e.length = k ∧ (∀ x ∈ e, x < p) ∧ r = row ++ e
  | 0, row, r => by
    show r ∈ [row] ↔ _
    rw [List.mem_singleton]
    constructor
    · rintro rfl; exact ⟨[], rfl, by simp, by simp⟩
    · rintro ⟨e, h1, _, h2⟩
      rw [List.eq_nil_of_length_eq_zero h1, List.append_nil] at h2
      exact h2
  | k + 1, row, r => by
    show r ∈ (List.range p).flatMap _ ↔ _
    rw [List.mem_flatMap]
    constructor
    · rintro ⟨j, hj, h⟩
      obtain ⟨e, h1, h2, h3⟩ := (exts_mem p k _ r).mp h
      refine ⟨j :: e, by rw [List.length_cons, h1], fun x hx => ?_, by rw [h3, List.append_assoc]; rfl⟩
      rcases List.mem_cons.mp hx with rfl | hx
      · exact List.mem_range.mp hj
      · exact h2 x hx
    · rintro ⟨e, h1, h2, h3⟩
      cases e with
      | nil => cases h1
      | cons j e =>
        exact ⟨j, List.mem_range.mpr (h2 j (List.mem_cons_self ..)), (exts_mem p k _ r).mpr ⟨e, by simpa using h1, fun x hx => h2 x (List.mem_cons_of_mem _ hx), by rw [h3, List.append_assoc]; rfl⟩⟩
theorem mem_full {p N : Nat} {row r : List Nat} (h : row.length ≤ N) : r ∈ full p N row ↔ r.length = N ∧ ∃ e : List Nat, (∀ x ∈ e, x < p) ∧ r = row ++ e := by
  unfold full
  rw [exts_mem]
  constructor
  · rintro ⟨e, h1, h2, h3⟩
    exact ⟨by rw [h3, List.length_append, h1]; omega, e, h2, h3⟩
  · rintro ⟨h1, e, h2, h3⟩
    refine ⟨e, ?_, h2, h3⟩
    rw [h3, List.length_append] at h1
    omega
theorem exts_nd (p : Nat) : ∀ (k : Nat) (row : List Nat), (exts p k row).Nodup
  | 0, row => by show [row].Nodup; simp
  | k + 1, row => by
    show ((List.range p).flatMap fun j => exts p k (row ++ [j])).Nodup
    rw [List.nodup_iff_pairwise_ne, List.pairwise_flatMap]
    refine ⟨fun j _ => List.nodup_iff_pairwise_ne.mp (exts_nd p k _), ?_⟩
    refine List.Pairwise.imp (R := fun a b => a ≠ b) (fun {i j} hij x hx y hy e => hij ?_) (List.nodup_iff_pairwise_ne.mp List.nodup_range)
    subst e
    obtain ⟨e1, _, _, h1⟩ := (exts_mem p k _ x).mp hx
    obtain ⟨e2, _, _, h2⟩ := (exts_mem p k _ x).mp hy
    rw [h1, List.append_assoc, List.append_assoc] at h2
    have := List.append_cancel_left h2
    simp at this
    exact this.1
theorem full_nd (p N : Nat) (row : List Nat) : (full p N row).Nodup := exts_nd p _ row
theorem rc_append {ts : List Tie} {O : List Nat} (hne : ∀ t ∈ ts, t.1 ≠ t.2.1) (hp : ∀ t ∈ ts, 0 ≤ t.2.2) : ∀ (e row : List Nat), rc ts O row ≤ rc ts O (row ++ e)
  | [], row => by rw [List.append_nil]; exact Int.le_refl _
  | k :: e, row => by
    have h1 := rc_append (O := O) hne hp e (row ++ [k])
    rw [List.append_assoc] at h1
    have h2 := rc_snoc hne row k (O := O)
    have h3 := putW_nonneg hp O row k
    have h4 : row ++ ([k] ++ e) = row ++ k :: e := rfl
    rw [h4] at h1
    omega
theorem rc_full {ts : List Tie} {O : List Nat} (hne : ∀ t ∈ ts, t.1 ≠ t.2.1) (hp : ∀ t ∈ ts, 0 ≤ t.2.2) {p N : Nat} {row r : List Nat} (h : r ∈ full p N row) : rc ts O row ≤ rc ts O r := by
  obtain ⟨e, _, _, rfl⟩ := (exts_mem p _ row r).mp h
  exact rc_append hne hp e row
/-- how many steps a row may yet take -/
def stepsT (p : Nat) : Nat → Nat
  | 0 => 1
  | k + 1 => 1 + p * stepsT p k
theorem stepsT_pos (p : Nat) : ∀ k, 1 ≤ stepsT p k
  | 0 => Nat.le_refl _
  | k + 1 => by show 1 ≤ 1 + p * stepsT p k; omega
theorem stepsT_small : ∀ N, N < 8 → ∀ p, p < N + 1 → stepsT p (N - p) ≤ 400 := by decide
end PW
set_option linter.all false
namespace PW
/-- the order of a web's places: posts, then what hangs with them -/
noncomputable def ordO (W : Web) (posts : List Nat) : List Nat := posts ++ tiedL W posts
noncomputable abbrev rowsF (W : Web) (posts : List Nat) : List (List Nat) := full posts.length (ordO W posts).length (List.range posts.length)
/-- a row's owners -/
def fR (O posts row : List Nat) (v : Nat) : Nat := if v ∈ O then posts.getD (row.getD (O.idxOf v) 0) 0 else posts.getD 0 0
section
variable {W : Web} {posts : List Nat}
theorem POk.len' (p : POk W posts) : posts.length ≤ W.n := by
  have := nodup_length_le p.nd (b := List.range W.n) fun v hv => List.mem_range.mpr (p.lt v hv)
  rw [List.length_range] at this
  exact this
theorem ordO_nd (p : POk W posts) : (ordO W posts).Nodup := by
  unfold ordO
  rw [List.nodup_append]
  refine ⟨p.nd, (tiedL_lt W posts).imp fun h => by omega, fun a ha b hb e => ?_⟩
  subst e
  exact (mem_tiedL.mp hb).2.1 ha
theorem mem_ordO (p : POk W posts) {v : Nat} : v ∈ ordO W posts ↔ v < W.n ∧ ∃ q ∈ posts, Conn (Adj W.ts) q v := by
  unfold ordO
  rw [List.mem_append, mem_tiedL]
  constructor
  · rintro (h | h)
    · exact ⟨p.lt v h, v, h, .refl⟩
    · exact ⟨h.1, h.2.2⟩
  · rintro ⟨h1, h2⟩
    by_cases h : v ∈ posts
    · exact .inl h
    · exact .inr ⟨h1, h, h2⟩
theorem ordO_lt (p : POk W posts) : ∀ v ∈ ordO W posts, v < W.n := fun v h => ((mem_ordO p).mp h).1
theorem ordO_len (p : POk W posts) : (ordO W posts).length ≤ W.n := by
  have := nodup_length_le (ordO_nd p) (b := List.range W.n) fun v hv => List.mem_range.mpr (ordO_lt p v hv)
  rw [List.length_range] at this
  exact this
theorem ordO_ge : posts.length ≤ (ordO W posts).length := by unfold ordO; rw [List.length_append]; omega
theorem ordO_adj (g : GoodTs W.n W.ts) (p : POk W posts) {a b : Nat} (h : Adj W.ts a b) : a ∈ ordO W posts ↔ b ∈ ordO W posts := by
  rw [mem_ordO p, mem_ordO p]
  have := adj_lt g h
  constructor
  · rintro ⟨_, q, h1, h2⟩
    exact ⟨this.2.1, q, h1, .step h2 h⟩
  · rintro ⟨_, q, h1, h2⟩
    exact ⟨this.1, q, h1, .step h2 (adj_symm _ _ _ h)⟩
theorem getD_mem {l : List Nat} {i : Nat} (h : i < l.length) : l.getD i 0 ∈ l := by
  rw [List.getD_eq_getElem?_getD, List.getElem?_eq_getElem h]
  exact List.getElem_mem _
theorem getD_inj {l : List Nat} (nd : l.Nodup) {i j : Nat} (hi : i < l.length) (hj : j < l.length) (e : l.getD i 0 = l.getD j 0) : i = j := by
  rw [List.getD_eq_getElem?_getD, List.getD_eq_getElem?_getD, List.getElem?_eq_getElem hi, List.getElem?_eq_getElem hj] at e
  exact (List.getElem_inj nd).mp e
/-- what a whole row is -/
theorem rowF {r : List Nat} (h : r ∈ rowsF W posts) : r.length = (ordO W posts).length ∧ (∀ x ∈ r, x < posts.length) ∧ ∀ i, i < posts.length → r.getD i 0 = i := by
  obtain ⟨h1, e, h2, h3⟩ := (mem_full (by rw [List.length_range]; exact ordO_ge)).mp h
  refine ⟨h1, fun x hx => ?_, fun i hi => ?_⟩
  · rw [h3] at hx
    rcases List.mem_append.mp hx with h | h
    · exact List.mem_range.mp h
    · exact h2 x h
  · rw [h3, List.getD_eq_getElem?_getD, List.getElem?_append_left (by rw [List.length_range]; exact hi), List.getElem?_range hi]
    rfl
theorem rowF_of {r : List Nat} (h1 : r.length = (ordO W posts).length) (h2 : ∀ x ∈ r, x < posts.length) (h3 : ∀ i, i < posts.length → r.getD i 0 = i) : r ∈ rowsF W posts := by
  refine (mem_full (by rw [List.length_range]; exact ordO_ge)).mpr ⟨h1, r.drop posts.length, fun x hx => h2 x (List.mem_of_mem_drop hx), ?_⟩
  have hg := ordO_ge (W := W) (posts := posts)
  refine List.ext_getElem? fun i => ?_
  by_cases hi : i < posts.length
  · rw [List.getElem?_append_left (by rw [List.length_range]; exact hi), List.getElem?_range hi]
    have := h3 i hi
    rw [List.getD_eq_getElem?_getD, List.getElem?_eq_getElem (by omega)] at this
    rw [List.getElem?_eq_getElem (by omega)]
    exact congrArg some this
  · rw [List.getElem?_append_right (by rw [List.length_range]; omega), List.length_range, List.getElem?_drop]
    congr 1
    omega
theorem idx_posts {v : Nat} (h : v ∈ posts) : (ordO W posts).idxOf v = posts.idxOf v := by
  unfold ordO
  rw [List.idxOf_append, if_pos h]
theorem fR_owns (p : POk W posts) {r : List Nat} (h : r ∈ rowsF W posts) : Owns posts (fR (ordO W posts) posts r) := by
  obtain ⟨h1, h2, h3⟩ := rowF h
  constructor
  · intro q hq
    unfold fR
    have hO : q ∈ ordO W posts := by unfold ordO; exact List.mem_append_left _ hq
    have hi := List.idxOf_lt_length_of_mem hq
    rw [if_pos hO, idx_posts hq, h3 _ hi, List.getD_eq_getElem?_getD, get_idx hq]
    rfl
  · intro v
    unfold fR
    split
    · rename_i hv
      have hi := List.idxOf_lt_length_of_mem hv
      exact getD_mem (h2 _ (getD_mem (by omega)))
    · exact getD_mem p.ne
theorem bne_congr {α β : Type} [BEq α] [LawfulBEq α] [BEq β] [LawfulBEq β] {a b : α} {c d : β} (h : a = b ↔ c = d) : (a != b) = (c != d) := by
  by_cases e : a = b
  · have e2 := h.mp e
    subst e e2
    simp
  · have e2 : ¬ c = d := fun q => e (h.mpr q)
    rw [bne_iff_ne.mpr e, bne_iff_ne.mpr e2]
theorem cost_fR (g : GoodTs W.n W.ts) (p : POk W posts) {r : List Nat} (h : r ∈ rowsF W posts) : cost W.ts (fR (ordO W posts) posts r) = rc W.ts (ordO W posts) r := by
  obtain ⟨h1, h2, h3⟩ := rowF h
  unfold cost rc
  refine wsum_congr fun t ht => ?_
  have ha : t.1 ∈ ordO W posts ↔ t.2.1 ∈ ordO W posts := ordO_adj g p ⟨t, ht, .inl ⟨rfl, rfl⟩⟩
  unfold fR
  by_cases hv : t.1 ∈ ordO W posts
  · have hw := ha.mp hv
    have i1 := List.idxOf_lt_length_of_mem hv
    have i2 := List.idxOf_lt_length_of_mem hw
    rw [if_pos hv, if_pos hw, decide_eq_true hv, decide_eq_true hw, decide_eq_true (show max _ _ < r.length by omega)]
    simp only [Bool.true_and]
    refine bne_congr ⟨fun e => getD_inj p.nd (h2 _ (getD_mem (by omega))) (h2 _ (getD_mem (by omega))) e, fun e => by rw [e]⟩
  · have hw : ¬ t.2.1 ∈ ordO W posts := fun q => hv (ha.mpr q)
    rw [if_neg hv, if_neg hw, decide_eq_false hv]
    simp
/-- the row of some owners -/
noncomputable def rOf (W : Web) (posts : List Nat) (f : Nat → Nat) : List Nat := (ordO W posts).map fun v => posts.idxOf (f v)
theorem rOf_get {f : Nat → Nat} {v : Nat} (h : v ∈ ordO W posts) : (rOf W posts f).getD ((ordO W posts).idxOf v) 0 = posts.idxOf (f v) := by
  unfold rOf
  rw [List.getD_eq_getElem?_getD, List.getElem?_map, get_idx h]
  rfl
theorem rOf_mem {f : Nat → Nat} (o : Owns posts f) (p : POk W posts) : rOf W posts f ∈ rowsF W posts := by
  refine rowF_of (by unfold rOf; rw [List.length_map]) (fun x hx => ?_) (fun i hi => ?_)
  · unfold rOf at hx
    obtain ⟨v, _, rfl⟩ := List.mem_map.mp hx
    exact List.idxOf_lt_length_of_mem (o.2 v)
  · have hm : posts[i] ∈ posts := List.getElem_mem _
    have hO : posts[i] ∈ ordO W posts := by unfold ordO; exact List.mem_append_left _ hm
    have hi2 : (ordO W posts).idxOf posts[i] = i := by rw [idx_posts hm, p.nd.idxOf_getElem]
    have := rOf_get (f := f) hO
    rw [hi2, o.1 _ hm, p.nd.idxOf_getElem] at this
    exact this
theorem rc_rOf {f : Nat → Nat} (hp : ∀ t ∈ W.ts, 0 ≤ t.2.2) (o : Owns posts f) : rc W.ts (ordO W posts) (rOf W posts f) ≤ cost W.ts f := by
  unfold rc cost
  refine wsum_mono hp fun t ht h => ?_
  simp only [Bool.and_eq_true, decide_eq_true_eq] at h
  obtain ⟨⟨⟨h1, h2⟩, _⟩, h4⟩ := h
  rw [rOf_get h1, rOf_get h2] at h4
  rw [bne_iff_ne] at h4 ⊢
  exact fun e => h4 (by rw [e])
theorem leastW_is (ok : WOk W) (p : POk W posts) {m : Int} (h1 : ∃ r ∈ rowsF W posts, rc W.ts (ordO W posts) r = m) (h2 : ∀ r ∈ rowsF W posts, m ≤ rc W.ts (ordO W posts) r) : leastW W posts = m := by
  have hpos : ∀ t ∈ W.ts, 0 ≤ t.2.2 := fun t ht => by have := ok.good.1 t ht; omega
  obtain ⟨r, hr, e⟩ := h1
  unfold leastW
  refine minOf_eq ⟨fR (ordO W posts) posts r, fR_owns p hr, by rw [cost_fR ok.good p hr, e]⟩ ?_
  rintro x ⟨f, o, rfl⟩
  have := h2 _ (rOf_mem o p)
  have := rc_rOf hpos o
  omega
theorem list_min {α : Type} (c : α → Int) : ∀ {l : List α}, l ≠ [] → ∃ x ∈ l, ∀ y ∈ l, c x ≤ c y
  | [], h => absurd rfl h
  | [x], _ => ⟨x, List.mem_singleton.mpr rfl, fun y hy => by rw [List.mem_singleton.mp hy]; exact Int.le_refl _⟩
  | x :: z :: l, _ => by
    obtain ⟨y, h1, h2⟩ := list_min c (l := z :: l) (by simp)
    by_cases h : c x ≤ c y
    · refine ⟨x, List.mem_cons_self .., fun w hw => ?_⟩
      rcases List.mem_cons.mp hw with rfl | hw
      · exact Int.le_refl _
      · have := h2 w hw; omega
    · refine ⟨y, List.mem_cons_of_mem _ h1, fun w hw => ?_⟩
      rcases List.mem_cons.mp hw with rfl | hw
      · omega
      · exact h2 w hw
theorem rowsF_ne (p : POk W posts) : rowsF W posts ≠ [] := fun e => by
  have : rOf W posts (fun v => if v ∈ posts then v else posts.getD 0 0) ∈ rowsF W posts := rOf_mem ⟨fun q hq => if_pos hq, fun v => by
    show (if v ∈ posts then v else posts.getD 0 0) ∈ posts
    split
    · assumption
    · exact getD_mem p.ne⟩ p
  rw [e] at this
  cases this
theorem leastW_spec (ok : WOk W) (p : POk W posts) : (∃ r ∈ rowsF W posts, rc W.ts (ordO W posts) r = leastW W posts) ∧ ∀ r ∈ rowsF W posts, leastW W posts ≤ rc W.ts (ordO W posts) r := by
  obtain ⟨r, h1, h2⟩ := list_min (rc W.ts (ordO W posts)) (rowsF_ne p)
  have e := leastW_is ok p ⟨r, h1, rfl⟩ h2
  rw [e]
  exact ⟨⟨r, h1, rfl⟩, h2⟩
theorem leastW_le (ok : WOk W) (p : POk W posts) {f : Nat → Nat} (o : Owns posts f) : leastW W posts ≤ cost W.ts f := by
  have hpos : ∀ t ∈ W.ts, 0 ≤ t.2.2 := fun t ht => by have := ok.good.1 t ht; omega
  have h1 := (leastW_spec ok p).2 _ (rOf_mem o p)
  have h2 := rc_rOf hpos o
  omega
theorem leastW_some (ok : WOk W) (p : POk W posts) : ∃ f, Owns posts f ∧ cost W.ts f = leastW W posts := by
  obtain ⟨⟨r, h1, h2⟩, _⟩ := leastW_spec ok p
  exact ⟨_, fR_owns p h1, by rw [cost_fR ok.good p h1, h2]⟩
theorem leastW_mk (ok : WOk W) (p : POk W posts) {m : Int} (h1 : ∃ f, Owns posts f ∧ cost W.ts f = m) (h2 : ∀ f, Owns posts f → m ≤ cost W.ts f) : leastW W posts = m := minOf_eq h1 fun x ⟨f, o, e⟩ => e ▸ h2 f o
/-- the least rows -/
noncomputable def leastR (W : Web) (posts : List Nat) : List (List Nat) := (rowsF W posts).filter fun r => decide (rc W.ts (ordO W posts) r ≤ leastW W posts)
theorem mem_leastR (ok : WOk W) (p : POk W posts) {r : List Nat} : r ∈ leastR W posts ↔ r ∈ rowsF W posts ∧ cost W.ts (fR (ordO W posts) posts r) = leastW W posts := by
  unfold leastR
  rw [List.mem_filter]
  constructor
  · rintro ⟨h1, h2⟩
    refine ⟨h1, ?_⟩
    rw [cost_fR ok.good p h1]
    have := of_decide_eq_true h2
    have := (leastW_spec ok p).2 r h1
    omega
  · rintro ⟨h1, h2⟩
    rw [cost_fR ok.good p h1] at h2
    exact ⟨h1, decide_eq_true (by omega)⟩
theorem leastR_ne (ok : WOk W) (p : POk W posts) : leastR W posts ≠ [] := fun e => by
  obtain ⟨⟨r, h1, h2⟩, _⟩ := leastW_spec ok p
  have : r ∈ leastR W posts := (mem_leastR ok p).mpr ⟨h1, by rw [cost_fR ok.good p h1, h2]⟩
  rw [e] at this
  cases this
theorem leastR_nd (W : Web) (posts : List Nat) : (leastR W posts).Nodup := (full_nd _ _ _).filter _
end
end PW
set_option linter.all false
namespace PW
/-! amounts that flow: a number for each tie, from its first place to its second -/
def bz (b : Bool) : Int := if b then 1 else 0
/-- what flows out of a side -/
def net : List Tie → List Int → (Nat → Bool) → Int
  | t :: ts, x :: xs, S => x * (bz (S t.1) - bz (S t.2.1)) + net ts xs S
  | _, _, _ => 0
def nearI (ts : List Tie) (v : Nat) : List (Nat × Nat) := (List.range ts.length).flatMap fun i => match ts[i]? with
  | some t => (if t.1 = v then [(i, t.2.1)] else []) ++ (if t.2.1 = v then [(i, t.1)] else [])
  | none => []
def roomI (ts : List Tie) (xs : List Int) (i p : Nat) : Int := match ts[i]? with
  | some t => if p = t.1 then t.2.2 - xs.getD i 0 else t.2.2 + xs.getD i 0
  | none => 0
/-- more along a tie, out of a place -/
def addI (ts : List Tie) (xs : List Int) (m : Int) (s : Nat × Nat) : List Int := match ts[s.1]? with
  | some t => xs.set s.1 (xs.getD s.1 0 + if s.2 = t.1 then m else -m)
  | none => xs
structure CapOk (ts : List Tie) (xs : List Int) : Prop where
  len : xs.length = ts.length
  cap : ∀ i t, ts[i]? = some t → -t.2.2 ≤ xs.getD i 0 ∧ xs.getD i 0 ≤ t.2.2
theorem mem_nearI {ts : List Tie} {v i u : Nat} : (i, u) ∈ nearI ts v ↔ ∃ t, ts[i]? = some t ∧ ((t.1 = v ∧ t.2.1 = u) ∨ (t.2.1 = v ∧ t.1 = u)) := by
  unfold nearI
  rw [List.mem_flatMap]
  constructor
  · rintro ⟨j, hj, h⟩
    rw [List.mem_range] at hj
    rw [List.getElem?_eq_getElem hj] at h
    have h : (i, u) ∈ (if ts[j].1 = v then [(j, ts[j].2.1)] else []) ++ (if ts[j].2.1 = v then [(j, ts[j].1)] else []) := h
    rcases List.mem_append.mp h with h | h
    · split at h
      · rw [List.mem_singleton] at h
        cases h
        exact ⟨_, List.getElem?_eq_getElem hj, .inl ⟨by assumption, rfl⟩⟩
      · cases h
    · split at h
      · rw [List.mem_singleton] at h
        cases h
        exact ⟨_, List.getElem?_eq_getElem hj, .inr ⟨by assumption, rfl⟩⟩
      · cases h
  · rintro ⟨t, h1, h2⟩
    have hj := (List.getElem?_eq_some_iff.mp h1).1
    refine ⟨i, List.mem_range.mpr hj, ?_⟩
    rw [h1]
    show (i, u) ∈ (if t.1 = v then [(i, t.2.1)] else []) ++ (if t.2.1 = v then [(i, t.1)] else [])
    rcases h2 with ⟨h2, h3⟩ | ⟨h2, h3⟩
    · rw [if_pos h2, h3]; simp
    · rw [if_pos h2, h3]; simp
theorem net_set {S : Nat → Bool} : ∀ {ts : List Tie} {xs : List Int} {i : Nat} {t : Tie} {y : Int}, xs.length = ts.length → ts[i]? = some t → net ts (xs.set i y) S = net ts xs S + (y - xs.getD i 0) * (bz (S t.1) - bz (S t.2.1))
  | [], _, i, t, y, _, h => by simp at h
  | s :: ts, [], i, t, y, hl, _ => by simp at hl
  | s :: ts, x :: xs, 0, t, y, _, h => by
    have : s = t := by simpa using h
    subst this
    show y * _ + net ts xs S = x * _ + net ts xs S + (y - x) * _
    rw [Int.sub_mul]
    omega
  | s :: ts, x :: xs, i + 1, t, y, hl, h => by
    have ih := net_set (S := S) (ts := ts) (xs := xs) (i := i) (t := t) (y := y) (by simpa using hl) (by simpa using h)
    show x * _ + net ts (xs.set i y) S = x * _ + net ts xs S + (y - xs.getD i 0) * _
    rw [ih]
    omega
theorem addI_len (ts : List Tie) (xs : List Int) (m : Int) (s : Nat × Nat) : (addI ts xs m s).length = xs.length := by
  unfold addI
  split
  · rw [List.length_set]
  · rfl
theorem net_add {ts : List Tie} {xs : List Int} (hl : xs.length = ts.length) (hne : ∀ t ∈ ts, t.1 ≠ t.2.1) (m : Int) {i h v : Nat} (hm : (i, v) ∈ nearI ts h) (S : Nat → Bool) : net ts (addI ts xs m (i, h)) S = net ts xs S + m * (bz (S h) - bz (S v)) := by
  obtain ⟨t, h1, h2⟩ := mem_nearI.mp hm
  have hn := hne t (List.mem_of_getElem? h1)
  unfold addI
  rw [h1]
  show net ts (xs.set i (xs.getD i 0 + if h = t.1 then m else -m)) S = _
  rw [net_set hl h1]
  rcases h2 with ⟨rfl, rfl⟩ | ⟨rfl, rfl⟩
  · rw [if_pos rfl]
    congr 2
    omega
  · rw [if_neg (Ne.symm hn)]
    have : xs.getD i 0 + -m - xs.getD i 0 = -m := by omega
    rw [this, Int.neg_mul, ← Int.mul_neg]
    congr 2
    omega
theorem room_add {ts : List Tie} {xs : List Int} {m : Int} {i h j p : Nat} (e : i ≠ j) : roomI ts (addI ts xs m (i, h)) j p = roomI ts xs j p := by
  unfold roomI addI
  cases h1 : ts[i]? with
  | none => rfl
  | some t =>
    show (match ts[j]? with | some t' => if p = t'.1 then t'.2.2 - (xs.set i _).getD j 0 else t'.2.2 + (xs.set i _).getD j 0 | none => 0) = _
    have : ∀ y : Int, (xs.set i y).getD j 0 = xs.getD j 0 := fun y => by
      rw [List.getD_eq_getElem?_getD, List.getD_eq_getElem?_getD, List.getElem?_set_ne e]
    rw [this]
theorem cap_add {ts : List Tie} {xs : List Int} (c : CapOk ts xs) {m : Int} (hm : 0 ≤ m) {i h : Nat} (hr : m ≤ roomI ts xs i h) : CapOk ts (addI ts xs m (i, h)) := by
  refine ⟨by rw [addI_len]; exact c.len, fun j t hj => ?_⟩
  have cj := c.cap j t hj
  have jl := (List.getElem?_eq_some_iff.mp hj).1
  unfold addI
  cases h1 : ts[i]? with
  | none => exact cj
  | some t' =>
    show -t.2.2 ≤ (xs.set i _).getD j 0 ∧ (xs.set i _).getD j 0 ≤ t.2.2
    by_cases e : i = j
    · subst e
      rw [h1] at hj
      cases hj
      have : ∀ y : Int, (xs.set i y).getD i 0 = y := fun y => by
        rw [List.getD_eq_getElem?_getD, List.getElem?_set_self (by rw [c.len]; exact jl)]
        rfl
      rw [this]
      unfold roomI at hr
      rw [h1] at hr
      have hr : m ≤ if h = t.1 then t.2.2 - xs.getD i 0 else t.2.2 + xs.getD i 0 := hr
      show -t.2.2 ≤ xs.getD i 0 + (if h = t.1 then m else -m) ∧ xs.getD i 0 + (if h = t.1 then m else -m) ≤ t.2.2
      by_cases e : h = t.1
      · rw [if_pos e] at hr ⊢
        omega
      · rw [if_neg e] at hr ⊢
        omega
    · have : ∀ y : Int, (xs.set i y).getD j 0 = xs.getD j 0 := fun y => by
        rw [List.getD_eq_getElem?_getD, List.getD_eq_getElem?_getD, List.getElem?_set_ne e]
      rw [this]
      exact cj
theorem cap_fold {ts : List Tie} {m : Int} (hm : 0 ≤ m) : ∀ (d : List (Nat × Nat)) (xs : List Int), (d.map Prod.fst).Nodup → CapOk ts xs → (∀ s ∈ d, m ≤ roomI ts xs s.1 s.2) → CapOk ts (d.foldl (fun xs s => addI ts xs m s) xs)
  | [], _, _, c, _ => c
  | (i, h) :: d, xs, nd, c, hr => by
    rw [List.map_cons, List.nodup_cons] at nd
    refine cap_fold hm d _ nd.2 (cap_add c hm (hr (i, h) (List.mem_cons_self ..))) fun s hs => ?_
    have hne : i ≠ s.1 := fun e => nd.1 (by
      show i ∈ d.map Prod.fst
      rw [e]
      exact List.mem_map.mpr ⟨s, hs, rfl⟩)
    rw [room_add hne]
    exact hr s (List.mem_cons_of_mem _ hs)
/-- what the search has met: places, each with the step that led there -/
structure Came (ts : List Tie) (xs : List Int) (n : Nat) (sr M : List Nat) (g : Nat → Option (Nat × Nat)) : Prop where
  nd : M.Nodup
  src : ∀ s ∈ sr, s ∈ M
  lt : ∀ v ∈ M, v < n
  non : ∀ v ∈ M, g v = none → v ∈ sr
  step : ∀ v ∈ M, ∀ i h, g v = some (i, h) → h ∈ M ∧ M.idxOf h < M.idxOf v ∧ (i, v) ∈ nearI ts h ∧ 0 < roomI ts xs i h
/-- nothing is left to meet -/
def Shut (ts : List Tie) (xs : List Int) (M : List Nat) : Prop := ∀ v ∈ M, ∀ i u, (i, u) ∈ nearI ts v → u ∉ M → roomI ts xs i v ≤ 0
/-- steps back from a place -/
inductive Chain (g : Nat → Option (Nat × Nat)) (v : Nat) : List (Nat × Nat) → Nat → Prop
  | nil : Chain g v [] v
  | snoc {d : List (Nat × Nat)} {u i h : Nat} : Chain g v d u → g u = some (i, h) → Chain g v (d ++ [(i, h)]) h
section
variable {ts : List Tie} {xs : List Int} {n : Nat} {src M : List Nat} {g : Nat → Option (Nat × Nat)} {v u : Nat} {d : List (Nat × Nat)}
theorem Chain.facts (c : Came ts xs n src M g) (hv : v ∈ M) (hne : ∀ t ∈ ts, t.1 ≠ t.2.1) (k : Chain g v d u) : u ∈ M ∧ M.idxOf u + d.length ≤ M.idxOf v ∧ (d.map Prod.fst).Nodup ∧ (∀ s ∈ d, 0 < roomI ts xs s.1 s.2 ∧ s.1 < ts.length ∧ s.2 < n ∧ ∃ w, (s.1, w) ∈ nearI ts s.2 ∧ w ∈ M ∧ M.idxOf u < M.idxOf w ∧ M.idxOf u ≤ M.idxOf s.2) := by
  induction k with
  | nil => exact ⟨hv, by simp, by simp, by simp⟩
  | @snoc d u i h k hg ih =>
    obtain ⟨h1, h2, h3, h4⟩ := ih
    obtain ⟨s1, s2, s3, s4⟩ := c.step u h1 i h hg
    refine ⟨s1, ?_, ?_, fun s hs => ?_⟩
    · rw [List.length_append, List.length_singleton]
      omega
    · rw [List.map_append, List.nodup_append]
      refine ⟨h3, by simp, fun a ha b hb e => ?_⟩
      have hb : b = i := by simpa using hb
      subst hb
      subst e
      obtain ⟨s, hs, rfl⟩ := List.mem_map.mp ha
      obtain ⟨_, _, _, w, hw, hwM, hi, hi2⟩ := h4 s hs
      obtain ⟨t, t1, t2⟩ := mem_nearI.mp hw
      obtain ⟨t', t3, t4⟩ := mem_nearI.mp s3
      rw [t1] at t3
      cases t3
      have hcase : w = u ∨ w = h := by
        rcases t2 with ⟨a1, a2⟩ | ⟨a1, a2⟩ <;> rcases t4 with ⟨b1, b2⟩ | ⟨b1, b2⟩
        · exact .inl (a2.symm.trans b2)
        · exact .inr (a2.symm.trans b1)
        · exact .inr (a2.symm.trans b1)
        · exact .inl (a2.symm.trans b2)
      rcases hcase with rfl | rfl <;> omega
    · rcases List.mem_append.mp hs with hs | hs
      · obtain ⟨q1, q2, q3, w, q4, q5, q6, q7⟩ := h4 s hs
        exact ⟨q1, q2, q3, w, q4, q5, by omega, by omega⟩
      · rw [List.mem_singleton] at hs
        subst hs
        obtain ⟨t, t1, _⟩ := mem_nearI.mp s3
        exact ⟨s4, (List.getElem?_eq_some_iff.mp t1).1, c.lt _ s1, u, s3, h1, s2, Nat.le_refl _⟩
theorem Chain.flows (c : Came ts xs n src M g) (hv : v ∈ M) (hne : ∀ t ∈ ts, t.1 ≠ t.2.1) (k : Chain g v d u) (m : Int) (S : Nat → Bool) : ∀ ys : List Int, ys.length = ts.length → (d.foldl (fun xs s => addI ts xs m s) ys).length = ts.length ∧ net ts (d.foldl (fun xs s => addI ts xs m s) ys) S = net ts ys S + m * (bz (S u) - bz (S v)) := by
  induction k with
  | nil => intro ys hy; refine ⟨hy, ?_⟩; show net ts ys S = _; rw [Int.sub_self]; omega
  | @snoc d u i h k hg ih =>
    intro ys hy
    obtain ⟨l1, e1⟩ := ih ys hy
    obtain ⟨h1, _⟩ := k.facts c hv hne
    obtain ⟨s1, s2, s3, s4⟩ := c.step u h1 i h hg
    rw [List.foldl_append]
    show (addI ts _ m (i, h)).length = _ ∧ net ts (addI ts _ m (i, h)) S = _
    refine ⟨by rw [addI_len]; exact l1, ?_⟩
    rw [net_add l1 hne m s3, e1, Int.add_assoc, ← Int.mul_add]
    congr 2
    omega
/-- a flow out of the sources into the sinks -/
structure FlowOk (ts : List Tie) (src snk : List Nat) (xs : List Int) (val : Int) : Prop where
  cap : CapOk ts xs
  even : ∀ S, Sep src snk S → net ts xs S = val
theorem net_le : ∀ {ts : List Tie} {xs : List Int}, CapOk ts xs → ∀ S : Nat → Bool, net ts xs S ≤ cost ts S
  | [], _, _, S => Int.le_refl _
  | t :: ts, [], c, S => absurd c.len (by simp)
  | t :: ts, x :: xs, c, S => by
    have ih := net_le (ts := ts) (xs := xs) ⟨by simpa using c.len, fun i t h => c.cap (i + 1) t (by simpa using h)⟩ S
    have c0 := c.cap 0 t rfl
    have c0 : -t.2.2 ≤ x ∧ x ≤ t.2.2 := c0
    unfold cost at ih ⊢
    rw [wsum_cons]
    show x * (bz (S t.1) - bz (S t.2.1)) + net ts xs S ≤ _
    cases h1 : S t.1 <;> cases h2 : S t.2.1 <;> simp [bz] <;> omega
theorem FlowOk.more (hne : ∀ t ∈ ts, t.1 ≠ t.2.1) {snk : List Nat} {val : Int} (f : FlowOk ts src snk xs val) (c : Came ts xs n src M g) (hv : v ∈ M) (hs : v ∈ snk) (k : Chain g v d u) (hu : g u = none) {m : Int} (hm : 0 ≤ m) (hr : ∀ s ∈ d, m ≤ roomI ts xs s.1 s.2) :
    FlowOk ts src snk (d.foldl (fun xs s => addI ts xs m s) xs) (val + m) := by
  obtain ⟨h1, h2, h3, h4⟩ := k.facts c hv hne
  refine ⟨cap_fold hm d xs h3 f.cap hr, fun S hS => ?_⟩
  rw [(k.flows c hv hne m S xs f.cap.len).2, f.even S hS, hS.1 u (c.non u h1 hu), hS.2 v hs]
  show val + m * (1 - 0) = _
  omega
theorem net_eq : ∀ {ts : List Tie} {xs : List Int} {S : Nat → Bool}, CapOk ts xs → (∀ i t, ts[i]? = some t → (S t.1 = true ∧ S t.2.1 = false → t.2.2 ≤ xs.getD i 0) ∧ (S t.1 = false ∧ S t.2.1 = true → xs.getD i 0 ≤ -t.2.2)) → net ts xs S = cost ts S
  | [], _, S, _, _ => rfl
  | t :: ts, [], S, c, _ => absurd c.len (by simp)
  | t :: ts, x :: xs, S, c, h => by
    have ih := net_eq (ts := ts) (xs := xs) (S := S) ⟨by simpa using c.len, fun i t h => c.cap (i + 1) t (by simpa using h)⟩ fun i t q => h (i + 1) t (by simpa using q)
    have c0 := c.cap 0 t rfl
    have c0 : -t.2.2 ≤ x ∧ x ≤ t.2.2 := c0
    have h0 := h 0 t rfl
    have h0 : (S t.1 = true ∧ S t.2.1 = false → t.2.2 ≤ x) ∧ (S t.1 = false ∧ S t.2.1 = true → x ≤ -t.2.2) := h0
    unfold cost at ih ⊢
    rw [wsum_cons]
    show x * (bz (S t.1) - bz (S t.2.1)) + net ts xs S = _
    rw [ih]
    cases h1 : S t.1 <;> cases h2 : S t.2.1 <;> simp [bz, h1, h2] at h0 ⊢ <;> omega
/-- no way on: the flow is greatest, the cut about what was met is least -/
theorem flow_done {W : Web} {snk : List Nat} {val : Int} (hne : ∀ t ∈ W.ts, t.1 ≠ t.2.1) (f : FlowOk W.ts src snk xs val) (c : Came W.ts xs n src M g) (sh : Shut W.ts xs M) (hk : ∀ q ∈ snk, q ∉ M) : minCut W src snk = cost W.ts (fun v => decide (v ∈ M)) := by
  have hS : Sep src snk (fun v => decide (v ∈ M)) := ⟨fun p hp => decide_eq_true (c.src p hp), fun q hq => decide_eq_false (hk q hq)⟩
  have e : net W.ts xs (fun v => decide (v ∈ M)) = cost W.ts (fun v => decide (v ∈ M)) := by
    refine net_eq f.cap fun i t ht => ?_
    have hn := hne t (List.mem_of_getElem? ht)
    constructor
    · rintro ⟨h1, h2⟩
      have := sh t.1 (of_decide_eq_true h1) i t.2.1 (mem_nearI.mpr ⟨t, ht, .inl ⟨rfl, rfl⟩⟩) (of_decide_eq_false h2)
      unfold roomI at this
      rw [ht] at this
      have : (if t.1 = t.1 then t.2.2 - xs.getD i 0 else t.2.2 + xs.getD i 0) ≤ 0 := this
      rw [if_pos rfl] at this
      omega
    · rintro ⟨h1, h2⟩
      have := sh t.2.1 (of_decide_eq_true h2) i t.1 (mem_nearI.mpr ⟨t, ht, .inr ⟨rfl, rfl⟩⟩) (of_decide_eq_false h1)
      unfold roomI at this
      rw [ht] at this
      have : (if t.2.1 = t.1 then t.2.2 - xs.getD i 0 else t.2.2 + xs.getD i 0) ≤ 0 := this
      rw [if_neg (Ne.symm hn)] at this
      omega
  refine minOf_eq ⟨_, hS, rfl⟩ ?_
  rintro x ⟨S, h1, rfl⟩
  rw [← e, f.even _ hS, ← f.even _ h1]
  exact net_le f.cap S
end
end PW
set_option linter.all false
namespace PW
theorem wsum_lt : ∀ {ts : List Tie} {d e : Nat → Nat → Bool}, (∀ t ∈ ts, 1 ≤ t.2.2) → (∀ t ∈ ts, d t.1 t.2.1 = true → e t.1 t.2.1 = true) → (∃ t ∈ ts, d t.1 t.2.1 = false ∧ e t.1 t.2.1 = true) → wsum ts d < wsum ts e
  | [], _, _, _, _, h => by obtain ⟨t, ht, _⟩ := h; cases ht
  | s :: ts, d, e, hp, hm, h => by
    rw [wsum_cons, wsum_cons]
    have h1 := hp s (List.mem_cons_self ..)
    have h2 := hm s (List.mem_cons_self ..)
    obtain ⟨t, ht, h3, h4⟩ := h
    rcases List.mem_cons.mp ht with rfl | ht
    · rw [if_neg (by rw [h3]; exact Bool.false_ne_true), if_pos h4]
      have := wsum_mono (ts := ts) (d := d) (e := e) (fun u hu => by have := hp u (List.mem_cons_of_mem _ hu); omega) fun u hu => hm u (List.mem_cons_of_mem _ hu)
      omega
    · have ih := wsum_lt (ts := ts) (d := d) (e := e) (fun u hu => hp u (List.mem_cons_of_mem _ hu)) (fun u hu => hm u (List.mem_cons_of_mem _ hu)) ⟨t, ht, h3, h4⟩
      by_cases hd : d s.1 s.2.1 = true
      · rw [if_pos hd, if_pos (h2 hd)]; omega
      · rw [if_neg hd]
        split <;> omega
theorem wsum_has {ts : List Tie} {d : Nat → Nat → Bool} (hp : ∀ t ∈ ts, 1 ≤ t.2.2) : 0 < wsum ts d ↔ ∃ t ∈ ts, d t.1 t.2.1 = true := by
  constructor
  · intro h
    refine Classical.byContradiction fun hn => ?_
    have : wsum ts d = 0 := wsum_zero fun t ht => by
      cases e : d t.1 t.2.1 with
      | false => rfl
      | true => exact absurd ⟨t, ht, e⟩ hn
    omega
  · rintro ⟨t, ht, h⟩
    have := wsum_lt (ts := ts) (d := fun _ _ => false) (e := d) hp (fun _ _ h => by cases h) ⟨t, ht, rfl, h⟩
    rw [wsum_false] at this
    exact this
theorem cost_congr {α : Type} [BEq α] {ts : List Tie} {f g : Nat → α} (h : ∀ t ∈ ts, f t.1 = g t.1 ∧ f t.2.1 = g t.2.1) : cost ts f = cost ts g := by
  unfold cost
  refine wsum_congr fun t ht => ?_
  rw [(h t ht).1, (h t ht).2]
/-! ### under new names -/
abbrev loS (s : Nat → Nat) (a b : Nat) : Nat := min (s a) (s b)
abbrev hiS (s : Nat → Nat) (a b : Nat) : Nat := max (s a) (s b)
def SumS (ts ts' : List Tie) (s : Nat → Nat) : Prop := ∀ dd : Nat → Nat → Bool, wsum ts' dd = wsum ts fun a b => s a != s b && dd (loS s a b) (hiS s a b)
theorem cost_sumS {α : Type} [BEq α] [LawfulBEq α] {ts ts' : List Tie} {s : Nat → Nat} (h : SumS ts ts' s) (f : Nat → α) : cost ts' f = cost ts fun v => f (s v) := by
  unfold cost
  rw [h]
  refine wsum_congr fun t _ => ?_
  show (s t.1 != s t.2.1 && (f (min (s t.1) (s t.2.1)) != f (max (s t.1) (s t.2.1)))) = (f (s t.1) != f (s t.2.1))
  by_cases e : s t.1 = s t.2.1
  · rw [e]
    simp
  · rw [bne_iff_ne.mpr e, Bool.true_and]
    by_cases hl : s t.1 ≤ s t.2.1
    · rw [Nat.min_eq_left hl, Nat.max_eq_right hl]
    · rw [Nat.min_eq_right (by omega), Nat.max_eq_left (by omega), bne_comm]
structure Turn (W : Web) (posts : List Nat) (W' : Web) (posts' : List Nat) (s t : Nat → Nat) : Prop where
  ok : WOk W
  ok' : WOk W'
  p : POk W posts
  p' : POk W' posts'
  n : W'.n = W.n
  ls : ∀ v, v < W.n → s v < W.n
  lt : ∀ v, v < W.n → t v < W.n
  ts : ∀ v, v < W.n → t (s v) = v
  st : ∀ v, v < W.n → s (t v) = v
  ps : ∀ q ∈ posts, s q ∈ posts'
  pt : ∀ q ∈ posts', t q ∈ posts
  sum : SumS W.ts W'.ts s
section
variable {W W' : Web} {posts posts' : List Nat} {s t : Nat → Nat}
theorem Turn.symm (h : Turn W posts W' posts' s t) : Turn W' posts' W posts t s := by
  refine ⟨h.ok', h.ok, h.p', h.p, h.n.symm, fun v hv => by rw [h.n] at hv ⊢; exact h.lt v hv, fun v hv => by rw [h.n] at hv ⊢; exact h.ls v hv, fun v hv => h.st v (by rw [← h.n]; exact hv), fun v hv => h.ts v (by rw [← h.n]; exact hv), h.pt, h.ps, fun dd => ?_⟩
  rw [h.sum]
  refine wsum_congr fun u hu => ?_
  have g := h.ok.good.1 u hu
  have e1 := h.ts u.1 (by omega)
  have e2 := h.ts u.2.1 g.2.1
  have hne : s u.1 ≠ s u.2.1 := fun e => by rw [e, e2] at e1; omega
  show dd u.1 u.2.1 = (s u.1 != s u.2.1 && (t (min (s u.1) (s u.2.1)) != t (max (s u.1) (s u.2.1)) && dd (min (t (min (s u.1) (s u.2.1))) (t (max (s u.1) (s u.2.1)))) (max (t (min (s u.1) (s u.2.1))) (t (max (s u.1) (s u.2.1))))))
  rw [bne_iff_ne.mpr hne, Bool.true_and]
  by_cases hl : s u.1 ≤ s u.2.1
  · rw [Nat.min_eq_left hl, Nat.max_eq_right hl, e1, e2, bne_iff_ne.mpr (show u.1 ≠ u.2.1 by omega), Bool.true_and, Nat.min_eq_left (by omega), Nat.max_eq_right (by omega)]
  · rw [Nat.min_eq_right (by omega), Nat.max_eq_left (by omega), e1, e2, bne_iff_ne.mpr (show u.2.1 ≠ u.1 by omega), Bool.true_and, Nat.min_eq_right (by omega), Nat.max_eq_left (by omega)]
/-- owners under the new names -/
def turnF (n : Nat) (s t : Nat → Nat) (d : Nat) (f : Nat → Nat) (u : Nat) : Nat := if u < n then s (f (t u)) else s d
theorem Turn.owns (h : Turn W posts W' posts' s t) {f : Nat → Nat} (o : Owns posts f) : Owns posts' (turnF W.n s t (posts.getD 0 0) f) := by
  refine ⟨fun p hp => ?_, fun v => ?_⟩
  · have hn : p < W.n := by rw [← h.n]; exact h.p'.lt p hp
    unfold turnF
    rw [if_pos hn, o.1 _ (h.pt p hp), h.st p hn]
  · unfold turnF
    split
    · exact h.ps _ (o.2 _)
    · exact h.ps _ (getD_mem h.p.ne)
theorem Turn.inj (h : Turn W posts W' posts' s t) {a b : Nat} (ha : a ∈ posts) (hb : b ∈ posts) (e : s a = s b) : a = b := by
  have := congrArg t e
  rw [h.ts a (h.p.lt a ha), h.ts b (h.p.lt b hb)] at this
  exact this
theorem Turn.cost (h : Turn W posts W' posts' s t) {f : Nat → Nat} (o : Owns posts f) : cost W'.ts (turnF W.n s t (posts.getD 0 0) f) = cost W.ts f := by
  rw [cost_sumS h.sum]
  unfold PW.cost
  refine wsum_congr fun u hu => ?_
  have g := h.ok.good.1 u hu
  show (turnF W.n s t (posts.getD 0 0) f (s u.1) != turnF W.n s t (posts.getD 0 0) f (s u.2.1)) = (f u.1 != f u.2.1)
  unfold turnF
  rw [if_pos (h.ls u.1 (by omega)), if_pos (h.ls u.2.1 g.2.1), h.ts u.1 (by omega), h.ts u.2.1 g.2.1]
  exact bne_congr ⟨fun e => h.inj (o.2 _) (o.2 _) e, fun e => by rw [e]⟩
theorem Turn.least_le (h : Turn W posts W' posts' s t) : leastW W' posts' ≤ leastW W posts := by
  obtain ⟨f, o, e⟩ := leastW_some h.ok h.p
  have := leastW_le h.ok' h.p' (h.owns o)
  rw [h.cost o, e] at this
  exact this
theorem Turn.least (h : Turn W posts W' posts' s t) : leastW W' posts' = leastW W posts := by
  have h1 := h.least_le
  have h2 := h.symm.least_le
  omega
theorem Turn.adj (h : Turn W posts W' posts' s t) {a b : Nat} (x : Adj W.ts a b) : Adj W'.ts (s a) (s b) := by
  obtain ⟨u, hu, hab⟩ := x
  have g := h.ok.good.1 u hu
  have hp : ∀ t ∈ W.ts, 1 ≤ t.2.2 := fun t ht => (h.ok.good.1 t ht).2.2
  have hp' : ∀ t ∈ W'.ts, 1 ≤ t.2.2 := fun t ht => (h.ok'.good.1 t ht).2.2
  have hne : s u.1 ≠ s u.2.1 := fun e => by
    have := congrArg t e
    rw [h.ts u.1 (by omega), h.ts u.2.1 g.2.1] at this
    omega
  have e := h.sum fun x y => x == loS s u.1 u.2.1 && y == hiS s u.1 u.2.1
  have hpos : 0 < wsum W.ts fun a b => s a != s b && ((loS s a b) == loS s u.1 u.2.1 && (hiS s a b) == hiS s u.1 u.2.1) := (wsum_has hp).mpr ⟨u, hu, by rw [bne_iff_ne.mpr hne]; simp⟩
  rw [← e] at hpos
  obtain ⟨v, hv, hv2⟩ := (wsum_has hp').mp hpos
  rw [Bool.and_eq_true, beq_iff_eq, beq_iff_eq] at hv2
  obtain ⟨e1, e2⟩ := hv2
  have e1 : v.1 = min (s u.1) (s u.2.1) := e1
  have e2 : v.2.1 = max (s u.1) (s u.2.1) := e2
  have key : (v.1 = s u.1 ∧ v.2.1 = s u.2.1) ∨ (v.1 = s u.2.1 ∧ v.2.1 = s u.1) := by omega
  refine ⟨v, hv, ?_⟩
  rcases hab with ⟨rfl, rfl⟩ | ⟨rfl, rfl⟩
  · exact key
  · exact key.symm
theorem Turn.conn (h : Turn W posts W' posts' s t) {a b : Nat} (x : Conn (Adj W.ts) a b) : Conn (Adj W'.ts) (s a) (s b) := by
  induction x with
  | refl => exact .refl
  | step _ r ih => exact .step ih (h.adj r)
theorem Turn.ordO (h : Turn W posts W' posts' s t) {v : Nat} (hv : v ∈ ordO W posts) : s v ∈ ordO W' posts' := by
  rw [mem_ordO h.p] at hv
  rw [mem_ordO h.p', h.n]
  obtain ⟨h1, q, h2, h3⟩ := hv
  exact ⟨h.ls v h1, s q, h.ps q h2, h.conn h3⟩
end
/-! ### counting least rows -/
theorem row_ext {W : Web} {posts r r' : List Nat} (p : POk W posts) (h : r ∈ rowsF W posts) (h' : r' ∈ rowsF W posts) (e : ∀ v ∈ ordO W posts, fR (ordO W posts) posts r v = fR (ordO W posts) posts r' v) : r = r' := by
  obtain ⟨h1, h2, _⟩ := rowF h
  obtain ⟨h1', h2', _⟩ := rowF h'
  refine List.ext_getElem (by omega) fun i hi hi' => ?_
  have hiO : i < (ordO W posts).length := by omega
  have hv : (ordO W posts)[i] ∈ ordO W posts := List.getElem_mem _
  have ee := e _ hv
  unfold fR at ee
  rw [if_pos hv, if_pos hv, (ordO_nd p).idxOf_getElem] at ee
  have a1 : r.getD i 0 = r[i] := by rw [List.getD_eq_getElem?_getD, List.getElem?_eq_getElem hi]; rfl
  have a2 : r'.getD i 0 = r'[i] := by rw [List.getD_eq_getElem?_getD, List.getElem?_eq_getElem hi']; rfl
  rw [a1, a2] at ee
  exact getD_inj p.nd (h2 _ (List.getElem_mem _)) (h2' _ (List.getElem_mem _)) ee
theorem count_le {W W' : Web} {posts posts' : List Nat} (ok : WOk W) (ok' : WOk W') (p : POk W posts) (p' : POk W' posts') (T : (Nat → Nat) → Nat → Nat)
    (hT : ∀ f, Owns posts f → cost W.ts f = leastW W posts → Owns posts' (T f) ∧ cost W'.ts (T f) = leastW W' posts')
    (hi : ∀ f g, Owns posts f → Owns posts g → (∀ v ∈ ordO W' posts', T f v = T g v) → ∀ v ∈ ordO W posts, f v = g v) : (leastR W posts).length ≤ (leastR W' posts').length := by
  have hpos' : ∀ t ∈ W'.ts, 0 ≤ t.2.2 := fun t ht => by have := ok'.good.1 t ht; omega
  have hnd : ((leastR W posts).map fun r => rOf W' posts' (T (fR (ordO W posts) posts r))).Nodup := by
    rw [List.nodup_iff_pairwise_ne, List.pairwise_map]
    refine List.Pairwise.imp_of_mem (R := fun a b => a ≠ b) (fun {r r'} hr hr' hne e => hne ?_) (List.nodup_iff_pairwise_ne.mp (leastR_nd W posts))
    have m1 := (mem_leastR ok p).mp hr
    have m2 := (mem_leastR ok p).mp hr'
    have o1 := fR_owns p m1.1
    have o2 := fR_owns p m2.1
    refine row_ext p m1.1 m2.1 (hi _ _ o1 o2 fun v hv => ?_)
    have t1 := (hT _ o1 m1.2).1
    have t2 := (hT _ o2 m2.2).1
    have ee := congrArg (fun l => l.getD ((ordO W' posts').idxOf v) 0) e
    rw [rOf_get hv, rOf_get hv] at ee
    exact idx_inj (t1.2 v) (t2.2 v) ee
  have := nodup_length_le hnd (b := leastR W' posts') fun y hy => by
    obtain ⟨r, hr, rfl⟩ := List.mem_map.mp hy
    have m1 := (mem_leastR ok p).mp hr
    obtain ⟨o, e⟩ := hT _ (fR_owns p m1.1) m1.2
    have hm := rOf_mem o p'
    refine (mem_leastR ok' p').mpr ⟨hm, ?_⟩
    rw [cost_fR ok'.good p' hm]
    have h1 := rc_rOf (W := W') (posts := posts') hpos' o
    have h2 := (leastW_spec ok' p').2 _ hm
    omega
  rw [List.length_map] at this
  exact this
section
variable {W W' : Web} {posts posts' : List Nat} {s t : Nat → Nat}
theorem Turn.count_le (h : Turn W posts W' posts' s t) : (leastR W posts).length ≤ (leastR W' posts').length := by
  refine PW.count_le h.ok h.ok' h.p h.p' (turnF W.n s t (posts.getD 0 0)) (fun f o e => ⟨h.owns o, by rw [h.cost o, e, h.least]⟩) fun f g of og e v hv => ?_
  have hvn := ((mem_ordO h.p).mp hv).1
  have ee := e (s v) (h.ordO hv)
  unfold turnF at ee
  rw [if_pos (h.ls v hvn), if_pos (h.ls v hvn), h.ts v hvn] at ee
  exact h.inj (of.2 v) (og.2 v) ee
theorem Turn.count (h : Turn W posts W' posts' s t) : (leastR W' posts').length = (leastR W posts).length := by
  have h1 := h.count_le
  have h2 := h.symm.count_le
  omega
theorem minOf_congr {S T : Int → Prop} (h : ∀ x, S x ↔ T x) : minOf S = minOf T := by
  have : S = T := funext fun x => propext (h x)
  rw [this]
theorem Turn.cut (h : Turn W posts W' posts' s t) {p : Nat} (hp : p ∈ posts) : minCut W' [s p] (posts'.filter fun o => o != s p) = minCut W [p] (posts.filter fun o => o != p) := by
  unfold minCut
  refine minOf_congr fun x => ⟨?_, ?_⟩
  · rintro ⟨S, ⟨h1, h2⟩, e⟩
    refine ⟨fun v => S (s v), ⟨fun q hq => ?_, fun q hq => ?_⟩, by rw [← cost_sumS h.sum]; exact e⟩
    · rw [List.mem_singleton] at hq
      subst hq
      exact h1 _ (List.mem_singleton.mpr rfl)
    · obtain ⟨q1, q2⟩ := List.mem_filter.mp hq
      refine h2 _ (List.mem_filter.mpr ⟨h.ps q q1, bne_iff_ne.mpr fun e => bne_iff_ne.mp q2 (h.inj q1 hp e)⟩)
  · rintro ⟨S, ⟨h1, h2⟩, e⟩
    refine ⟨fun v => S (t v), ⟨fun q hq => ?_, fun q hq => ?_⟩, ?_⟩
    · rw [List.mem_singleton] at hq
      subst hq
      show S (t (s p)) = true
      rw [h.ts p (h.p.lt p hp)]
      exact h1 p (List.mem_singleton.mpr rfl)
    · obtain ⟨q1, q2⟩ := List.mem_filter.mp hq
      refine h2 _ (List.mem_filter.mpr ⟨h.pt q q1, bne_iff_ne.mpr fun e => bne_iff_ne.mp q2 ?_⟩)
      rw [← e, h.st q (by rw [← h.n]; exact h.p'.lt q q1)]
    · rw [cost_sumS h.sum, ← e]
      refine cost_congr fun u hu => ?_
      have g := h.ok.good.1 u hu
      show S (t (s u.1)) = _ ∧ S (t (s u.2.1)) = _
      rw [h.ts u.1 (by omega), h.ts u.2.1 g.2.1]
      exact ⟨rfl, rfl⟩
end
/-! ### weights times a number -/
def timesW (W : Web) (c : Int) : Web := ⟨W.n, W.ts.map fun t => (t.1, t.2.1, t.2.2 * c)⟩
section
variable {W : Web} {posts : List Nat} {c : Int}
theorem times_ok (ok : WOk W) (hc : 1 ≤ c) : WOk (timesW W c) := by
  refine ⟨⟨fun t ht => ?_, ?_⟩, ok.n0, ok.n1, by show (W.ts.map _).length ≤ _; rw [List.length_map]; exact ok.len⟩
  · obtain ⟨u, hu, rfl⟩ := List.mem_map.mp ht
    have g := ok.good.1 u hu
    refine ⟨g.1, g.2.1, ?_⟩
    show 1 ≤ u.2.2 * c
    have := Int.mul_le_mul g.2.2 hc (by decide) (by omega)
    simpa using this
  · show ((W.ts.map fun t => (t.1, t.2.1, t.2.2 * c)).map pr).Nodup
    rw [List.map_map]
    exact ok.good.2
theorem cost_times {α : Type} [BEq α] (f : Nat → α) : cost (timesW W c).ts f = cost W.ts f * c := wsum_scale _ _ _
theorem times_least (ok : WOk W) (p : POk W posts) (hc : 1 ≤ c) : leastW (timesW W c) posts = leastW W posts * c := by
  have p' : POk (timesW W c) posts := ⟨p.nd, p.ne, p.lt⟩
  refine leastW_mk (times_ok ok hc) p' ?_ fun f o => ?_
  · obtain ⟨f, o, e⟩ := leastW_some ok p
    exact ⟨f, o, by rw [cost_times, e]⟩
  · rw [cost_times]
    exact Int.mul_le_mul_of_nonneg_right (leastW_le ok p o) (by omega)
theorem times_adj {a b : Nat} : Adj (timesW W c).ts a b ↔ Adj W.ts a b := by
  constructor
  · rintro ⟨t, ht, h⟩
    obtain ⟨u, hu, rfl⟩ := List.mem_map.mp ht
    exact ⟨u, hu, h⟩
  · rintro ⟨t, ht, h⟩
    exact ⟨_, List.mem_map.mpr ⟨t, ht, rfl⟩, h⟩
theorem times_ordO (p : POk W posts) : ∀ v, v ∈ ordO (timesW W c) posts ↔ v ∈ ordO W posts := by
  intro v
  have p' : POk (timesW W c) posts := ⟨p.nd, p.ne, p.lt⟩
  rw [mem_ordO p', mem_ordO p]
  constructor
  · rintro ⟨h1, q, h2, h3⟩
    exact ⟨h1, q, h2, h3.mono fun a b h => times_adj.mp h⟩
  · rintro ⟨h1, q, h2, h3⟩
    exact ⟨h1, q, h2, h3.mono fun a b h => times_adj.mpr h⟩
theorem times_count (ok : WOk W) (p : POk W posts) (hc : 1 ≤ c) : (leastR (timesW W c) posts).length = (leastR W posts).length := by
  have p' : POk (timesW W c) posts := ⟨p.nd, p.ne, p.lt⟩
  have h1 := count_le ok (times_ok ok hc) p p' (fun f => f) (fun f o e => ⟨o, by rw [cost_times, e, times_least ok p hc]⟩) fun f g _ _ e v hv => e v ((times_ordO p v).mpr hv)
  have h2 := count_le (times_ok ok hc) ok p' p (fun f => f) (fun f o e => ⟨o, by
    rw [cost_times, times_least ok p hc] at e
    exact Int.eq_of_mul_eq_mul_right (by omega) e⟩) fun f g _ _ e v hv => e v ((times_ordO p v).mp hv)
  omega
theorem times_cut (hc : 1 ≤ c) (src snk : List Nat) (h : ∃ m, (∃ S, Sep src snk S ∧ cost W.ts S = m) ∧ ∀ S, Sep src snk S → m ≤ cost W.ts S) : minCut (timesW W c) src snk = minCut W src snk * c := by
  obtain ⟨m, ⟨S, h1, h2⟩, h3⟩ := h
  have e1 : minCut W src snk = m := minOf_eq ⟨S, h1, h2⟩ fun x ⟨T, t1, t2⟩ => t2 ▸ h3 T t1
  rw [e1]
  refine minOf_eq ⟨S, h1, by rw [cost_times, h2]⟩ fun x ⟨T, t1, t2⟩ => ?_
  rw [← t2, cost_times]
  exact Int.mul_le_mul_of_nonneg_right (h3 T t1) (by omega)
end
end PW
set_option linter.all false
namespace PW
theorem int_min {S : Int → Prop} (h0 : ∀ x, S x → 0 ≤ x) (h : ∃ x, S x) : ∃ m, S m ∧ ∀ x, S x → m ≤ x := by
  obtain ⟨x, hx⟩ := h
  have : ∀ n : Nat, ∀ x : Int, x.toNat ≤ n → S x → ∃ m, S m ∧ ∀ x, S x → m ≤ x := by
    intro n
    induction n with
    | zero =>
      intro x hn hx
      refine ⟨x, hx, fun y hy => ?_⟩
      have := h0 x hx
      have := h0 y hy
      omega
    | succ n ih =>
      intro x hn hx
      by_cases h : ∃ y, S y ∧ y < x
      · obtain ⟨y, hy, hl⟩ := h
        have := h0 y hy
        exact ih y (by omega) hy
      · refine ⟨x, hx, fun y hy => ?_⟩
        have : ¬ y < x := fun q => h ⟨y, hy, q⟩
        omega
  exact this _ x (Nat.le_refl _) hx
theorem cut_some {W : Web} (ok : WOk W) {src snk : List Nat} (h : ∀ p ∈ src, p ∉ snk) : ∃ m, (∃ S, Sep src snk S ∧ cost W.ts S = m) ∧ ∀ S, Sep src snk S → m ≤ cost W.ts S := by
  have hp : ∀ t ∈ W.ts, 0 ≤ t.2.2 := fun t ht => by have := ok.good.1 t ht; omega
  obtain ⟨m, h1, h2⟩ := int_min (S := fun x => ∃ S, Sep src snk S ∧ cost W.ts S = x) (fun x ⟨S, _, e⟩ => e ▸ wsum_nonneg hp) ⟨_, fun v => decide (v ∈ src), ⟨fun p hp => decide_eq_true hp, fun q hq => decide_eq_false fun z => h q z hq⟩, rfl⟩
  exact ⟨m, h1, fun S hS => h2 _ ⟨S, hS, rfl⟩⟩
/-! ### a place hung on, a tie in two -/
section
variable {W W' : Web} {posts : List Nat}
theorem hang_least (ok : WOk W) (ok' : WOk W') (p : POk W posts) (p' : POk W' posts) {a : Nat} {w : Int} (hn : W'.n = W.n + 1) (ha : a < W.n) (hw : 0 ≤ w) (hs : ∀ dd, wsum W'.ts dd = wsum W.ts dd + if dd a W.n = true then w else 0) : leastW W' posts = leastW W posts := by
  have hc : ∀ f : Nat → Nat, cost W'.ts f = cost W.ts f + if (f a != f W.n) = true then w else 0 := fun f => hs fun a b => f a != f b
  refine leastW_mk ok' p' ?_ fun f o => ?_
  · obtain ⟨f, o, e⟩ := leastW_some ok p
    refine ⟨fun v => if v = W.n then f a else f v, ⟨fun q hq => ?_, fun v => ?_⟩, ?_⟩
    · have := p.lt q hq
      show (if q = W.n then f a else f q) = q
      rw [if_neg (by omega)]
      exact o.1 q hq
    · show (if v = W.n then f a else f v) ∈ posts
      split
      · exact o.2 a
      · exact o.2 v
    · rw [hc]
      have e1 : cost W.ts (fun v => if v = W.n then f a else f v) = cost W.ts f := cost_congr fun t ht => by
        have := ok.good.1 t ht
        exact ⟨if_neg (by omega), if_neg (by omega)⟩
      rw [e1, e, if_neg]
      · omega
      · show ¬ ((if a = W.n then f a else f a) != (if W.n = W.n then f a else f W.n)) = true
        rw [if_neg (by omega), if_pos rfl]
        simp
  · rw [hc]
    have := leastW_le ok p o
    split <;> omega
theorem split_least (ok : WOk W) (ok' : WOk W') (p : POk W posts) (p' : POk W' posts) {t : Tie} (ht : t ∈ W.ts) (hn : W'.n = W.n + 1) (hs : ∀ dd : Nat → Nat → Bool, wsum W'.ts dd + (if dd t.1 t.2.1 = true then t.2.2 else 0) = wsum W.ts dd + (if dd t.1 W.n = true then t.2.2 else 0) + if dd t.2.1 W.n = true then t.2.2 else 0) : leastW W' posts = leastW W posts := by
  have hc : ∀ f : Nat → Nat, cost W'.ts f + (if (f t.1 != f t.2.1) = true then t.2.2 else 0) = cost W.ts f + (if (f t.1 != f W.n) = true then t.2.2 else 0) + if (f t.2.1 != f W.n) = true then t.2.2 else 0 := fun f => hs fun a b => f a != f b
  have gt := ok.good.1 t ht
  refine leastW_mk ok' p' ?_ fun f o => ?_
  · obtain ⟨f, o, e⟩ := leastW_some ok p
    refine ⟨fun v => if v = W.n then f t.1 else f v, ⟨fun q hq => ?_, fun v => ?_⟩, ?_⟩
    · have := p.lt q hq
      show (if q = W.n then f t.1 else f q) = q
      rw [if_neg (by omega)]
      exact o.1 q hq
    · show (if v = W.n then f t.1 else f v) ∈ posts
      split
      · exact o.2 _
      · exact o.2 v
    · have h := hc fun v => if v = W.n then f t.1 else f v
      have e1 : cost W.ts (fun v => if v = W.n then f t.1 else f v) = cost W.ts f := cost_congr fun u hu => by
        have := ok.good.1 u hu
        exact ⟨if_neg (by omega), if_neg (by omega)⟩
      rw [e1, e] at h
      have e2 : (if t.1 = W.n then f t.1 else f t.1) = f t.1 := by split <;> rfl
      have e3 : (if t.2.1 = W.n then f t.1 else f t.2.1) = f t.2.1 := if_neg (by omega)
      have e4 : (if W.n = W.n then f t.1 else f W.n) = f t.1 := if_pos rfl
      have h : cost W'.ts (fun v => if v = W.n then f t.1 else f v) + (if ((if t.1 = W.n then f t.1 else f t.1) != (if t.2.1 = W.n then f t.1 else f t.2.1)) = true then t.2.2 else 0) = leastW W posts + (if ((if t.1 = W.n then f t.1 else f t.1) != (if W.n = W.n then f t.1 else f W.n)) = true then t.2.2 else 0) + if ((if t.2.1 = W.n then f t.1 else f t.2.1) != (if W.n = W.n then f t.1 else f W.n)) = true then t.2.2 else 0 := h
      rw [e2, e3, e4, bne_self_eq_false, bne_comm (a := f t.2.1)] at h
      rw [if_neg Bool.false_ne_true] at h
      omega
  · have h := hc f
    have := leastW_le ok p o
    have hor : (f t.1 != f t.2.1) = true → (f t.1 != f W.n) = true ∨ (f t.2.1 != f W.n) = true := by
      intro q
      by_cases e : f t.1 = f W.n
      · refine .inr (bne_iff_ne.mpr fun e2 => bne_iff_ne.mp q (e.trans e2.symm))
      · exact .inl (bne_iff_ne.mpr e)
    have g3 := gt.2.2
    by_cases h1 : (f t.1 != f t.2.1) = true
    · rw [if_pos h1] at h
      rcases hor h1 with h2 | h2
      · rw [if_pos h2] at h
        split at h <;> omega
      · rw [if_pos h2] at h
        split at h <;> omega
    · rw [if_neg h1] at h
      split at h <;> split at h <;> omega
theorem wsum_without {ts : List Tie} {t : Tie} (dd : Nat → Nat → Bool) (nd : (ts.map pr).Nodup) (h : t ∈ ts) : wsum (ts.filter fun u => decide (u ≠ t)) dd + (if dd t.1 t.2.1 = true then t.2.2 else 0) = wsum ts dd := by
  induction ts with
  | nil => cases h
  | cons s ts ih =>
    rw [List.map_cons, List.nodup_cons] at nd
    rw [List.filter_cons, wsum_cons]
    by_cases e : s = t
    · subst e
      rw [if_neg (by simp)]
      have : ts.filter (fun u => decide (u ≠ s)) = ts := by
        rw [List.filter_eq_self]
        intro u hu
        refine decide_eq_true fun e => nd.1 ?_
        subst e
        exact List.mem_map.mpr ⟨u, hu, rfl⟩
      rw [this]
      omega
    · have hm := (List.mem_cons.mp h).resolve_left fun z => e z.symm
      rw [if_pos (decide_eq_true e), wsum_cons]
      have := ih nd.2 hm
      omega
/-! ### one tie weighed anew -/
theorem weighed_same (ok : WOk W) (ok' : WOk W') (p : POk W posts) (p' : POk W' posts) {a b : Nat} {δ : Int} (hs : ∀ dd : Nat → Nat → Bool, wsum W'.ts dd = wsum W.ts dd + if dd a b = true then δ else 0) {f : Nat → Nat} (o : Owns posts f) (hf : cost W.ts f = leastW W posts) (h : (0 ≤ δ ∧ f a = f b) ∨ δ = 0) : leastW W' posts = leastW W posts := by
  have hc : ∀ f : Nat → Nat, cost W'.ts f = cost W.ts f + if (f a != f b) = true then δ else 0 := fun f => hs fun a b => f a != f b
  refine leastW_mk ok' p' ⟨f, o, ?_⟩ fun g og => ?_
  · rw [hc, hf]
    rcases h with ⟨_, h⟩ | h
    · rw [h, bne_self_eq_false, if_neg Bool.false_ne_true]; omega
    · rw [h]; split <;> omega
  · rw [hc]
    have := leastW_le ok p og
    rcases h with ⟨h, _⟩ | h
    · split <;> omega
    · rw [h]; split <;> omega
theorem weighed_less (ok : WOk W) (ok' : WOk W') (p : POk W posts) (p' : POk W' posts) {a b : Nat} (hs : ∀ dd : Nat → Nat → Bool, wsum W'.ts dd = wsum W.ts dd + if dd a b = true then (-1 : Int) else 0) {f : Nat → Nat} (o : Owns posts f) (hf : cost W.ts f = leastW W posts) (h : f a ≠ f b) : leastW W' posts = leastW W posts - 1 := by
  have hc : ∀ f : Nat → Nat, cost W'.ts f = cost W.ts f + if (f a != f b) = true then (-1 : Int) else 0 := fun f => hs fun a b => f a != f b
  refine leastW_mk ok' p' ⟨f, o, ?_⟩ fun g og => ?_
  · rw [hc, hf, if_pos (bne_iff_ne.mpr h)]; omega
  · rw [hc]
    have := leastW_le ok p og
    split <;> omega
theorem weighed_more (ok : WOk W) (ok' : WOk W') (p : POk W posts) (p' : POk W' posts) {t : Tie} (ht : t ∈ W.ts) (hs : ∀ dd : Nat → Nat → Bool, wsum W'.ts dd = wsum W.ts dd + if dd t.1 t.2.1 = true then (1 : Int) else 0) :
    leastW W' posts = leastW W posts + if ∀ r ∈ leastR W posts, fR (ordO W posts) posts r t.1 ≠ fR (ordO W posts) posts r t.2.1 then 1 else 0 := by
  have hc : ∀ f : Nat → Nat, cost W'.ts f = cost W.ts f + if (f t.1 != f t.2.1) = true then (1 : Int) else 0 := fun f => hs fun a b => f a != f b
  have hpos : ∀ t ∈ W.ts, 0 ≤ t.2.2 := fun t ht => by have := ok.good.1 t ht; omega
  by_cases h : ∀ r ∈ leastR W posts, fR (ordO W posts) posts r t.1 ≠ fR (ordO W posts) posts r t.2.1
  · rw [if_pos h]
    obtain ⟨r0, hr0⟩ : ∃ r, r ∈ leastR W posts := by
      cases e : leastR W posts with
      | nil => exact absurd e (leastR_ne ok p)
      | cons r l => exact ⟨r, List.mem_cons_self ..⟩
    have m0 := (mem_leastR ok p).mp hr0
    refine leastW_mk ok' p' ⟨_, fR_owns p m0.1, by rw [hc, m0.2, if_pos (bne_iff_ne.mpr (h r0 hr0))]⟩ fun g og => ?_
    rw [hc]
    have h1 := leastW_le ok p og
    by_cases e : cost W.ts g = leastW W posts
    · have hm := rOf_mem og p
      have h2 := rc_rOf (W := W) (posts := posts) hpos og
      have h3 := (leastW_spec ok p).2 _ hm
      have hr : rOf W posts g ∈ leastR W posts := (mem_leastR ok p).mpr ⟨hm, by rw [cost_fR ok.good p hm]; omega⟩
      have hcut := h _ hr
      have hin : t.1 ∈ ordO W posts ↔ t.2.1 ∈ ordO W posts := ordO_adj ok.good p ⟨t, ht, .inl ⟨rfl, rfl⟩⟩
      have hv : t.1 ∈ ordO W posts := Classical.byContradiction fun hn => hcut (by
        unfold fR
        rw [if_neg hn, if_neg fun q => hn (hin.mpr q)])
      have fv : ∀ v, v ∈ ordO W posts → fR (ordO W posts) posts (rOf W posts g) v = g v := fun v hv => by
        unfold fR
        rw [if_pos hv, rOf_get hv, List.getD_eq_getElem?_getD, get_idx (og.2 v)]
        rfl
      rw [fv _ hv, fv _ (hin.mp hv)] at hcut
      rw [if_pos (bne_iff_ne.mpr hcut)]
      omega
    · split <;> omega
  · rw [if_neg h]
    obtain ⟨r, hr⟩ : ∃ r, r ∈ leastR W posts ∧ fR (ordO W posts) posts r t.1 = fR (ordO W posts) posts r t.2.1 := by
      refine Classical.byContradiction fun hn => h fun r hr e => hn ⟨r, hr, e⟩
    have m0 := (mem_leastR ok p).mp hr.1
    refine leastW_mk ok' p' ⟨_, fR_owns p m0.1, by rw [hc, m0.2, hr.2, bne_self_eq_false, if_neg Bool.false_ne_true]⟩ fun g og => ?_
    rw [hc]
    have h1 := leastW_le ok p og
    split <;> omega
theorem filter_all {α : Type} {p : α → Bool} : ∀ {l : List α}, (l.filter p).length = l.length ↔ ∀ x ∈ l, p x = true := by
  intro l
  rw [List.length_filter_eq_length_iff]
/-! ### what a least row tells -/
theorem told_reach (ok : WOk W) (p : POk W posts) {f : Nat → Nat} (o : Owns posts f) (hf : cost W.ts f = leastW W posts) {v : Nat} (hv : v < W.n) (ht : ∃ q ∈ posts, Conn (Adj W.ts) q v) : ∃ q ∈ posts, Conn (Adj (W.ts.filter fun t => f t.1 == f t.2.1)) q v := by
  refine Classical.byContradiction fun hno => ?_
  have hp1 : ∀ t ∈ W.ts, 1 ≤ t.2.2 := fun t ht => (ok.good.1 t ht).2.2
  generalize hR : Adj (W.ts.filter fun t => f t.1 == f t.2.1) = R at *
  have symR : ∀ a b, R a b → R b a := by subst hR; exact adj_symm _
  have noP : ∀ q ∈ posts, ¬ Conn R v q := fun q hq h => hno ⟨q, hq, h.symm symR⟩
  -- a tie that leaves
  obtain ⟨u, u', h1, h2, h3⟩ : ∃ u u', Conn R v u ∧ ¬ Conn R v u' ∧ Adj W.ts u u' := by
    refine Classical.byContradiction fun hn => ?_
    obtain ⟨q, hq, hc⟩ := ht
    have hc := hc.symm (adj_symm W.ts)
    refine noP q hq (Conn.closed (P := fun x => Conn R v x) (fun a b ha hab => ?_) Conn.refl hc)
    exact Classical.byContradiction fun hb => hn ⟨a, b, ha, hb, hab⟩
  let C : Nat → Bool := fun x => @decide (Conn R v x) (Classical.propDecidable _)
  have hC : ∀ x, C x = true ↔ Conn R v x := fun x => @decide_eq_true_iff _ (Classical.propDecidable _)
  let g : Nat → Nat := fun x => if C x = true then f u' else f x
  have og : Owns posts g := by
    refine ⟨fun q hq => ?_, fun x => ?_⟩
    · show (if C q = true then f u' else f q) = q
      rw [if_neg fun z => noP q hq ((hC q).mp z)]
      exact o.1 q hq
    · show (if C x = true then f u' else f x) ∈ posts
      split
      · exact o.2 _
      · exact o.2 _
  have gC : ∀ x, C x = true → g x = f u' := fun x h => if_pos h
  have gN : ∀ x, ¬ C x = true → g x = f x := fun x h => if_neg h
  -- a tie with one end within is cut by f
  have cutF : ∀ t ∈ W.ts, C t.1 ≠ C t.2.1 → f t.1 ≠ f t.2.1 := by
    intro t ht hne e
    have hR1 : R t.1 t.2.1 := by
      subst hR
      exact ⟨t, List.mem_filter.mpr ⟨ht, beq_iff_eq.mpr e⟩, .inl ⟨rfl, rfl⟩⟩
    apply hne
    cases h1 : C t.1 <;> cases h2 : C t.2.1
    · rfl
    · have := (hC _).mpr (((hC _).mp h2).step (symR _ _ hR1))
      rw [h1] at this; cases this
    · have := (hC _).mpr (((hC _).mp h1).step hR1)
      rw [h2] at this; cases this
    · rfl
  have hlt : cost W.ts g < cost W.ts f := by
    refine wsum_lt hp1 (fun t ht hg => ?_) ?_
    · by_cases hne : C t.1 = C t.2.1
      · by_cases h : C t.1 = true
        · have hg : (g t.1 != g t.2.1) = true := hg
          rw [gC _ h, gC _ (hne ▸ h), bne_self_eq_false] at hg
          cases hg
        · have hg : (g t.1 != g t.2.1) = true := hg
          rw [gN _ h, gN _ (fun z => h (hne ▸ z))] at hg
          exact hg
      · exact bne_iff_ne.mpr (cutF t ht hne)
    · obtain ⟨t, ht, hh⟩ := h3
      have cu : C u = true := (hC u).mpr h1
      have cu' : ¬ C u' = true := fun z => h2 ((hC u').mp z)
      have gu : g u = f u' := gC u cu
      have gu' : g u' = f u' := gN u' cu'
      refine ⟨t, ht, ?_, ?_⟩
      · show (g t.1 != g t.2.1) = false
        rcases hh with ⟨e1, e2⟩ | ⟨e1, e2⟩
        · rw [e1, e2, gu, gu']; simp
        · rw [e1, e2, gu, gu']; simp
      · refine bne_iff_ne.mpr (cutF t ht fun e => ?_)
        rcases hh with ⟨e1, e2⟩ | ⟨e1, e2⟩
        · rw [e1, e2] at e; exact cu' (e ▸ cu)
        · rw [e1, e2] at e; exact cu' (e.symm ▸ cu)
  have := leastW_le ok p og
  omega
theorem conn_owner {ts : List Tie} {f : Nat → Nat} {a b : Nat} (h : Conn (Adj (ts.filter fun t => f t.1 == f t.2.1)) a b) : f a = f b := by
  induction h with
  | refl => rfl
  | step _ r ih =>
    obtain ⟨t, ht, hh⟩ := r
    have e := beq_iff_eq.mp (List.mem_filter.mp ht).2
    rcases hh with ⟨e1, e2⟩ | ⟨e1, e2⟩
    · rw [ih, ← e1, ← e2, e]
    · rw [ih, ← e1, ← e2, e]
/-- owners told by a cut are the row's own -/
theorem told_owner (ok : WOk W) (p : POk W posts) {r : List Nat} (hr : r ∈ leastR W posts) {v x : Nat} (hv : v < W.n)
    (h1 : (∃ q ∈ posts, Conn (Adj (W.ts.filter fun t => fR (ordO W posts) posts r t.1 == fR (ordO W posts) posts r t.2.1)) q v) → x ∈ posts ∧ Conn (Adj (W.ts.filter fun t => fR (ordO W posts) posts r t.1 == fR (ordO W posts) posts r t.2.1)) x v)
    (h2 : (¬ ∃ q ∈ posts, Conn (Adj (W.ts.filter fun t => fR (ordO W posts) posts r t.1 == fR (ordO W posts) posts r t.2.1)) q v) → x = posts.getD 0 0) : x = fR (ordO W posts) posts r v := by
  have m := (mem_leastR ok p).mp hr
  have o := fR_owns p m.1
  by_cases h : ∃ q ∈ posts, Conn (Adj (W.ts.filter fun t => fR (ordO W posts) posts r t.1 == fR (ordO W posts) posts r t.2.1)) q v
  · obtain ⟨hx, hc⟩ := h1 h
    rw [← conn_owner hc, o.1 x hx]
  · rw [h2 h]
    have : v ∉ ordO W posts := fun hm => h (told_reach ok p o m.2 hv ((mem_ordO p).mp hm).2)
    unfold fR
    rw [if_neg this]
end
end PW
set_option Elab.async false
set_option linter.all false
set_option maxRecDepth 100000
set_option maxHeartbeats 4000000
namespace PW
open PySem PySem.Spec PyProof.Rows L2
theorem keyP_inj {p q : Nat × Nat} (h : keyP p = keyP q) : p = q := by
  obtain ⟨a, b⟩ := p
  obtain ⟨c, d⟩ := q
  have h' : ([Sum.inl (a : Int), Sum.inl (b : Int)] : List Key) = [Sum.inl (c : Int), Sum.inl (d : Int)] := h
  simp at h'
  have h1 : a = c := by omega
  have h2 : b = d := by omega
  rw [h1, h2]
/-- what a dict of pairs with tuple keys holds -/
theorem mergeT_has {α : Type} (key : α → Nat × Nat) (val : α → V) (q : Nat × Nat) : ∀ (l : List α) (kvs : List (List Key × V)), (valV (mergeT kvs (l.map fun a => (keyP (key a), val a))) (keyP q)).isSome = ((valV kvs (keyP q)).isSome || decide (q ∈ l.map key))
  | [], kvs => by
    show (valV kvs (keyP q)).isSome = _
    simp
  | a :: l, kvs => by
    show (valV (mergeT (putK kvs (keyP (key a)) (val a)) (l.map fun a => (keyP (key a), val a))) (keyP q)).isSome = _
    rw [mergeT_has key val q l, valV_put]
    by_cases e : q = key a
    · rw [if_pos (by rw [e])]
      simp [e]
    · rw [if_neg (fun h => e (keyP_inj h))]
      congr 1
      simp [e]
theorem pairsT_is {φ : Addr → Prop} {H : Hp} {α : Type} (key : α → Nat × Nat) (val : α → V) (vd : α → PyData) (hv : ∀ a x, Is φ H x (vd a) → x = val a) : ∀ {l : List α} {xs : List V}, IsAll φ H xs (l.map fun a => .tuple [pairD (key a), vd a]) →
    ∃ ps : List Addr, xs = ps.map V.ref ∧ PairsT H ps (l.map fun a => (keyP (key a), val a))
  | [], _, h => by cases h; exact ⟨[], rfl, .nil⟩
  | a :: l, _, h => by
    rw [List.map_cons] at h
    cases h with
    | cons h1 h2 =>
      obtain ⟨ps, e1, e2⟩ := pairsT_is key val vd hv h2
      cases h1 with
      | tup t1 t2 =>
        cases t2 with
        | cons a1 a2 =>
          cases a2 with
          | cons b1 b2 =>
            cases b2
            obtain ⟨b, rfl, hb⟩ := is_pair a1
            rw [hv _ _ b1] at t1
            exact ⟨_ :: ps, by rw [e1]; rfl, .cons ⟨b, t1, hb⟩ e2⟩
section
variable {P : Program} {w : World} {K : PySem.W.Frag} {mg : Str → Option Value} {base : Heap}
/-- the cut's pairs, as a dict's keys -/
def spPairsCut (K : PySem.W.Frag) : Sp := fun vs H Q _ => ∃ c, vs = [c] ∧ ∃ cut : List (Nat × Nat), Is Any H c (.list (cut.map pairD)) ∧ cut.length ≤ 90000 ∧
  ∀ p kvs H', Same H H' → H p = none → H' p = some (.dT kvs) → (∀ q : Nat × Nat, (valV kvs (keyP q)).isSome = decide (q ∈ cut)) → Q (.ref p) H'
-- pairs_cut: 0=cut 1=pair
theorem sc_pairs_cut : FnScope ["cut", "pair"] ["cut"] (defScope sPairsCut) := ⟨rfl, rfl, rfl, by decide +kernel, rfl, by decide +kernel, by decide +kernel⟩
theorem ok_pairs_cut (T : Tx K mg) : DefOk P w K mg base "pairs_cut" 1 ["cut"] (spPairsCut K) := by
  refine DefOk.mk' T.g_pairs_cut (fn_ok T.d_pairs_cut sc_pairs_cut (fun _ _ _ _ _ _ us hl => match us, hl with | [_], _ => rfl) (fun vs H Q E h => ?_) (fun cdv A outer s H vs Q E hr h => ?_))
  · obtain ⟨_, rfl, _⟩ := h
    rfl
  have hu := hu_of hr
  obtain ⟨v0, rfl, h⟩ := h
  refine ⟨_, (pss_one (ps_ret (pe_callTy (call_dictPT rfl hr.units) (by rfl) T.f_dict (by decide +kernel) (pa_cons (pe_lc (own := [("pair", 1)]) (g := (gName 1)) (tt := tYes) (te := (tTup (tCons (tCB (qTuple K) (tCons (tVar 1) tNil)) (tCons (tC (.bl true)) tNil)))) rfl sc_pairs_cut.nd (pi_list (pv 0)) (blkOk_by (N := ["cut", "pair"]) (sc := defScope sPairsCut) (by decide +kernel)) (fun _ _ _ _ _ => (pg_name (i := 1) sc_pairs_cut.nd rfl (.inl rfl) (.inr rfl))) (fun _ _ _ _ _ => pts_nil) (fun _ _ _ _ _ => (pe_tup (pa_cons (pe_callTy call_tuple_of (by rfl) T.f_tuple (by decide +kernel) (pa_cons (pv 1) pa_nil)) (pa_cons pe_bl pa_nil))))) pa_nil)))), ?_⟩
  obtain ⟨cut, hc, hn, q⟩ := h
  obtain ⟨a, xs, rfl, _, ha, hx⟩ := is_list hc
  refine ⟨_, rfl, a, rfl, ⟨_, SqL.of ha⟩, fun D hD => lc_L cut pairD (fun p => some (.tuple [pairD p, .bool true])) ha hx hD hn ?_ ?_⟩
  · intro x y H1 _ s1 hy Kont Skip k1 k2
    obtain ⟨b, rfl, hb⟩ := is_pair hy
    refine ⟨rfl, _, rfl, b, _, rfl, .inr ⟨SqT.of hb, sz2, fun p hp => ?_⟩⟩
    exact k1 _ _ _ (same_upd hp) rfl (.tup upd_same (.cons (is_pair' (same_upd hp _ _ hb)) (.cons (.bl _) .nil)))
  · intro H1 s1 h1
    rw [filterMap_some] at h1
    obtain ⟨D', ys, e, _, hys, hyy⟩ := is_list h1
    cases e
    obtain ⟨ps, e1, e2⟩ := pairsT_is (fun p => p) (fun _ => .bl true) (fun _ => .bool true) (fun _ x h => by cases h; rfl) hyy
    subst e1
    refine ⟨D, ps, _, rfl, hys, e2, fun p hp => q p _ _ (s1.trans (same_upd hp)) (s1.free hp) upd_same fun z => ?_⟩
    rw [mergeT_has (fun p : Nat × Nat => p) (fun _ => .bl true) z cut []]
    simp [valV_nil]
end
end PW
set_option Elab.async false
set_option linter.all false
set_option maxRecDepth 100000
set_option maxHeartbeats 4000000
namespace PW
open PySem PySem.Spec PyProof.Rows L2
section
variable {P : Program} {w : World} {K : PySem.W.Frag} {mg : Str → Option Value} {base : Heap}
/-- the web and a cut of it, as handed in -/
def spWeightOf (K : PySem.W.Frag) : Sp := fun vs H Q _ => ∃ v c, vs = [v, c] ∧ ∃ (W : Web) (cut : List (Nat × Nat)), Is Any H v (webD W) ∧ WOk W ∧ Is Any H c (.list (cut.map pairD)) ∧ cut.length ≤ 90000 ∧
  GivesI (wsum W.ts fun a b => decide ((a, b) ∈ cut)) H Q
-- weight_of: 0=web 1=cut 2=there 3=a 4=b 5=weight
theorem sc_weight_of : FnScope ["web", "cut", "there", "a", "b", "weight"] ["web", "cut"] (defScope sWeightOf) := ⟨rfl, rfl, rfl, by decide +kernel, rfl, by decide +kernel, by decide +kernel⟩
theorem ok_weight_of (T : Tx K mg) : DefOk P w K mg base "weight_of" 2 ["web", "cut"] (spWeightOf K) := by
  have O_pairs_cut := ok_pairs_cut (P := P) (w := w) (base := base) T
  refine DefOk.mk' T.g_weight_of (fn_ok T.d_weight_of sc_weight_of (fun _ _ _ _ _ _ us hl => match us, hl with | [_, _], _ => rfl) (fun vs H Q E h => ?_) (fun cdv A outer s H vs Q E hr h => ?_))
  · obtain ⟨_, _, rfl, _⟩ := h
    rfl
  have hu := hu_of hr
  obtain ⟨v0, v1, rfl, h⟩ := h
  refine ⟨_, (pss_cons (ps_set (i := 2) sc_weight_of.nd rfl (.inr rfl) (pcall O_pairs_cut (hr.mono (by decide)) (by rfl) (pa_cons (pv 1) pa_nil)))
     (pss_one (ps_ret (pe_callB (cr_sum rfl) (by rfl) T.f_sum (by decide +kernel) (pa_cons (pe_lc (own := [("a", 3), ("b", 4), ("weight", 5)]) (g := (gTup K 3 (gCons (gName 3) (gCons (gName 4) (gCons (gName 5) gNil))))) (tt := (tB (tDIn (tTup (tCons (tVar 3) (tCons (tVar 4) tNil))) (tVar 2)))) (te := (tVar 5)) rfl sc_weight_of.nd (pi_tup (pe_ix ix_tup (pv 0) pe_int (fun _ _ => rfl))) (blkOk_by (N := ["web", "cut", "there", "a", "b", "weight"]) (sc := defScope sWeightOf) (by decide +kernel)) (fun _ _ _ _ _ => (pg_tup rfl (pgs_cons (pg_name (i := 3) sc_weight_of.nd rfl (.inl rfl) (.inr rfl)) (pgs_cons (pg_name (i := 4) sc_weight_of.nd rfl (.inl rfl) (.inr rfl)) (pgs_cons (pg_name (i := 5) sc_weight_of.nd rfl (.inl rfl) (.inr rfl)) pgs_nil))))) (fun _ _ _ _ _ => (pts_one (pt_cmp (pc_din hu (pe_tup (pa_cons (pv 3) (pa_cons (pv 4) pa_nil))) (pv 2))))) (fun _ _ _ _ _ => (pv 5))) pa_nil))))), ?_⟩
  obtain ⟨W, cut, hw, ok, hc, hn, q⟩ := h
  obtain ⟨pw, pq, xs, rfl, hw1, hw2, hx⟩ := is_web hw
  refine ⟨_, rfl, v1, rfl, cut, hc, hn, fun p kvs H1 s1 np hp hm => ?_⟩
  refine ⟨_, rfl, pw, _, 1, .ref pq, rfl, rfl, SqT.of (s1 _ _ hw1), rfl, pq, rfl, ⟨_, SqT.of (s1 _ _ hw2)⟩, fun D hD =>
    lc_T W.ts tieD (fun t => if decide (pr t ∈ cut) = true then some (.int t.2.2) else none) (s1 _ _ hw2) (hx.same s1) hD (by have := ok.len; omega) ?_ ?_⟩
  · intro x y H2 _ s2 hy Kont Skip k1 k2
    obtain ⟨b, rfl, hb⟩ := is_tie hy
    refine ⟨b, _, rfl, SqT.of hb, rfl, _, _, rfl, _, _, rfl, _, _, rfl, rfl, rfl, _, rfl, _, rfl, sz2, fun p2 hp2 => ?_⟩
    have s3 := same_upd (o := .tup [nv y.1, nv y.2.1]) hp2
    refine ⟨_, rfl, p, valV kvs (keyP (pr y)), rfl, DGet.t (s3 _ _ (s2 _ _ hp)) upd_same, _, rfl, ?_⟩
    rw [hm]
    exact ifB (fun e => ⟨_, rfl, k1 _ _ _ s3 (if_pos e) (.int _)⟩) fun e => k2 _ s3 (if_neg (by rw [e]; exact Bool.false_ne_true))
  · intro H2 s2 h2
    rw [filterMap_if, map_int] at h2
    obtain ⟨D', e, _, hD'⟩ := is_ints h2
    cases e
    refine ⟨D, _, rfl, SqL.of hD', ?_⟩
    have e : ((W.ts.filter fun t => decide (pr t ∈ cut)).map fun t => t.2.2).sum = wsum W.ts fun a b => decide ((a, b) ∈ cut) := sum_filter_map W.ts fun a b => decide ((a, b) ∈ cut)
    rw [e]
    exact q H2 (s1.trans s2)
/-- a web without a cut's ties -/
def spWithout (K : PySem.W.Frag) : Sp := fun vs H Q _ => ∃ v c, vs = [v, c] ∧ ∃ (W : Web) (cut : List (Nat × Nat)), Is Any H v (webD W) ∧ WOk W ∧ Is Any H c (.list (cut.map pairD)) ∧ cut.length ≤ 90000 ∧
  Gives (webD ⟨W.n, W.ts.filter fun t => decide (pr t ∉ cut)⟩) H Q
-- without: 0=web 1=cut 2=there 3=tie
theorem sc_without : FnScope ["web", "cut", "there", "tie"] ["web", "cut"] (defScope sWithout) := ⟨rfl, rfl, rfl, by decide +kernel, rfl, by decide +kernel, by decide +kernel⟩
theorem ok_without (T : Tx K mg) : DefOk P w K mg base "without" 2 ["web", "cut"] (spWithout K) := by
  have O_pairs_cut := ok_pairs_cut (P := P) (w := w) (base := base) T
  refine DefOk.mk' T.g_without (fn_ok T.d_without sc_without (fun _ _ _ _ _ _ us hl => match us, hl with | [_, _], _ => rfl) (fun vs H Q E h => ?_) (fun cdv A outer s H vs Q E hr h => ?_))
  · obtain ⟨_, _, rfl, _⟩ := h
    rfl
  have hu := hu_of hr
  obtain ⟨v0, v1, rfl, h⟩ := h
  refine ⟨_, (pss_cons (ps_set (i := 2) sc_without.nd rfl (.inr rfl) (pcall O_pairs_cut (hr.mono (by decide)) (by rfl) (pa_cons (pv 1) pa_nil)))
     (pss_one (ps_ret (pe_tup (pa_cons (pe_ix ix_tup (pv 0) pe_int (fun _ _ => rfl)) (pa_cons (pe_callTy call_tuple_of (by rfl) T.f_tuple (by decide +kernel) (pa_cons (pe_lc (own := [("tie", 3)]) (g := (gName 3)) (tt := (tB (tDNotIn (tSl (rSlT K) (tVar 3) tNoPart (tPart (tC (.int 2)))) (tVar 2)))) (te := (tVar 3)) rfl sc_without.nd (pi_tup (pe_ix ix_tup (pv 0) pe_int (fun _ _ => rfl))) (blkOk_by (N := ["web", "cut", "there", "tie"]) (sc := defScope sWithout) (by decide +kernel)) (fun _ _ _ _ _ => (pg_name (i := 3) sc_without.nd rfl (.inl rfl) (.inr rfl))) (fun _ _ _ _ _ => (pts_one (pt_cmp (pc_dnotin hu (pe_slice sl_tup (pv 3) po_none (po_some pe_int)) (pv 2))))) (fun _ _ _ _ _ => (pv 3))) pa_nil)) pa_nil)))))), ?_⟩
  obtain ⟨W, cut, hw, ok, hc, hn, q⟩ := h
  obtain ⟨pw, pq, xs, rfl, hw1, hw2, hx⟩ := is_web hw
  refine ⟨_, rfl, v1, rfl, cut, hc, hn, fun p kvs H1 s1 np hp hm => ?_⟩
  refine ⟨_, rfl, pw, _, 0, nv W.n, rfl, rfl, SqT.of (s1 _ _ hw1), rfl, ?_⟩
  refine ⟨_, rfl, pw, _, 1, .ref pq, rfl, rfl, SqT.of (s1 _ _ hw1), rfl, pq, rfl, ⟨_, SqT.of (s1 _ _ hw2)⟩, fun D hD =>
    lc_T W.ts tieD (fun t => if decide (pr t ∉ cut) = true then some (tieD t) else none) (s1 _ _ hw2) (hx.same s1) hD (by have := ok.len; omega) ?_ ?_⟩
  · intro x y H2 _ s2 hy Kont Skip k1 k2
    obtain ⟨b, rfl, hb⟩ := is_tie hy
    refine ⟨rfl, _, rfl, 2, rfl, b, _, rfl, SqT.of hb, cut2n, fun p2 hp2 => ?_⟩
    have s3 := same_upd (o := .tup (cutV [nv y.1, nv y.2.1, .int y.2.2] none (some 2))) hp2
    refine ⟨_, rfl, p, valV kvs (keyP (pr y)), rfl, DGet.t (s3 _ _ (s2 _ _ hp)) upd_same, _, rfl, ?_⟩
    rw [hm, ← decide_not]
    exact ifB (fun e => ⟨_, rfl, k1 _ _ _ s3 (if_pos e) (is_tie' (s3 _ _ hb))⟩) fun e => k2 _ s3 (if_neg (by rw [e]; exact Bool.false_ne_true))
  · intro H2 s2 h2
    rw [filterMap_if] at h2
    obtain ⟨D', ys, e, _, hD', hy⟩ := is_list h2
    cases e
    refine ⟨D, ys, rfl, .inl ⟨SqL.of hD', fun l hl => ⟨sz2, fun p' hp' => ?_⟩⟩⟩
    have s3 := (s1.trans s2).trans ((same_upd (o := .tup ys) hl).trans (same_upd (o := .tup [nv W.n, .ref l]) hp'))
    refine q _ _ s3 (is_web' upd_same (same_upd hp' _ _ upd_same) ?_)
    exact ((hy.back s1).same (same_upd hl)).same (same_upd hp')
/-- the posts among some places -/
def spPostsIn (K : PySem.W.Frag) : Sp := fun vs H Q _ => ∃ v c, vs = [v, c] ∧ ∃ (posts piece : List Nat), Is Any H v (natsD posts) ∧ Is Any H c (natsD piece) ∧ posts.length ≤ 90000 ∧ Gives (natsD (posts.filter fun p => decide (p ∈ piece))) H Q
-- posts_in: 0=posts 1=piece 2=post
theorem sc_posts_in : FnScope ["posts", "piece", "post"] ["posts", "piece"] (defScope sPostsIn) := ⟨rfl, rfl, rfl, by decide +kernel, rfl, by decide +kernel, by decide +kernel⟩
theorem ok_posts_in (T : Tx K mg) : DefOk P w K mg base "posts_in" 1 ["posts", "piece"] (spPostsIn K) := by
  refine DefOk.mk' T.g_posts_in (fn_ok T.d_posts_in sc_posts_in (fun _ _ _ _ _ _ us hl => match us, hl with | [_, _], _ => rfl) (fun vs H Q E h => ?_) (fun cdv A outer s H vs Q E hr h => ?_))
  · obtain ⟨_, _, rfl, _⟩ := h
    rfl
  have hu := hu_of hr
  obtain ⟨v0, v1, rfl, h⟩ := h
  refine ⟨_, (pss_one (ps_ret (pe_lc (own := [("post", 2)]) (g := (gName 2)) (tt := (tTest (tOp (rIn K false) (tVar 2) (tVar 1)))) (te := (tVar 2)) rfl sc_posts_in.nd (pi_list (pv 0)) (blkOk_by (N := ["posts", "piece", "post"]) (sc := defScope sPostsIn) (by decide +kernel)) (fun _ _ _ _ _ => (pg_name (i := 2) sc_posts_in.nd rfl (.inl rfl) (.inr rfl))) (fun _ _ _ _ _ => (pts_one (pt_cmpR op_in_seq (pv 2) (pv 1) (by rfl)))) (fun _ _ _ _ _ => (pv 2))))), ?_⟩
  obtain ⟨posts, piece, hp, hc, hn, q⟩ := h
  obtain ⟨a, rfl, _, ha⟩ := is_nats hp
  obtain ⟨b, rfl, _, hb⟩ := is_nats hc
  refine ⟨_, rfl, a, rfl, ⟨_, SqL.of ha⟩, fun D hD => lc_L posts natD (fun p => if decide (p ∈ piece) = true then some (natD p) else none) ha (isAll_nats (φ := Any).mpr rfl) hD hn ?_ ?_⟩
  · intro x y H1 _ s1 hy Kont Skip k1 k2
    cases is_int hy
    refine ⟨rfl, _, rfl, _, rfl, b, _, rfl, .inl (SqL.of (s1 _ _ hb)), rfl, flat_nats piece, _, rfl, ?_⟩
    rw [inV_nats]
    exact ifB (fun e => ⟨_, rfl, k1 _ _ _ (Same.refl _) (if_pos e) (.int _)⟩) fun e => k2 _ (Same.refl _) (if_neg (by rw [e]; exact Bool.false_ne_true))
  · intro H1 s1 h1
    rw [filterMap_if] at h1
    exact q _ _ s1 h1
/-- the cut by a row of owners -/
def cutL (ts : List Tie) (f : Nat → Nat) : List (Nat × Nat) := (ts.filter fun t => f t.1 != f t.2.1).map pr
/-- a row of numbers as a function -/
abbrev fnL (l : List Nat) : Nat → Nat := fun v => l.getD v 0
def spCutBy (K : PySem.W.Frag) : Sp := fun vs H Q _ => ∃ v c, vs = [v, c] ∧ ∃ (W : Web) (os : List Nat), Is Any H v (webD W) ∧ WOk W ∧ Is Any H c (tupD os) ∧ os.length = W.n ∧ Gives (.list ((cutL W.ts (fnL os)).map pairD)) H Q
-- cut_by: 0=web 1=owners 2=a 3=b 4=weight
theorem sc_cut_by : FnScope ["web", "owners", "a", "b", "weight"] ["web", "owners"] (defScope sCutBy) := ⟨rfl, rfl, rfl, by decide +kernel, rfl, by decide +kernel, by decide +kernel⟩
theorem ok_cut_by (T : Tx K mg) : DefOk P w K mg base "cut_by" 1 ["web", "owners"] (spCutBy K) := by
  refine DefOk.mk' T.g_cut_by (fn_ok T.d_cut_by sc_cut_by (fun _ _ _ _ _ _ us hl => match us, hl with | [_, _], _ => rfl) (fun vs H Q E h => ?_) (fun cdv A outer s H vs Q E hr h => ?_))
  · obtain ⟨_, _, rfl, _⟩ := h
    rfl
  have hu := hu_of hr
  obtain ⟨v0, v1, rfl, h⟩ := h
  refine ⟨_, (pss_one (ps_ret (pe_lc (own := [("a", 2), ("b", 3), ("weight", 4)]) (g := (gTup K 3 (gCons (gName 2) (gCons (gName 3) (gCons (gName 4) gNil))))) (tt := (tTest (tOp rNe (tOp (rIxT K) (tVar 1) (tVar 2)) (tOp (rIxT K) (tVar 1) (tVar 3))))) (te := (tTup (tCons (tVar 2) (tCons (tVar 3) tNil)))) rfl sc_cut_by.nd (pi_tup (pe_ix ix_tup (pv 0) pe_int (fun _ _ => rfl))) (blkOk_by (N := ["web", "owners", "a", "b", "weight"]) (sc := defScope sCutBy) (by decide +kernel)) (fun _ _ _ _ _ => (pg_tup rfl (pgs_cons (pg_name (i := 2) sc_cut_by.nd rfl (.inl rfl) (.inr rfl)) (pgs_cons (pg_name (i := 3) sc_cut_by.nd rfl (.inl rfl) (.inr rfl)) (pgs_cons (pg_name (i := 4) sc_cut_by.nd rfl (.inl rfl) (.inr rfl)) pgs_nil))))) (fun _ _ _ _ _ => (pts_one (pt_cmpR op_ne (pe_ix ix_tup (pv 1) (pv 2) (fun _ _ => rfl)) (pe_ix ix_tup (pv 1) (pv 3) (fun _ _ => rfl)) (nomark _)))) (fun _ _ _ _ _ => (pe_tup (pa_cons (pv 2) (pa_cons (pv 3) pa_nil))))))), ?_⟩
  obtain ⟨W, os, hw, ok, hc, hl, q⟩ := h
  obtain ⟨pw, pq, xs, rfl, hw1, hw2, hx⟩ := is_web hw
  obtain ⟨b, rfl, hb⟩ := is_tnats hc
  refine ⟨_, rfl, pw, _, 1, .ref pq, rfl, rfl, SqT.of hw1, rfl, pq, rfl, ⟨_, SqT.of hw2⟩, fun D hD =>
    lc_T W.ts tieD (fun t => if (fnL os t.1 != fnL os t.2.1) = true then some (pairD (pr t)) else none) hw2 hx hD (by have := ok.len; omega) ?_ ?_⟩
  · intro x y H2 hy0 s2 hy Kont Skip k1 k2
    obtain ⟨p, rfl, hp⟩ := is_tie hy
    have g := ok.good.1 y hy0
    refine ⟨p, _, rfl, SqT.of hp, rfl, _, _, rfl, _, _, rfl, _, _, rfl, rfl, rfl, ?_⟩
    refine ⟨_, rfl, _, rfl, b, _, _, _, rfl, rfl, SqT.of (s2 _ _ hb), at_nats (by omega), _, rfl, _, rfl, b, _, _, _, rfl, rfl, SqT.of (s2 _ _ hb), at_nats (by omega), rfl, _, rfl, ?_⟩
    rw [ne_nats]
    refine ifB (fun e => ?_) fun e => k2 _ (Same.refl _) (if_neg (by rw [e]; exact Bool.false_ne_true))
    refine ⟨_, rfl, _, rfl, sz2, fun p2 hp2 => k1 _ _ _ (same_upd hp2) (if_pos e) (is_pair' (p := pr y) upd_same)⟩
  · intro H2 s2 h2
    rw [filterMap_if] at h2
    refine q _ _ s2 ?_
    unfold cutL
    rw [List.map_map]
    exact h2
/-- all posts but one -/
def spOthersOf (K : PySem.W.Frag) : Sp := fun vs H Q _ => ∃ v c, vs = [v, c] ∧ ∃ (posts : List Nat) (p : Nat), Is Any H v (natsD posts) ∧ c = nv p ∧ posts.length ≤ 90000 ∧ Gives (natsD (posts.filter fun o => o != p)) H Q
-- others_of: 0=posts 1=post 2=other
theorem sc_others_of : FnScope ["posts", "post", "other"] ["posts", "post"] (defScope sOthersOf) := ⟨rfl, rfl, rfl, by decide +kernel, rfl, by decide +kernel, by decide +kernel⟩
theorem ok_others_of (T : Tx K mg) : DefOk P w K mg base "others_of" 1 ["posts", "post"] (spOthersOf K) := by
  refine DefOk.mk' T.g_others_of (fn_ok T.d_others_of sc_others_of (fun _ _ _ _ _ _ us hl => match us, hl with | [_, _], _ => rfl) (fun vs H Q E h => ?_) (fun cdv A outer s H vs Q E hr h => ?_))
  · obtain ⟨_, _, rfl, _⟩ := h
    rfl
  have hu := hu_of hr
  obtain ⟨v0, v1, rfl, h⟩ := h
  refine ⟨_, (pss_one (ps_ret (pe_lc (own := [("other", 2)]) (g := (gName 2)) (tt := (tTest (tOp rNe (tVar 2) (tVar 1)))) (te := (tVar 2)) rfl sc_others_of.nd (pi_list (pv 0)) (blkOk_by (N := ["posts", "post", "other"]) (sc := defScope sOthersOf) (by decide +kernel)) (fun _ _ _ _ _ => (pg_name (i := 2) sc_others_of.nd rfl (.inl rfl) (.inr rfl))) (fun _ _ _ _ _ => (pts_one (pt_cmpR op_ne (pv 2) (pv 1) (nomark _)))) (fun _ _ _ _ _ => (pv 2))))), ?_⟩
  obtain ⟨posts, p, hp, rfl, hn, q⟩ := h
  obtain ⟨a, rfl, _, ha⟩ := is_nats hp
  refine ⟨_, rfl, a, rfl, ⟨_, SqL.of ha⟩, fun D hD => lc_L posts natD (fun o => if (o != p) = true then some (natD o) else none) ha (isAll_nats (φ := Any).mpr rfl) hD hn ?_ ?_⟩
  · intro x y H1 _ s1 hy Kont Skip k1 k2
    cases is_int hy
    refine ⟨rfl, _, rfl, _, rfl, rfl, _, rfl, ?_⟩
    rw [ne_nats]
    exact ifB (fun e => ⟨_, rfl, k1 _ _ _ (Same.refl _) (if_pos e) (.int _)⟩) fun e => k2 _ (Same.refl _) (if_neg (by rw [e]; exact Bool.false_ne_true))
  · intro H1 s1 h1
    rw [filterMap_if] at h1
    exact q _ _ s1 h1
end
end PW
set_option Elab.async false
set_option linter.all false
set_option maxRecDepth 100000
set_option maxHeartbeats 4000000
namespace PW
open PySem PySem.Spec PyProof.Rows L2
/-- what a place's ties lead to -/
def nbrs (ts : List Tie) (v : Nat) : List Nat := ts.flatMap fun t => (if t.1 = v then [t.2.1] else []) ++ (if t.2.1 = v then [t.1] else [])
theorem nbrs_nil (v : Nat) : nbrs [] v = [] := rfl
theorem nbrs_snoc (ts : List Tie) (t : Tie) (v : Nat) : nbrs (ts ++ [t]) v = nbrs ts v ++ ((if t.1 = v then [t.2.1] else []) ++ (if t.2.1 = v then [t.1] else [])) := by
  unfold nbrs
  rw [List.flatMap_append, List.flatMap_cons, List.flatMap_nil, List.append_nil]
theorem nbrs_len (ts : List Tie) (v : Nat) : (nbrs ts v).length ≤ 2 * ts.length := by
  unfold nbrs
  induction ts with
  | nil => simp
  | cons t ts ih =>
    have e1 : (if t.1 = v then [t.2.1] else []).length ≤ 1 := by split <;> simp
    have e2 : (if t.2.1 = v then [t.1] else []).length ≤ 1 := by split <;> simp
    rw [List.flatMap_cons, List.length_append, List.length_append, List.length_cons]
    omega
theorem mem_nbrs {ts : List Tie} {v u : Nat} : u ∈ nbrs ts v ↔ Adj ts v u := by
  unfold nbrs Adj
  rw [List.mem_flatMap]
  constructor
  · rintro ⟨t, ht, h⟩
    refine ⟨t, ht, ?_⟩
    rcases List.mem_append.mp h with h | h <;> split at h <;> simp at h <;> subst h
    · rename_i e; exact .inl ⟨e, rfl⟩
    · rename_i e; exact .inr ⟨rfl, e⟩
  · rintro ⟨t, ht, h⟩
    refine ⟨t, ht, ?_⟩
    rcases h with ⟨h1, h2⟩ | ⟨h1, h2⟩
    · subst h1 h2; simp
    · subst h1 h2; simp
section
variable {P : Program} {w : World} {K : PySem.W.Frag} {mg : Str → Option Value} {base : Heap}
/-- for each place what it is tied to -/
abbrev nearD (ns : List (List Nat)) : PyData := .list (ns.map natsD)
def nearL (W : Web) : List (List Nat) := (List.range W.n).map (nbrs W.ts)
def spBeside (K : PySem.W.Frag) : Sp := fun vs H Q _ => ∃ v, vs = [v] ∧ ∃ (W : Web), Is Any H v (webD W) ∧ WOk W ∧ Gives (nearD (nearL W)) H Q
-- beside: 0=web 1=found 2=place 3=a 4=b 5=weight
theorem sc_beside : FnScope ["web", "found", "place", "a", "b", "weight"] ["web"] (defScope sBeside) := ⟨rfl, rfl, rfl, by decide +kernel, rfl, by decide +kernel, by decide +kernel⟩
theorem ok_beside (T : Tx K mg) : DefOk P w K mg base "beside" 1 ["web"] (spBeside K) := by
  refine DefOk.mk' T.g_beside (fn_ok T.d_beside sc_beside (fun _ _ _ _ _ _ us hl => match us, hl with | [_], _ => rfl) (fun vs H Q E h => ?_) (fun cdv A outer s H vs Q E hr h => ?_))
  · obtain ⟨_, rfl, _⟩ := h
    rfl
  have hu := hu_of hr
  obtain ⟨v0, rfl, h⟩ := h
  refine ⟨_, (pss_cons (ps_setLc (i := 1) (own := [("place", 2)]) (g := (gName 2)) (tt := tYes) (te := (tLst tNil)) rfl sc_beside.nd rfl rfl (sw_true rfl rfl rfl (by decide +kernel)) (pi_range1 rfl T.f_range (pa_cons (pe_ix ix_tup (pv 0) pe_int (fun _ _ => rfl)) pa_nil)) (blkOk_by (N := ["web", "found", "place", "a", "b", "weight"]) (sc := defScope sBeside) (by decide +kernel)) (fun _ _ _ _ _ => (pg_name (i := 2) sc_beside.nd rfl (.inl rfl) (.inr rfl))) (fun _ _ _ _ _ => pts_nil) (fun _ _ _ _ _ => (pe_lst pa_nil)))
     (pss_cons (ps_for PassesOwn.never rfl (pi_tup (pe_ix ix_tup (pv 0) pe_int (fun _ _ => rfl))) (pg_tup rfl (pgs_cons (pg_name (i := 3) sc_beside.nd rfl (.inl rfl) (.inl rfl)) (pgs_cons (pg_name (i := 4) sc_beside.nd rfl (.inl rfl) (.inl rfl)) (pgs_cons (pg_name (i := 5) sc_beside.nd rfl (.inl rfl) (.inl rfl)) pgs_nil))))
     (pss_cons (ps_expr (pe_bm PySem.F.plainAttrs_list PySem.F.slot_list_append PySem.F.type_list_append mt_append (pe_ix ix_list (pv 1) (pv 3) (fun _ _ => rfl)) (pa_cons (pv 4) pa_nil)))
     (pss_one (ps_expr (pe_bm PySem.F.plainAttrs_list PySem.F.slot_list_append PySem.F.type_list_append mt_append (pe_ix ix_list (pv 1) (pv 4) (fun _ _ => rfl)) (pa_cons (pv 3) pa_nil))))))
     (pss_one (ps_ret (pv 1))))), ?_⟩
  obtain ⟨W, hw, ok, q⟩ := h
  obtain ⟨pw, pq, xs, rfl, hw1, hw2, hx⟩ := is_web hw
  have el : xs.length = W.ts.length := hx.map_len
  have n1 := ok.n1
  have l1 := ok.len
  refine ⟨_, rfl, pw, _, 0, nv W.n, rfl, rfl, SqT.of hw1, rfl, _, rfl, by omega, by omega, fun D hD => ?_⟩
  rw [Int.toNat_natCast]
  refine lc_fresh (.lst []) (n := W.n) walk_range hD (by omega) (fun _ _ => trivial) yfn_same (fun i x H1 H2 hi s1 y Kont Skip k1 => ?_) (fun H1 as hl hN s1 hD1 hA => ?_)
  · exact ⟨rfl, sz0, fun p hp => k1 p _ (same_upd hp) hp upd_same⟩
  have c0 : Cells H H1 D as (fun _ => []) := ⟨hD1, hD, hN, fun a ha => ⟨(hA a ha).1, (hA a ha).2.1⟩, fun v a e => (hA a (List.mem_of_getElem? e)).2.2⟩
  refine ⟨_, rfl, pw, _, 1, .ref pq, rfl, rfl, SqT.of (s1 _ _ hw1), rfl, pq, rfl, ⟨_, SqT.of (s1 _ _ hw2)⟩, ?_⟩
  refine for_T W.ts tieD hw2 hx (fun d σ H2 => ∃ x3 x4 x5 : Option V, σ = [some (.ref pw), some (.ref D), none, x3, x4, x5] ∧ Same H H2 ∧ Cells H H2 D as (fun v => (nbrs d v).map nv)) ⟨_, _, _, rfl, s1, c0⟩ (fun d σ H2 ⟨_, _, _, _, p, _⟩ => p) ?_ ?_
  · rintro d y r x _ H2 e ⟨_, _, _, rfl, s2, c2⟩ hy
    obtain ⟨b, rfl, hb⟩ := is_tie hy
    have hy0 : y ∈ W.ts := by rw [e]; simp
    have g := ok.good.1 y hy0
    have hd1 : d.length ≤ 200 := by
      have := congrArg List.length e
      rw [List.length_append] at this
      omega
    refine ⟨b, _, rfl, SqT.of hb, rfl, _, _, rfl, _, _, rfl, _, _, rfl, rfl, ?_⟩
    obtain ⟨a1, e1, h1⟩ := c2.get (v := y.1) (by omega)
    have l1 := nbrs_len d y.1
    refine ⟨_, rfl, _, rfl, D, _, _, _, rfl, rfl, SqL.of c2.top, at_refs e1, list_ty h1, _, rfl, a1, _, _, rfl, rfl, h1, smallLt (by rw [List.length_map]; omega), ?_⟩
    have c3 := c2.put (ys := (nbrs d y.1).map nv ++ [nv y.2.1]) e1
    have s3 := s2.mut (o := .lst ((nbrs d y.1).map nv ++ [nv y.2.1])) (c2.off _ (List.mem_of_getElem? e1)).1
    obtain ⟨a2, e2, h2⟩ := c3.get (v := y.2.1) (by omega)
    have l2 := nbrs_len d y.2.1
    rw [if_neg (show ¬ y.2.1 = y.1 by omega)] at h2
    refine ⟨_, rfl, _, rfl, D, _, _, _, rfl, rfl, SqL.of c3.top, at_refs e2, list_ty h2, _, rfl, a2, _, _, rfl, rfl, h2, smallLt (by rw [List.length_map]; omega), ?_⟩
    refine ⟨_, _, _, rfl, s3.mut (c2.off _ (List.mem_of_getElem? e2)).1, (c3.put (ys := (nbrs d y.2.1).map nv ++ [nv y.1]) e2).congr fun v hv => ?_⟩
    rw [nbrs_snoc]
    by_cases v1 : y.1 = v
    · subst v1
      rw [if_neg (by omega), if_pos rfl, if_pos rfl, if_neg (by omega)]
      simp
    · by_cases v2 : y.2.1 = v
      · subst v2
        rw [if_pos rfl, if_neg v1, if_pos rfl]
        simp
      · rw [if_neg (Ne.symm v2), if_neg (Ne.symm v1), if_neg v1, if_neg v2]
        simp
  · rintro _ H2 ⟨_, _, _, rfl, s2, c2⟩
    refine ⟨_, rfl, q _ _ s2 ?_⟩
    have := c2.is (ds := fun v => (nbrs W.ts v).map natD) fun v hv => isAll_nats.mpr rfl
    rw [hl] at this
    unfold nearL nearD
    rw [List.map_map]
    exact this
end
end PW
set_option Elab.async false
set_option linter.all false
set_option maxRecDepth 100000
set_option maxHeartbeats 4000000
namespace PW
open PySem PySem.Spec PyProof.Rows L2
/-- beside one another in lists of neighbours -/
def RN (ns : List (List Nat)) (x y : Nat) : Prop := ∃ l, ns[x]? = some l ∧ y ∈ l
/-- met and waiting -/
structure Met (R : Nat → Nat → Prop) (n p : Nat) (M Wt : List Nat) : Prop where
  ndM : M.Nodup
  ndW : Wt.Nodup
  sub : ∀ v ∈ Wt, v ∈ M
  lt : ∀ v ∈ M, v < n ∧ Conn R p v
  mem : p ∈ M
theorem nd_ndr {α : Type} {l : List α} {x : α} (h : (l ++ [x]).Nodup) : l.Nodup ∧ x ∉ l := by
  rw [List.nodup_append] at h
  exact ⟨h.1, fun q => h.2.2 x q x (List.mem_singleton.mpr rfl) rfl⟩
theorem Met.len {R : Nat → Nat → Prop} {n p : Nat} {M Wt : List Nat} (m : Met R n p M Wt) : M.length ≤ n := by
  have := nodup_length_le m.ndM (b := List.range n) fun v hv => List.mem_range.mpr (m.lt v hv).1
  rw [List.length_range] at this
  exact this
theorem Met.lenW {R : Nat → Nat → Prop} {n p : Nat} {M Wt : List Nat} (m : Met R n p M Wt) : Wt.length ≤ M.length := nodup_length_le m.ndW m.sub
section
variable {P : Program} {w : World} {K : PySem.W.Frag} {mg : Str → Option Value} {base : Heap}
def spHangsOn (K : PySem.W.Frag) : Sp := fun vs H Q _ => ∃ v c, vs = [v, c] ∧ ∃ (ns : List (List Nat)) (p : Nat), Is Any H v (nearD ns) ∧ c = nv p ∧ p < ns.length ∧ ns.length ≤ 50 ∧ (∀ l ∈ ns, ∀ y ∈ l, y < ns.length) ∧
  Gives (natsD (connL ns.length (RN ns) p)) H Q
-- hangs_on: 0=near 1=place 2=met 3=waiting 4=other
theorem sc_hangs_on : FnScope ["near", "place", "met", "waiting", "other"] ["near", "place"] (defScope sHangsOn) := ⟨rfl, rfl, rfl, by decide +kernel, rfl, by decide +kernel, by decide +kernel⟩
theorem ok_hangs_on (T : Tx K mg) : DefOk P w K mg base "hangs_on" 1 ["near", "place"] (spHangsOn K) := by
  refine DefOk.mk' T.g_hangs_on (fn_ok T.d_hangs_on sc_hangs_on (fun _ _ _ _ _ _ us hl => match us, hl with | [_, _], _ => rfl) (fun vs H Q E h => ?_) (fun cdv A outer s H vs Q E hr h => ?_))
  · obtain ⟨_, _, rfl, _⟩ := h
    rfl
  have hu := hu_of hr
  obtain ⟨v0, v1, rfl, h⟩ := h
  refine ⟨_, (pss_cons (ps_set (i := 2) sc_hangs_on.nd rfl (.inl rfl) (pe_disp (pps_cons (pv 1) pe_bl pps_nil) (by rfl) (by rfl) (fun z => (by cases z)) (by decide)))
     (pss_cons (ps_set (i := 3) sc_hangs_on.nd rfl (.inl rfl) (pe_lst (pa_cons (pv 1) pa_nil)))
     (pss_cons (ps_while PassesOwn.never (pt_cmpR op_gt (pe_callB call_len_seq (by rfl) T.f_len (by decide +kernel) (pa_cons (pv 3) pa_nil)) pe_int (nomark _))
     (pss_one (ps_for PassesOwn.never rfl (pi_list (pe_ix ix_list (pv 0) (pe_bm0 PySem.F.plainAttrs_list PySem.F.slot_list_pop PySem.F.type_list_pop mt_pop (pv 3)) (fun _ _ => rfl))) (pg_name (i := 4) sc_hangs_on.nd rfl (.inl rfl) (.inl rfl))
     (pss_one (ps_if (pt_cmp (pc_dnotin hu (pv 4) (pv 2)))
     (pss_cons (ps_dput hu (pv 2) (pv 4) pe_bl rfl)
     (pss_one (ps_expr (pe_bm PySem.F.plainAttrs_list PySem.F.slot_list_append PySem.F.type_list_append mt_append (pv 3) (pa_cons (pv 4) pa_nil)))))
     pss_nil)))))
     (pss_one (ps_ret (pe_callB (call_sortedDI rfl) (by rfl) T.f_sorted (by decide +kernel) (pa_cons (pv 2) pa_nil))))))), ?_⟩
  obtain ⟨ns, p, hv, rfl, hp, hn, hl, q⟩ := h
  obtain ⟨a, xs, rfl, _, ha, hx⟩ := is_list hv
  have el : xs.length = ns.length := hx.map_len
  intro m hm
  refine ⟨_, rfl, upd_same, [(nk p, .bl true)], rfl, by simp, _, rfl, sz1, fun wq hw => ?_⟩
  have e0 : mergeK [] [(nk p, V.bl true)] = mapD [p] fun _ => .bl true := mapD_merge0 [p] (fun _ => .bl true) (by simp)
  rw [e0] at hw ⊢
  rw [upd_upd] at hw ⊢
  have wm : wq ≠ m := fun e => by rw [e, upd_same] at hw; cases hw
  have hw0 : H wq = none := by rw [upd_ne wm] at hw; exact hw
  let WI : Nat → L2.St → Hp → Prop := fun k σ H2 => ∃ M Wt x4, σ = [some (.ref a), some (nv p), some (.ref m), some (.ref wq), x4] ∧ Met (RN ns) ns.length p M Wt ∧ (∀ v ∈ M, v ∉ Wt → ∀ y, RN ns v y → y ∈ M) ∧
    Same H H2 ∧ H2 m = some (.dK (mapD M fun _ => .bl true)) ∧ H2 wq = some (.lst (Wt.map nv)) ∧ k = 2 * (ns.length - M.length) + Wt.length
  refine ⟨WI, ⟨_, [p], [p], _, rfl, ⟨by simp, by simp, fun v h => h, fun v h => ?_, by simp⟩, fun v h h2 => absurd h h2, Same.mut (same_upd hm) hw0, by rw [upd_ne (Ne.symm wm)]; exact upd_same, upd_same, rfl⟩, ?_⟩
  · rw [List.mem_singleton] at h
    subst h
    exact ⟨hp, .refl⟩
  rintro k _ H2 ⟨M, Wt, x4, rfl, met, clo, s2, hM, hW, rfl⟩
  refine ⟨_, rfl, wq, _, rfl, .inl (SqL.of hW), _, _, rfl, rfl, _, rfl, ?_⟩
  refine ifB (fun e => ?_) fun e => ?_
  · have hlen : 0 < Wt.length := by
      have := of_decide_eq_true e
      rw [List.length_map] at this
      omega
    obtain ⟨Wt', v, rfl⟩ : ∃ Wt' v, Wt = Wt' ++ [v] := ⟨_, _, (List.dropLast_concat_getLast (List.ne_nil_of_length_pos hlen)).symm⟩
    have hv0 := met.lt v (met.sub v (by simp))
    obtain ⟨l, el2⟩ : ∃ l, ns[v]? = some l := ⟨_, List.getElem?_eq_getElem hv0.1⟩
    obtain ⟨x, hx1, hx2⟩ := hx.map_at el2
    obtain ⟨b, rfl, _, hb⟩ := is_nats hx2
    have hWt := nd_ndr met.ndW
    refine ⟨fun σ H3 => ∃ k', k' < _ ∧ WI k' σ H3, fun σ' H' h => h, _, rfl, _, rfl, list_ty hW, wq, _, nv v, rfl, rfl, hW, ?_, a, xs, v, _, rfl, rfl, SqL.of ((s2.mut hw0) _ _ ha), ix_nat hx1, b, rfl, ⟨_, SqL.of ((s2.mut hw0) _ _ hb)⟩, ?_⟩
    · rw [List.map_append, List.length_append]
      simp
    have e3 : ((Wt' ++ [v]).map nv).dropLast = Wt'.map nv := by rw [List.map_append]; simp
    rw [e3]
    refine for_L l natD hb (isAll_nats (φ := Any).mpr rfl) (fun d σ H4 => ∃ M' Wt x4, σ = [some (.ref a), some (nv p), some (.ref m), some (.ref wq), x4] ∧ Met (RN ns) ns.length p M' Wt ∧ v ∈ M' ∧ (∀ u ∈ M', u ∉ Wt → u ≠ v → ∀ y, RN ns u y → y ∈ M') ∧ (∀ y ∈ d, y ∈ M') ∧
      Same H H4 ∧ H4 m = some (.dK (mapD M' fun _ => .bl true)) ∧ H4 wq = some (.lst (Wt.map nv)) ∧ 2 * (ns.length - M'.length) + Wt.length ≤ 2 * (ns.length - M.length) + Wt'.length) ?_ (fun d σ H2 ⟨_, _, _, _, _, _, _, _, p, _⟩ => p) ?_ ?_
    · exact ⟨M, Wt', _, rfl, ⟨met.ndM, hWt.1, fun u hu => met.sub u (by simp [hu]), met.lt, met.mem⟩, met.sub v (by simp), fun u hu h1 h2 => clo u hu (by simp [h1, h2]), by simp, s2.mut hw0, by rw [upd_ne (Ne.symm wm)]; exact hM, upd_same, Nat.le_refl _⟩
    · rintro d y r _ _ H4 e4 ⟨M', Wt, x4, rfl, met', hvM, clo', hdn, s4, hM4, hW4, hk⟩ hy
      cases hy
      have hyl : y ∈ l := by rw [e4]; simp
      refine ⟨_, rfl, _, rfl, m, _, rfl, mapD_getO y hM4, _, rfl, ?_⟩
      rw [mapD_notin]
      refine ifB (fun e => ?_) fun e => ?_
      · have hy : y ∉ M' := of_decide_eq_true e
        have hyn : y < ns.length := hl l (List.mem_of_getElem? el2) y hyl
        have len1 := met'.len
        have len2 := met'.lenW
        have met2 : Met (RN ns) ns.length p (M' ++ [y]) (Wt ++ [y]) := by
          refine ⟨nd_snoc met'.ndM hy, nd_snoc met'.ndW fun h => hy (met'.sub _ h), fun u hu => ?_, fun u hu => ?_, by simp [met'.mem]⟩
          · rcases List.mem_append.mp hu with h | h
            · exact List.mem_append_left _ (met'.sub u h)
            · exact List.mem_append_right _ h
          · rcases List.mem_append.mp hu with h | h
            · exact met'.lt u h
            · rw [List.mem_singleton] at h
              subst h
              exact ⟨hyn, .step (met'.lt v hvM).2 ⟨l, el2, hyl⟩⟩
        have len3 := met2.len
        rw [List.length_append, List.length_singleton] at len3
        refine ⟨_, rfl, _, rfl, m, _, rfl, DPut.k (k := nk y) hM4 (smallLt (by rw [mapD_len]; omega)), ?_⟩
        have hW5 : upd H4 m (.dK (putK (mapD M' fun _ => .bl true) (nk y) (.bl true))) wq = some (.lst (Wt.map nv)) := by rw [upd_ne wm]; exact hW4
        refine ⟨_, rfl, list_ty hW5, _, rfl, wq, _, _, rfl, rfl, hW5, smallLt (by rw [List.length_map]; omega), ?_⟩
        refine ⟨M' ++ [y], Wt ++ [y], _, rfl, met2, by simp [hvM], fun u hu h1 h2 z hz => ?_, fun z hz => ?_, (s4.mut hm).mut hw0, ?_, by rw [upd_same, List.map_append]; rfl, ?_⟩
        · rcases List.mem_append.mp hu with h | h
          · exact List.mem_append_left _ (clo' u h (fun q => h1 (List.mem_append_left _ q)) h2 z hz)
          · exact absurd (List.mem_append_right _ h) h1
        · rcases List.mem_append.mp hz with h | h
          · exact List.mem_append_left _ (hdn z h)
          · exact List.mem_append_right _ h
        · rw [upd_ne (Ne.symm wm), upd_same, mapD_new _ hy]
          congr 3
          funext u
          split <;> rfl
        · rw [List.length_append, List.length_append]
          show 2 * (ns.length - (M'.length + 1)) + (Wt.length + 1) ≤ _
          omega
      · have hy : y ∈ M' := by
          have := of_decide_eq_false e
          exact Decidable.not_not.mp this
        refine ⟨M', Wt, _, rfl, met', hvM, clo', fun z hz => ?_, s4, hM4, hW4, hk⟩
        rcases List.mem_append.mp hz with h | h
        · exact hdn z h
        · rw [List.mem_singleton] at h
          exact h ▸ hy
    · rintro _ H4 ⟨M', Wt, x4, rfl, met', hvM, clo', hdn, s4, hM4, hW4, hk⟩
      refine ⟨_, ?_, M', Wt, _, rfl, met', fun u hu h1 y hy => ?_, s4, hM4, hW4, rfl⟩
      · rw [List.length_append, List.length_singleton]
        omega
      · by_cases huv : u = v
        · subst huv
          obtain ⟨l', e1, e2⟩ := hy
          rw [el2] at e1
          cases e1
          exact hdn y e2
        · exact clo' u hu h1 huv y hy
  · have hlen : Wt = [] := by
      have := of_decide_eq_false e
      rw [List.length_map] at this
      exact List.eq_nil_of_length_eq_zero (by omega)
    subst hlen
    refine ⟨_, rfl, sortedD_of hM met.ndM (by have := met.len; omega) fun L r hL hs hr => ?_⟩
    refine q _ _ (s2.trans (same_upd hr)) ?_
    rw [← connL_eq (l := L) hs fun v => ?_]
    · exact is_nats' (s2.free hr) upd_same
    · rw [hL.mem_iff]
      constructor
      · exact met.lt v
      · rintro ⟨_, h⟩
        exact Conn.closed (P := fun v => v ∈ M) (fun a b h1 h2 => clo a h1 (by simp) b h2) met.mem h
end
end PW
set_option Elab.async false
set_option linter.all false
set_option maxRecDepth 100000
set_option maxHeartbeats 4000000
namespace PW
open PySem PySem.Spec PyProof.Rows L2
theorem rn_near {W : Web} (g : GoodTs W.n W.ts) : RN (nearL W) = Adj W.ts := by
  funext x y
  refine propext ⟨?_, fun h => ?_⟩
  · rintro ⟨l, h1, h2⟩
    unfold nearL at h1
    rw [List.getElem?_map] at h1
    cases e : (List.range W.n)[x]? with
    | none => rw [e] at h1; cases h1
    | some z =>
      rw [e] at h1
      cases h1
      obtain ⟨hx, e⟩ := List.getElem?_eq_some_iff.mp e
      rw [List.getElem_range] at e
      subst e
      exact mem_nbrs.mp h2
  · refine ⟨nbrs W.ts x, ?_, mem_nbrs.mpr h⟩
    unfold nearL
    rw [List.getElem?_map, List.getElem?_range (adj_lt g h).1]
    rfl
theorem near_len (W : Web) : (nearL W).length = W.n := by unfold nearL; rw [List.length_map, List.length_range]
theorem near_lt {W : Web} (g : GoodTs W.n W.ts) : ∀ l ∈ nearL W, ∀ y ∈ l, y < (nearL W).length := by
  intro l hl y hy
  unfold nearL at hl
  obtain ⟨v, _, rfl⟩ := List.mem_map.mp hl
  rw [near_len]
  exact (adj_lt g (mem_nbrs.mp hy)).2.1
/-- a web's pieces -/
structure Pieces (n : Nat) (R : Nat → Nat → Prop) (ps : List (List Nat)) : Prop where
  conn : ∀ l ∈ ps, ∃ u, u < n ∧ l = connL n R u
  all : ∀ v, v < n → ∃ l ∈ ps, v ∈ l
  nd : ps.flatten.Nodup
theorem connL_nd (n : Nat) (R : Nat → Nat → Prop) (u : Nat) : (connL n R u).Nodup := (connL_lt n R u).imp fun h => by omega
theorem connL_len (n : Nat) (R : Nat → Nat → Prop) (u : Nat) : (connL n R u).length ≤ n := by
  have := nodup_length_le (connL_nd n R u) (b := List.range n) fun v hv => List.mem_range.mpr (mem_connL.mp hv).1
  rw [List.length_range] at this
  exact this
theorem flatten_snoc {α : Type} (ps : List (List α)) (l : List α) : (ps ++ [l]).flatten = ps.flatten ++ l := by simp
section
variable {P : Program} {w : World} {K : PySem.W.Frag} {mg : Str → Option Value} {base : Heap}
def spPieces (K : PySem.W.Frag) : Sp := fun vs H Q _ => ∃ v, vs = [v] ∧ ∃ (W : Web), Is Any H v (webD W) ∧ WOk W ∧ ∀ ps, Pieces W.n (Adj W.ts) ps → ps.length ≤ W.n → Gives (nearD ps) H Q
-- pieces: 0=web 1=near 2=met 3=found 4=place 5=other
theorem sc_pieces : FnScope ["web", "near", "met", "found", "place", "other"] ["web"] (defScope sPieces) := ⟨rfl, rfl, rfl, by decide +kernel, rfl, by decide +kernel, by decide +kernel⟩
theorem ok_pieces (T : Tx K mg) : DefOk P w K mg base "pieces" 2 ["web"] (spPieces K) := by
  have O_beside := ok_beside (P := P) (w := w) (base := base) T
  have O_hangs_on := ok_hangs_on (P := P) (w := w) (base := base) T
  refine DefOk.mk' T.g_pieces (fn_ok T.d_pieces sc_pieces (fun _ _ _ _ _ _ us hl => match us, hl with | [_], _ => rfl) (fun vs H Q E h => ?_) (fun cdv A outer s H vs Q E hr h => ?_))
  · obtain ⟨_, rfl, _⟩ := h
    rfl
  have hu := hu_of hr
  obtain ⟨v0, rfl, h⟩ := h
  refine ⟨_, (pss_cons (ps_set (i := 1) sc_pieces.nd rfl (.inl rfl) (pcall O_beside (hr.mono (by decide)) (by rfl) (pa_cons (pv 0) pa_nil)))
     (pss_cons (ps_set (i := 2) sc_pieces.nd rfl (.inl rfl) pe_dnewK)
     (pss_cons (ps_set (i := 3) sc_pieces.nd rfl (.inl rfl) (pe_lst pa_nil))
     (pss_cons (ps_for PassesOwn.never rfl (pi_range1 rfl T.f_range (pa_cons (pe_ix ix_tup (pv 0) pe_int (fun _ _ => rfl)) pa_nil)) (pg_name (i := 4) sc_pieces.nd rfl (.inl rfl) (.inl rfl))
     (pss_one (ps_if (pt_cmp (pc_dnotin hu (pv 4) (pv 2)))
     (pss_cons (ps_expr (pe_bm PySem.F.plainAttrs_list PySem.F.slot_list_append PySem.F.type_list_append mt_append (pv 3) (pa_cons (pcall O_hangs_on (hr.mono (by decide)) (by rfl) (pa_cons (pv 1) (pa_cons (pv 4) pa_nil))) pa_nil)))
     (pss_one (ps_expr (pe_bm PySem.F.plainAttrs_dict PySem.F.slot_dict_update PySem.F.type_dict_update mt_updateK (pv 2) (pa_cons (pe_callTy (call_dictP rfl) (by rfl) T.f_dict (by decide +kernel) (pa_cons (pe_lc (own := [("other", 5)]) (g := (gName 5)) (tt := tYes) (te := (tTup (tCons (tVar 5) (tCons (tC (.bl true)) tNil)))) rfl sc_pieces.nd (pi_list (pe_ix ix_list (pv 3) (pe_un un_neg pe_int) (fun _ _ => rfl))) (blkOk_by (N := ["web", "near", "met", "found", "place", "other"]) (sc := defScope sPieces) (by decide +kernel)) (fun _ _ _ _ _ => (pg_name (i := 5) sc_pieces.nd rfl (.inl rfl) (.inr rfl))) (fun _ _ _ _ _ => pts_nil) (fun _ _ _ _ _ => (pe_tup (pa_cons (pv 5) (pa_cons pe_bl pa_nil))))) pa_nil)) pa_nil)))))
     pss_nil)))
     (pss_one (ps_ret (pv 3))))))), ?_⟩
  obtain ⟨W, hw, ok, q⟩ := h
  have nl := near_len W
  have nlt := near_lt ok.good
  have nr := rn_near ok.good
  have hn1 := ok.n1
  refine ⟨_, rfl, v0, rfl, W, hw, ok, fun r H1 s1 hr1 => ?_⟩
  intro m hm
  refine ⟨sz0, fun F hF => ?_⟩
  have mF : F ≠ m := fun e => by rw [e, upd_same] at hF; cases hF
  have hF1 : H1 F = none := by rw [upd_ne mF] at hF; exact hF
  obtain ⟨pw, pq, xs, rfl, hw1, hw2, hx⟩ := is_web hw
  refine ⟨_, rfl, pw, _, 0, nv W.n, rfl, rfl, SqT.of (((s1.mut (s1.free hm)).mut (s1.free hF1)) _ _ hw1), rfl, _, rfl, by omega, by omega, ?_⟩
  rw [Int.toNat_natCast]
  refine for_R (fun i σ H2 => ∃ M f ps vs x4, σ = [some (.ref pw), some r, some (.ref m), some (.ref F), x4, none] ∧ H2 m = some (.dK (mapD M f)) ∧ M.Nodup ∧ (∀ v, v ∈ M ↔ v ∈ ps.flatten) ∧ (∀ v, v < i → v ∈ M) ∧ Same H1 H2 ∧ H2 F = some (.lst vs) ∧
    IsAll (fun a => New H a ∧ a ≠ F ∧ a ≠ m) H2 vs (ps.map natsD) ∧ (∀ l ∈ ps, ∃ u, u < W.n ∧ l = connL W.n (Adj W.ts) u) ∧ ps.flatten.Nodup ∧ ps.length ≤ i)
    ⟨[], fun _ => .non, [], [], _, rfl, by rw [upd_ne (Ne.symm mF)]; exact upd_same, by simp, by simp, fun v h => absurd h (Nat.not_lt_zero _), (same_upd hm).mut hF1, upd_same, .nil, by simp, by simp, Nat.le_refl _⟩ ?_ ?_
  · rintro i _ H2 hi ⟨M, f, ps, vs, x4, rfl, hM, ndM, hMp, hMi, s2, hF2, hvs, hcon, hnd, hlen⟩
    have hl : vs.length = ps.length := hvs.map_len
    refine ⟨_, rfl, _, rfl, m, _, rfl, mapD_getO i hM, _, rfl, ?_⟩
    rw [mapD_notin]
    refine ifB (fun e => ?_) fun e => ?_
    · have hiM : i ∉ M := of_decide_eq_true e
      refine ⟨_, rfl, list_ty hF2, _, rfl, _, rfl, _, _, rfl, nearL W, i, (hr1.same s2).any, rfl, by omega, by omega, nlt, fun rr H3 s3 h3 => ?_⟩
      rw [nl, nr] at h3
      obtain ⟨b, rfl, hb0, hb⟩ := is_nats h3
      have bF : b ≠ F := fun e => by rw [e] at hb0; rw [show H2 F = none from hb0] at hF2; cases hF2
      have bm : b ≠ m := fun e => by rw [e] at hb0; rw [show H2 m = none from hb0] at hM; cases hM
      refine ⟨F, vs, _, rfl, rfl, s3 _ _ hF2, smallLt (by omega), ?_⟩
      have hM4 : upd H3 F (.lst (vs ++ [.ref b])) m = some (.dK (mapD M f)) := by rw [upd_ne (Ne.symm mF)]; exact s3 _ _ hM
      have hb4 : upd H3 F (.lst (vs ++ [.ref b])) b = some (.lst ((connL W.n (Adj W.ts) i).map nv)) := by rw [upd_ne bF]; exact hb
      refine ⟨_, rfl, dict_ty hM4, _, rfl, _, rfl, F, _, _, _, rfl, rfl, SqL.of upd_same, atI_last _ _, b, rfl, ⟨_, SqL.of hb4⟩, fun D hD => ?_⟩
      refine lc_L (connL W.n (Adj W.ts) i) natD (fun v => some (.tuple [natD v, .bool true])) hb4 (isAll_nats (φ := Any).mpr rfl) hD (by have := connL_len W.n (Adj W.ts) i; omega) ?_ ?_
      · intro x y H5 _ s5 hy Kont Skip k1 k2
        cases hy
        exact ⟨rfl, _, rfl, sz2, fun p hp => k1 _ _ _ (same_upd hp) rfl (.tup upd_same (.cons (.int _) (.cons (.bl _) .nil)))⟩
      · intro H5 s5 h5
        rw [filterMap_some] at h5
        obtain ⟨a5, ps5, e5, h5a, h5b⟩ := dictP_is (K := K) (key := fun v => v) (fun _ => .bl true) (fun _ => .bool true) h5 (fun a _ x h => by cases h; rfl)
        cases e5
        refine ⟨_, ps5, _, rfl, h5a, h5b, fun p2 hp2 => ?_⟩
        rw [mapD_merge0 (connL W.n (Adj W.ts) i) (fun _ => .bl true) (connL_nd _ _ _)]
        have s6 := s5.trans (same_upd (o := .dK (mapD (connL W.n (Adj W.ts) i) fun _ => V.bl true)) hp2)
        have p2m : m ≠ p2 := fun e => by rw [← e, s5 _ _ hM4] at hp2; cases hp2
        obtain ⟨M', f', e', nd', hM', _⟩ := mapD_merge (connL W.n (Adj W.ts) i) M f (fun _ => .bl true) ndM
        have ndl := connL_len W.n (Adj W.ts) i
        have ndm : M.length ≤ 50 := by
          have := nodup_length_le ndM (b := List.range W.n) fun v hv => ?_
          · rw [List.length_range] at this; omega
          · obtain ⟨l, hl1, hl2⟩ := List.mem_flatten.mp ((hMp v).mp hv)
            obtain ⟨u, _, rfl⟩ := hcon l hl1
            exact List.mem_range.mpr (mem_connL.mp hl2).1
        refine ⟨m, p2, _, _, rfl, rfl, s6 _ _ hM4, upd_same, p2m, small (by rw [mapD_len, mapD_len]; omega), ?_⟩
        have e'' : mergeK (mapD M f) (mapD (connL W.n (Adj W.ts) i) fun _ => V.bl true) = mapD M' f' := e'
        rw [e'']
        have hF6 := s6 _ _ (upd_same (H := H3) (a := F) (o := .lst (vs ++ [.ref b])))
        refine ⟨M', f', ps ++ [connL W.n (Adj W.ts) i], vs ++ [.ref b], _, rfl, upd_same, nd', fun v => ?_, fun v hv => ?_, ?_, ?_, ?_, ?_, ?_, by rw [List.length_append]; show ps.length + 1 ≤ _; omega⟩
        · rw [hM', flatten_snoc, List.mem_append, hMp]
        · rw [hM']
          by_cases e : v = i
          · subst e; exact .inr (mem_connL.mpr ⟨hi, .refl⟩)
          · exact .inl (hMi v (by omega))
        · exact ((((s2.trans s3).mut hF1).trans s6).mut hm)
        · rw [upd_ne mF]; exact hF6
        · have nt1 : ∀ xs, H3 F ≠ some (.tup xs) := fun xs q => by rw [s3 _ _ hF2] at q; cases q
          have nt2 : ∀ (o : HO) xs, (upd H5 p2 o) m ≠ some (.tup xs) := fun o xs q => by
            rw [upd_ne p2m, s5 _ _ hM4] at q
            cases q
          rw [List.map_append]
          refine IsAll.upd (fun a q => q.2.2) (nt2 _) (IsAll.same s6 (IsAll.upd (fun a q => q.2.1) nt1 ((hvs.same s3).snoc (is_nats' ⟨?_, bF, bm⟩ hb))))
          exact s1.free (s2.free hb0)
        · intro l hl
          rcases List.mem_append.mp hl with h | h
          · exact hcon l h
          · rw [List.mem_singleton] at h
            exact ⟨i, hi, h⟩
        · rw [flatten_snoc, List.nodup_append]
          refine ⟨hnd, connL_nd _ _ _, fun v hv u hu e => hiM ?_⟩
          subst e
          obtain ⟨l, hl1, hl2⟩ := List.mem_flatten.mp hv
          obtain ⟨u, hu1, rfl⟩ := hcon l hl1
          have c1 := (mem_connL.mp hl2).2
          have c2 := (mem_connL.mp hu).2
          exact (hMp i).mpr (List.mem_flatten.mpr ⟨_, hl1, mem_connL.mpr ⟨hi, c1.trans (c2.symm (adj_symm W.ts))⟩⟩)
    · have hiM : i ∈ M := Decidable.not_not.mp (of_decide_eq_false e)
      refine ⟨M, f, ps, vs, _, rfl, hM, ndM, hMp, fun v hv => ?_, s2, hF2, hvs, hcon, hnd, by omega⟩
      by_cases e : v = i
      · subst e; exact hiM
      · exact hMi v (by omega)
  · rintro _ H2 ⟨M, f, ps, vs, x4, rfl, hM, ndM, hMp, hMi, s2, hF2, hvs, hcon, hnd, hlen⟩
    refine ⟨_, rfl, q ps ⟨hcon, fun v hv => ?_, hnd⟩ hlen _ _ (s1.trans s2) (.lst (s1.free hF1) hF2 (hvs.imp fun a h => h.1))⟩
    obtain ⟨l, h1, h2⟩ := List.mem_flatten.mp ((hMp v).mp (hMi v hv))
    exact ⟨l, h1, h2⟩
end
end PW
set_option Elab.async false
set_option linter.all false
set_option maxRecDepth 100000
set_option maxHeartbeats 4000000
namespace PW
open PySem PySem.Spec PyProof.Rows L2
theorem POk.len {W : Web} {posts : List Nat} (p : POk W posts) : posts.length ≤ W.n := by
  have := nodup_length_le p.nd (b := List.range W.n) fun v hv => List.mem_range.mpr (p.lt v hv)
  rw [List.length_range] at this
  exact this
/-- ties left -/
theorem WOk.sub {W : Web} (ok : WOk W) (p : Tie → Bool) : WOk ⟨W.n, W.ts.filter p⟩ :=
  ⟨⟨fun t ht => ok.good.1 t (List.mem_filter.mp ht).1, (List.filter_sublist.map _).nodup ok.good.2⟩, ok.n0, ok.n1, Nat.le_trans (List.length_filter_le ..) ok.len⟩
theorem isAll_bools {φ : Addr → Prop} {H : Hp} : ∀ {vs : List V} {bs : List Bool}, IsAll φ H vs (bs.map .bool) → vs = bs.map V.bl
  | _, [], h => by cases h; rfl
  | _, b :: bs, h => by
    cases h with
    | cons h1 h2 =>
      cases h1
      rw [isAll_bools h2]
      rfl
/-- a piece's places beside the posts, if it has posts -/
def tp (posts l : List Nat) : List Nat := if 0 < (posts.filter fun p => decide (p ∈ l)).length then l.filter fun v => decide (v ∉ posts) else []
theorem tp_sub (posts : List Nat) : ∀ d : List (List Nat), (d.flatMap (tp posts)).Sublist d.flatten
  | [] => List.Sublist.refl _
  | l :: d => by
    rw [List.flatMap_cons, List.flatten_cons]
    refine List.Sublist.append ?_ (tp_sub posts d)
    unfold tp
    split
    · exact List.filter_sublist
    · exact List.nil_sublist _
abbrev cutTs (ts : List Tie) (cut : List (Nat × Nat)) : List Tie := ts.filter fun t => decide (pr t ∉ cut)
section
variable {P : Program} {w : World} {K : PySem.W.Frag} {mg : Str → Option Value} {base : Heap}
def spIsParting (K : PySem.W.Frag) : Sp := fun vs H Q _ => ∃ v c d, vs = [v, c, d] ∧ ∃ (W : Web) (posts : List Nat) (cut : List (Nat × Nat)), Is Any H v (webD W) ∧ WOk W ∧ Is Any H c (natsD posts) ∧ POk W posts ∧ Is Any H d (.list (cut.map pairD)) ∧ cut.length ≤ 90000 ∧
  ∀ b : Bool, (b = true ↔ ∀ u, u < W.n → (posts.filter fun p => decide (p ∈ connL W.n (Adj (cutTs W.ts cut)) u)).length < 2) → GivesB b H Q
-- is_parting: 0=web 1=posts 2=cut 3=piece
theorem sc_is_parting : FnScope ["web", "posts", "cut", "piece"] ["web", "posts", "cut"] (defScope sIsParting) := ⟨rfl, rfl, rfl, by decide +kernel, rfl, by decide +kernel, by decide +kernel⟩
theorem ok_is_parting (T : Tx K mg) : DefOk P w K mg base "is_parting" 3 ["web", "posts", "cut"] (spIsParting K) := by
  have O_pieces := ok_pieces (P := P) (w := w) (base := base) T
  have O_posts_in := ok_posts_in (P := P) (w := w) (base := base) T
  have O_without := ok_without (P := P) (w := w) (base := base) T
  refine DefOk.mk' T.g_is_parting (fn_ok T.d_is_parting sc_is_parting (fun _ _ _ _ _ _ us hl => match us, hl with | [_, _, _], _ => rfl) (fun vs H Q E h => ?_) (fun cdv A outer s H vs Q E hr h => ?_))
  · obtain ⟨_, _, _, rfl, _⟩ := h
    rfl
  have hu := hu_of hr
  obtain ⟨v0, v1, v2, rfl, h⟩ := h
  refine ⟨_, (pss_one (ps_ret (pe_callB (cr_all rfl) (by rfl) T.f_all (by decide +kernel) (pa_cons (pe_lc (own := [("piece", 3)]) (g := (gName 3)) (tt := tYes) (te := (tOp qLt (tCB (qLen K) (tCons (tCall (spPostsIn K) [] E0 (tCons (tVar 1) (tCons (tVar 3) tNil))) tNil)) (tC (.int 2)))) rfl sc_is_parting.nd (pi_list (pcall O_pieces (hr.mono (by decide)) (by rfl) (pa_cons (pcall O_without (hr.mono (by decide)) (by rfl) (pa_cons (pv 0) (pa_cons (pv 2) pa_nil))) pa_nil))) (blkOk_by (N := ["web", "posts", "cut", "piece"]) (sc := defScope sIsParting) (by decide +kernel)) (fun _ _ _ _ _ => (pg_name (i := 3) sc_is_parting.nd rfl (.inl rfl) (.inr rfl))) (fun _ _ _ _ _ => pts_nil) (fun _ _ _ _ _ => (pe_cmpR op_lt (pe_callB call_len_seq (by rfl) T.f_len (by decide +kernel) (pa_cons (pcall O_posts_in (hr.mono (by decide)) (by rfl) (pa_cons (pv 1) (pa_cons (pv 3) pa_nil))) pa_nil)) pe_int (nomark _)))) pa_nil)))), ?_⟩
  obtain ⟨W, posts, cut, hw, ok, hp, pok, hc, hl, q⟩ := h
  have n1 := ok.n1
  have pl := pok.len
  refine ⟨_, rfl, _, rfl, _, _, rfl, W, cut, hw, ok, hc, hl, fun r H1 s1 h1 => ?_⟩
  refine ⟨_, rfl, _, h1.any, ok.sub _, fun ps hps hpl r2 H2 s2 h2 => ?_⟩
  obtain ⟨a, xs, rfl, _, ha, hx⟩ := is_list h2
  refine ⟨a, rfl, ⟨_, SqL.of ha⟩, fun D hD => lc_L ps natsD (fun l => some (.bool (decide ((((posts.filter fun p => decide (p ∈ l)).length : Nat) : Int) < 2)))) ha hx hD (Nat.le_trans hpl (by show W.n ≤ _; omega)) ?_ ?_⟩
  · intro x y H3 hy0 s3 hy Kont Skip k1 k2
    refine ⟨rfl, _, rfl, _, rfl, _, _, rfl, posts, y, ((hp.same s1).same s2).same s3, hy.any, by omega, fun r3 H4 s4 h4 => ?_⟩
    obtain ⟨b, rfl, _, hb⟩ := is_nats h4
    refine ⟨b, _, rfl, .inl (SqL.of hb), _, _, rfl, rfl, ?_⟩
    rw [List.length_map]
    exact k1 _ _ _ s4 rfl (.bl _)
  · intro H3 s3 h3
    rw [filterMap_some] at h3
    have e0 : (ps.map fun l => PyData.bool (decide ((((posts.filter fun p => decide (p ∈ l)).length : Nat) : Int) < 2))) = (ps.map fun l => decide ((((posts.filter fun p => decide (p ∈ l)).length : Nat) : Int) < 2)).map PyData.bool := by rw [List.map_map]; rfl
    rw [e0] at h3
    obtain ⟨D', ys, e, _, hys, hyy⟩ := is_list h3
    cases e
    rw [isAll_bools hyy] at hys
    refine ⟨D, _, rfl, SqL.of hys, q _ ?_ _ ((s1.trans s2).trans s3)⟩
    rw [List.all_map, List.all_eq_true]
    constructor
    · intro h u hu
      obtain ⟨l, h1, h2⟩ := hps.all u hu
      have h3 := of_decide_eq_true (h l h1)
      obtain ⟨u', hu', rfl⟩ := hps.conn l h1
      have c := (mem_connL.mp h2).2
      have e : connL W.n (Adj (cutTs W.ts cut)) u = connL W.n (Adj (cutTs W.ts cut)) u' := connL_eq (connL_lt _ _ _) fun v => by
        rw [mem_connL]
        exact ⟨fun z => ⟨z.1, c.trans z.2⟩, fun z => ⟨z.1, (c.symm (adj_symm _)).trans z.2⟩⟩
      rw [e]
      exact Int.ofNat_lt.mp h3
    · intro h l hl
      obtain ⟨u', hu', rfl⟩ := hps.conn l hl
      exact decide_eq_true (Int.ofNat_lt.mpr (h u' hu'))
def spOwnersOf (K : PySem.W.Frag) : Sp := fun vs H Q _ => ∃ v c d, vs = [v, c, d] ∧ ∃ (W : Web) (posts : List Nat) (cut : List (Nat × Nat)), Is Any H v (webD W) ∧ WOk W ∧ Is Any H c (natsD posts) ∧ POk W posts ∧ Is Any H d (.list (cut.map pairD)) ∧ cut.length ≤ 90000 ∧
  ∀ os : List Nat, os.length = W.n → (∀ v, v < W.n → (∃ p ∈ posts, Conn (Adj (cutTs W.ts cut)) p v) → os.getD v 0 ∈ posts ∧ Conn (Adj (cutTs W.ts cut)) (os.getD v 0) v) →
    (∀ v, v < W.n → (¬ ∃ p ∈ posts, Conn (Adj (cutTs W.ts cut)) p v) → os.getD v 0 = posts.getD 0 0) → Gives (tupD os) H Q
-- owners_of: 0=web 1=posts 2=cut 3=owners 4=near 5=post 6=place
theorem sc_owners_of : FnScope ["web", "posts", "cut", "owners", "near", "post", "place"] ["web", "posts", "cut"] (defScope sOwnersOf) := ⟨rfl, rfl, rfl, by decide +kernel, rfl, by decide +kernel, by decide +kernel⟩
theorem ok_owners_of (T : Tx K mg) : DefOk P w K mg base "owners_of" 3 ["web", "posts", "cut"] (spOwnersOf K) := by
  have O_beside := ok_beside (P := P) (w := w) (base := base) T
  have O_hangs_on := ok_hangs_on (P := P) (w := w) (base := base) T
  have O_without := ok_without (P := P) (w := w) (base := base) T
  refine DefOk.mk' T.g_owners_of (fn_ok T.d_owners_of sc_owners_of (fun _ _ _ _ _ _ us hl => match us, hl with | [_, _, _], _ => rfl) (fun vs H Q E h => ?_) (fun cdv A outer s H vs Q E hr h => ?_))
  · obtain ⟨_, _, _, rfl, _⟩ := h
    rfl
  have hu := hu_of hr
  obtain ⟨v0, v1, v2, rfl, h⟩ := h
  refine ⟨_, (pss_cons (ps_set (i := 3) sc_owners_of.nd rfl (.inl rfl) (pe_op op_rep (pe_lst (pa_cons (pe_ix ix_list (pv 1) pe_int (fun _ _ => rfl)) pa_nil)) (pe_ix ix_tup (pv 0) pe_int (fun _ _ => rfl))))
     (pss_cons (ps_set (i := 4) sc_owners_of.nd rfl (.inl rfl) (pcall O_beside (hr.mono (by decide)) (by rfl) (pa_cons (pcall O_without (hr.mono (by decide)) (by rfl) (pa_cons (pv 0) (pa_cons (pv 2) pa_nil))) pa_nil)))
     (pss_cons (ps_for PassesOwn.never rfl (pi_list (pv 1)) (pg_name (i := 5) sc_owners_of.nd rfl (.inl rfl) (.inl rfl))
     (pss_one (ps_for PassesOwn.never rfl (pi_list (pcall O_hangs_on (hr.mono (by decide)) (by rfl) (pa_cons (pv 4) (pa_cons (pv 5) pa_nil)))) (pg_name (i := 6) sc_owners_of.nd rfl (.inl rfl) (.inl rfl))
     (pss_one (ps_asg (pv 5) (pg_sub (pv 3) (pv 6) set_list))))))
     (pss_one (ps_ret (pe_callTy call_tuple_of (by rfl) T.f_tuple (by decide +kernel) (pa_cons (pv 3) pa_nil))))))), ?_⟩
  obtain ⟨W, posts, cut, hw, ok, hp, pok, hc, hl, q⟩ := h
  have n1 := ok.n1
  have pl := pok.len
  have pl0 := pok.ne
  obtain ⟨pw, pq, xs, rfl, hw1, hw2, hx⟩ := is_web hw
  obtain ⟨pa, rfl, _, hpa⟩ := is_nats hp
  refine ⟨_, rfl, pa, _, 0, nv (posts.getD 0 0), rfl, rfl, SqL.of hpa, at_nats pok.ne, sz1, fun l0 hl0 => ?_⟩
  have sl := same_upd (o := .lst [nv (posts.getD 0 0)]) hl0
  refine ⟨_, rfl, pw, _, 0, nv W.n, rfl, rfl, SqT.of (sl _ _ hw1), rfl, l0, W.n, _, rfl, rfl, upd_same, by omega, by omega, small (by simp; omega), fun o ho => ?_⟩
  rw [Int.toNat_natCast]
  have e0 : (List.replicate W.n [nv (posts.getD 0 0)]).flatten = (List.replicate W.n (posts.getD 0 0)).map nv := by simp
  rw [e0]
  have ho0 : H o = none := sl.free ho
  have s0 := sl.trans (same_upd (o := .lst ((List.replicate W.n (posts.getD 0 0)).map nv)) ho)
  have ho1 := upd_same (H := upd H l0 (.lst [nv (posts.getD 0 0)])) (a := o) (o := .lst ((List.replicate W.n (posts.getD 0 0)).map nv))
  refine ⟨_, rfl, _, rfl, _, _, rfl, W, cut, hw.same s0, ok, hc.same s0, hl, fun r H1 s1 h1 => ?_⟩
  have ok' := ok.sub fun t => decide (pr t ∉ cut)
  refine ⟨_, rfl, _, h1.any, ok', fun r2 H2 s2 h2 => ?_⟩
  have nl : (nearL ⟨W.n, cutTs W.ts cut⟩).length = W.n := near_len _
  have nlt := near_lt ok'.good
  have nr := rn_near ok'.good
  refine ⟨_, rfl, pa, rfl, ⟨_, SqL.of (s2 _ _ (s1 _ _ (s0 _ _ hpa)))⟩, ?_⟩
  have ho2 := s2 _ _ (s1 _ _ ho1)
  refine for_L posts natD hpa (isAll_nats (φ := Any).mpr rfl) (fun d σ H3 => ∃ os x5 x6, σ = [some (.ref pw), some (.ref pa), some v2, some (.ref o), some r2, x5, x6] ∧ Same H H3 ∧ H3 o = some (.lst (os.map nv)) ∧ Is (New H1) H3 r2 (nearD (nearL ⟨W.n, cutTs W.ts cut⟩)) ∧ os.length = W.n ∧
    (∀ v, v < W.n → (∃ p ∈ d, Conn (Adj (cutTs W.ts cut)) p v) → os.getD v 0 ∈ d ∧ Conn (Adj (cutTs W.ts cut)) (os.getD v 0) v) ∧ (∀ v, v < W.n → (¬ ∃ p ∈ d, Conn (Adj (cutTs W.ts cut)) p v) → os.getD v 0 = posts.getD 0 0))
    ⟨List.replicate W.n (posts.getD 0 0), _, _, rfl, (s0.trans s1).trans s2, ho2, h2, by simp, by simp, fun v hv _ => ?_⟩ (fun d σ H3 ⟨_, _, _, _, p, _⟩ => p) ?_ ?_
  · rw [List.getD_eq_getElem?_getD, List.getElem?_replicate, if_pos hv]
    rfl
  · rintro d p r3 _ _ H3 e3 ⟨os, x5, x6, rfl, s3, ho3, hr3, hos, hos1, hos2⟩ hy
    cases hy
    have hp0 : p ∈ posts := by rw [e3]; simp
    have hpn := pok.lt p hp0
    refine ⟨_, rfl, _, rfl, _, _, rfl, nearL ⟨W.n, cutTs W.ts cut⟩, p, hr3.any, rfl, by omega, by omega, nlt, fun r4 H4 s4 h4 => ?_⟩
    rw [nl, nr] at h4
    obtain ⟨b, rfl, hb0, hb⟩ := is_nats h4
    have bo : b ≠ o := fun e => by rw [e] at hb0; rw [show H3 o = none from hb0] at ho3; cases ho3
    refine ⟨b, rfl, ⟨_, SqL.of hb⟩, ?_⟩
    have ho4 := s4 _ _ ho3
    have nt : ∀ xs, H4 o ≠ some (.tup xs) := fun xs q => by rw [ho4] at q; cases q
    have hr4 : Is (New H1) (del H4 o) r2 (nearD (nearL ⟨W.n, cutTs W.ts cut⟩)) := (hr3.same s4).del (fun a q => q.ne (s1 _ _ ho1)) nt
    refine for_L (H0 := del H4 o) (connL W.n (Adj (cutTs W.ts cut)) p) natD (del_get hb bo) (isAll_nats (φ := Any).mpr rfl) (fun e σ H5 => ∃ os' x6, σ = [some (.ref pw), some (.ref pa), some v2, some (.ref o), some r2, some (nv p), x6] ∧ Same (del H4 o) H5 ∧ H5 o = some (.lst (os'.map nv)) ∧ os'.length = W.n ∧
      (∀ v, v < W.n → os'.getD v 0 = if v ∈ e then p else os.getD v 0)) ⟨os, _, rfl, del_same, ho4, hos, by simp⟩ (fun d σ H3 ⟨_, _, _, p, _⟩ => p) ?_ ?_
    · rintro e v r5 _ _ H5 e5 ⟨os', x6, rfl, s5, ho5, hos', hv'⟩ hy
      cases hy
      have hvn : v < W.n := (mem_connL.mp (show v ∈ connL W.n (Adj (cutTs W.ts cut)) p by rw [e5]; simp)).1
      refine ⟨_, rfl, _, rfl, _, rfl, o, _, _, _, rfl, rfl, ho5, ix_set (by omega), os'.set v p, _, rfl, s5.mut del_self, ?_, by rw [List.length_set]; exact hos', fun u hu => ?_⟩
      · rw [upd_same, List.map_set]
      · rw [getD_set (by omega), hv' u hu]
        by_cases eu : u = v
        · subst eu; simp
        · rw [if_neg eu]
          by_cases ee : u ∈ e
          · rw [if_pos ee, if_pos (List.mem_append_left _ ee)]
          · rw [if_neg ee, if_neg (by simp [ee, eu])]
    · rintro _ H5 ⟨os', x6, rfl, s5, ho5, hos', hv'⟩
      refine ⟨os', _, _, rfl, Same.trans (same_del (o := .lst []) (s3.trans s4) ho0) s5, ho5, hr4.same s5, hos', fun v hv hex => ?_, fun v hv hex => ?_⟩
      · rw [hv' v hv]
        by_cases e : v ∈ connL W.n (Adj (cutTs W.ts cut)) p
        · rw [if_pos e]
          exact ⟨by simp, (mem_connL.mp e).2⟩
        · rw [if_neg e]
          obtain ⟨p', h1, h2⟩ := hex
          rcases List.mem_append.mp h1 with h1 | h1
          · obtain ⟨a1, a2⟩ := hos1 v hv ⟨p', h1, h2⟩
            exact ⟨List.mem_append_left _ a1, a2⟩
          · rw [List.mem_singleton] at h1
            subst h1
            exact absurd (mem_connL.mpr ⟨hv, h2⟩) e
      · rw [hv' v hv, if_neg (fun e => hex ⟨p, by simp, (mem_connL.mp e).2⟩)]
        exact hos2 v hv fun ⟨p', h1, h2⟩ => hex ⟨p', List.mem_append_left _ h1, h2⟩
  · rintro _ H3 ⟨os, x5, x6, rfl, s3, ho3, hr3, hos, hos1, hos2⟩
    refine ⟨_, rfl, o, _, rfl, .inl ⟨SqL.of ho3, fun l hl => q os hos hos1 hos2 _ _ (s3.trans (same_upd hl)) (is_tnats' upd_same)⟩⟩
def spTiedPlaces (K : PySem.W.Frag) : Sp := fun vs H Q _ => ∃ v c, vs = [v, c] ∧ ∃ (W : Web) (posts : List Nat), Is Any H v (webD W) ∧ WOk W ∧ Is Any H c (natsD posts) ∧ POk W posts ∧ Gives (natsD (tiedL W posts)) H Q
-- tied_places: 0=web 1=posts 2=found 3=piece 4=place
theorem sc_tied_places : FnScope ["web", "posts", "found", "piece", "place"] ["web", "posts"] (defScope sTiedPlaces) := ⟨rfl, rfl, rfl, by decide +kernel, rfl, by decide +kernel, by decide +kernel⟩
theorem ok_tied_places (T : Tx K mg) : DefOk P w K mg base "tied_places" 3 ["web", "posts"] (spTiedPlaces K) := by
  have O_pieces := ok_pieces (P := P) (w := w) (base := base) T
  have O_posts_in := ok_posts_in (P := P) (w := w) (base := base) T
  refine DefOk.mk' T.g_tied_places (fn_ok T.d_tied_places sc_tied_places (fun _ _ _ _ _ _ us hl => match us, hl with | [_, _], _ => rfl) (fun vs H Q E h => ?_) (fun cdv A outer s H vs Q E hr h => ?_))
  · obtain ⟨_, _, rfl, _⟩ := h
    rfl
  have hu := hu_of hr
  obtain ⟨v0, v1, rfl, h⟩ := h
  refine ⟨_, (pss_cons (ps_set (i := 2) sc_tied_places.nd rfl (.inl rfl) (pe_lst pa_nil))
     (pss_cons (ps_for PassesOwn.never rfl (pi_list (pcall O_pieces (hr.mono (by decide)) (by rfl) (pa_cons (pv 0) pa_nil))) (pg_name (i := 3) sc_tied_places.nd rfl (.inl rfl) (.inl rfl))
     (pss_one (ps_if (pt_cmpR op_gt (pe_callB call_len_seq (by rfl) T.f_len (by decide +kernel) (pa_cons (pcall O_posts_in (hr.mono (by decide)) (by rfl) (pa_cons (pv 1) (pa_cons (pv 3) pa_nil))) pa_nil)) pe_int (nomark _))
     (pss_one (ps_expr (pe_bm PySem.F.plainAttrs_list PySem.F.slot_list_extend PySem.F.type_list_extend mt_extend (pv 2) (pa_cons (pe_lc (own := [("place", 4)]) (g := (gName 4)) (tt := (tTest (tOp (rIn K true) (tVar 4) (tVar 1)))) (te := (tVar 4)) rfl sc_tied_places.nd (pi_list (pv 3)) (blkOk_by (N := ["web", "posts", "found", "piece", "place"]) (sc := defScope sTiedPlaces) (by decide +kernel)) (fun _ _ _ _ _ => (pg_name (i := 4) sc_tied_places.nd rfl (.inl rfl) (.inr rfl))) (fun _ _ _ _ _ => (pts_one (pt_cmpR op_notIn_seq (pv 4) (pv 1) (by rfl)))) (fun _ _ _ _ _ => (pv 4))) pa_nil))))
     pss_nil)))
     (pss_one (ps_ret (pe_callB cr_sortedI (by rfl) T.f_sorted (by decide +kernel) (pa_cons (pv 2) pa_nil)))))), ?_⟩
  obtain ⟨W, posts, hw, ok, hp, pok, q⟩ := h
  have n1 := ok.n1
  have pl := pok.len
  obtain ⟨pa, rfl, _, hpa⟩ := is_nats hp
  refine ⟨sz0, fun F hF => ?_⟩
  refine ⟨_, rfl, _, rfl, W, hw.same (same_upd hF), ok, fun ps hps hpl r H1 s1 h1 => ?_⟩
  have s01 := (same_upd hF).trans s1
  obtain ⟨a, xs, rfl, ha0, ha, hx⟩ := is_list h1
  have hF1 : H1 F = some (.lst []) := s1 _ _ upd_same
  have nt := not_tup hF1
  have hx' := hx.del (p := F) (fun a q => q.ne upd_same) nt
  have sD : Same H (del H1 F) := same_del (o := .lst []) s01 hF
  refine ⟨a, rfl, ⟨_, SqL.of ha⟩, ?_⟩
  have sub : ∀ d r, ps = d ++ r → (d.flatMap (tp posts)).length ≤ W.n := fun d r e => by
    have s1 := tp_sub posts d
    have s2 : d.flatten.Sublist ps.flatten := by rw [e, List.flatten_append]; exact List.sublist_append_left _ _
    have nd := (s1.trans s2).nodup hps.nd
    have := nodup_length_le nd (b := List.range W.n) fun v hv => ?_
    · rw [List.length_range] at this
      exact this
    · obtain ⟨l, h1, h2⟩ := List.mem_flatten.mp ((s1.trans s2).subset hv)
      obtain ⟨u, _, rfl⟩ := hps.conn l h1
      exact List.mem_range.mpr (mem_connL.mp h2).1
  refine for_L (H0 := del H1 F) ps natsD (del_get ha (ha0.ne upd_same)) hx' (fun d σ H2 => ∃ x3, σ = [some v0, some (.ref pa), some (.ref F), x3, none] ∧ Same (del H1 F) H2 ∧ H2 F = some (.lst ((d.flatMap (tp posts)).map nv)))
    ⟨_, rfl, del_same, hF1⟩ (fun d σ H3 ⟨_, _, p, _⟩ => p) ?_ ?_
  · rintro d l r x _ H2 e00 ⟨x3, rfl, s2, hF2⟩ hl
    have hlps : l ∈ ps := by rw [e00]; simp
    refine ⟨_, rfl, _, rfl, _, _, rfl, posts, l, (hp.same sD).same s2, hl.any, by omega, fun r2 H3 s3 h3 => ?_⟩
    obtain ⟨b, rfl, hb0, hb⟩ := is_nats h3
    refine ⟨b, _, rfl, .inl (SqL.of hb), _, _, rfl, rfl, _, rfl, ?_⟩
    rw [List.length_map]
    have hF3 := s3 _ _ hF2
    refine ifB (fun e => ?_) fun e => ?_
    · have e' : 0 < (posts.filter fun p => decide (p ∈ l)).length := by have := of_decide_eq_true e; omega
      obtain ⟨c, rfl, _, hc⟩ := is_nats (hl.same s3)
      refine ⟨_, rfl, list_ty hF3, _, rfl, c, rfl, ⟨_, SqL.of hc⟩, fun D hD => ?_⟩
      have ll : l.length ≤ W.n := by
        obtain ⟨u, _, rfl⟩ := hps.conn l hlps
        exact connL_len _ _ _
      refine lc_L l natD (fun v => if decide (v ∉ posts) = true then some (natD v) else none) hc (isAll_nats (φ := Any).mpr rfl) hD (by omega) ?_ ?_
      · intro y z H4 _ s4 hy Kont Skip k1 k2
        cases hy
        refine ⟨rfl, _, rfl, _, rfl, pa, _, rfl, .inl (SqL.of (((sD.trans s2).trans s3).trans s4 _ _ hpa)), rfl, flat_nats posts, _, rfl, ?_⟩
        rw [inV_natsN]
        exact ifB (fun e => ⟨_, rfl, k1 _ _ _ (Same.refl _) (if_pos e) (.int _)⟩) fun e => k2 _ (Same.refl _) (if_neg (by rw [e]; exact Bool.false_ne_true))
      · intro H4 s4 h4
        rw [filterMap_if] at h4
        obtain ⟨D', e2, _, h5⟩ := is_nats h4
        cases e2
        have lb := sub (d ++ [l]) r (by rw [List.append_assoc]; exact e00)
        have e3 : (d ++ [l]).flatMap (tp posts) = d.flatMap (tp posts) ++ l.filter fun v => decide (v ∉ posts) := by
          rw [List.flatMap_append, List.flatMap_cons, List.flatMap_nil, List.append_nil]
          unfold tp
          rw [if_pos e']
        rw [e3, List.length_append] at lb
        refine ⟨F, D, _, _, rfl, rfl, s4 _ _ hF3, h5, small (by rw [List.length_map, List.length_map]; omega), _, rfl, ((s2.trans s3).trans s4).mut del_self, ?_⟩
        rw [upd_same, e3, List.map_append]
    · have e' : ¬ 0 < (posts.filter fun p => decide (p ∈ l)).length := by have := of_decide_eq_false e; omega
      refine ⟨_, rfl, s2.trans s3, ?_⟩
      rw [hF3, List.flatMap_append, List.flatMap_cons, List.flatMap_nil, List.append_nil]
      unfold tp
      rw [if_neg e', List.append_nil]
  · rintro _ H2 ⟨x3, rfl, s2, hF2⟩
    have nd : (ps.flatMap (tp posts)).Nodup := (tp_sub posts ps).nodup hps.nd
    refine ⟨_, rfl, F, (ps.flatMap (tp posts)).map fun v : Nat => (v : Int), rfl, SqL.of (by rw [nv_int]; exact hF2), fun ns' p2 h1 h2 hp2 => ?_⟩
    obtain ⟨L, rfl, h3, h4⟩ := sortN h1 h2 nd
    have eL : L = tiedL W posts := sorted_unique h4 (tiedL_lt W posts) fun v => by
      rw [h3.mem_iff, mem_tiedL, List.mem_flatMap]
      constructor
      · rintro ⟨l, h1, h2⟩
        unfold tp at h2
        split at h2
        · rename_i h0
          obtain ⟨u, _, rfl⟩ := hps.conn l h1
          obtain ⟨h5, h6⟩ := List.mem_filter.mp h2
          obtain ⟨p, h7⟩ := List.exists_mem_of_length_pos h0
          obtain ⟨h8, h9⟩ := List.mem_filter.mp h7
          have c1 := (mem_connL.mp (of_decide_eq_true h9)).2
          have c2 := mem_connL.mp h5
          exact ⟨c2.1, of_decide_eq_true h6, p, h8, (c1.symm (adj_symm _)).trans c2.2⟩
        · cases h2
      · rintro ⟨h1, h2, p, h5, h6⟩
        obtain ⟨l, h7, h8⟩ := hps.all v h1
        obtain ⟨u, _, rfl⟩ := hps.conn l h7
        refine ⟨_, h7, ?_⟩
        unfold tp
        rw [if_pos]
        · exact List.mem_filter.mpr ⟨h8, decide_eq_true h2⟩
        · refine List.length_pos_of_mem (a := p) (List.mem_filter.mpr ⟨h5, decide_eq_true (mem_connL.mpr ⟨pok.lt p h5, ?_⟩)⟩)
          exact (mem_connL.mp h8).2.trans (h6.symm (adj_symm _))
    subst eL
    refine q _ _ ((sD.trans s2).trans (same_upd hp2)) ?_
    rw [nv_int]
    exact is_nats' ((sD.trans s2).free hp2) upd_same
end
end PW
set_option Elab.async false
set_option linter.all false
set_option maxRecDepth 100000
set_option maxHeartbeats 4000000
namespace PW
open PySem PySem.Spec PyProof.Rows L2
abbrev aheadD (l : List (Nat × Int)) : PyData := .list (l.map fun p => .tuple [natD p.1, .int p.2])
section
variable {P : Program} {w : World} {K : PySem.W.Frag} {mg : Str → Option Value} {base : Heap}
/-- a row maker as it stands -/
structure RowsAt (K : PySem.W.Frag) (H : Hp) (x : Addr) (W : Web) (posts O : List Nat) : Prop where
  ex : ∃ dx vw vp vo va, H x = some (.ins (He.ga K "Rows") dx [("web", vw), ("posts", vp), ("order", vo), ("ahead", va)]) ∧ Is Any H vw (webD W) ∧ Is Any H vp (natsD posts) ∧ Is Any H vo (natsD O) ∧ Is Any H va (.list ((List.range O.length).map fun j => aheadD (aheadL W.ts O j)))
theorem RowsAt.same {H H' : Hp} {x : Addr} {W : Web} {posts O : List Nat} (h : RowsAt K H x W posts O) (s : Same H H') : RowsAt K H' x W posts O := by
  obtain ⟨dx, vw, vp, vo, va, h0, h1, h2, h3, h4⟩ := h.ex
  exact ⟨dx, vw, vp, vo, va, s _ _ h0, h1.same s, h2.same s, h3.same s, h4.same s⟩
def spRowsInit (K : PySem.W.Frag) : Sp := fun vs H Q _ => ∃ s v c d, vs = [s, v, c, d] ∧ ∃ (x dx : Addr) (H0 : Hp) (W : Web) (posts places : List Nat), s = .ref x ∧ H x = some (.ins (He.ga K "Rows") dx []) ∧ Same H0 H ∧ H0 x = none ∧
  Is Any H0 v (webD W) ∧ WOk W ∧ Is Any H0 c (natsD posts) ∧ Is Any H0 d (natsD places) ∧ (posts ++ places).Nodup ∧ (posts ++ places).length ≤ W.n ∧ ∀ H', Same H0 H' → RowsAt K H' x W posts (posts ++ places) → Q .non H'
-- Rows.__init__: 0=self 1=web 2=posts 3=places 4=turns 5=turn 6=place 7=a 8=b 9=weight
theorem sc_Rows___init__ : FnScope ["self", "web", "posts", "places", "turns", "turn", "place", "a", "b", "weight"] ["self", "web", "posts", "places"] (defScope sRowsInit) := ⟨rfl, rfl, rfl, by decide +kernel, rfl, by decide +kernel, by decide +kernel⟩
theorem ok_Rows___init__ (T : Tx K mg) : MakeOk P w K mg base "Rows" (He.ga K "Rows") 1 ["self", "web", "posts", "places"] (spRowsInit K) := by
  refine MakeOk.mk' T.g_Rows T.k_Rows (fn_ok T.d_Rows___init__ sc_Rows___init__ (fun _ _ _ _ _ _ us hl => match us, hl with | [_, _, _, _], _ => rfl) (fun vs H Q E h => ?_) (fun cdv A outer s H vs Q E hr h => ?_))
  · obtain ⟨_, _, _, _, rfl, _⟩ := h
    rfl
  have hu := hu_of hr
  obtain ⟨v0, v1, v2, v3, rfl, h⟩ := h
  refine ⟨_, (pss_cons (ps_fld (pv 0) (pv 1) rfl)
     (pss_cons (ps_fld (pv 0) (pe_callTy call_list_of (by rfl) T.f_list (by decide +kernel) (pa_cons (pv 2) pa_nil)) rfl)
     (pss_cons (ps_fld (pv 0) (pe_op op_cat (pe_callTy call_list_of (by rfl) T.f_list (by decide +kernel) (pa_cons (pv 2) pa_nil)) (pe_callTy call_list_of (by rfl) T.f_list (by decide +kernel) (pa_cons (pv 3) pa_nil))) rfl)
     (pss_cons (ps_set (i := 4) sc_Rows___init__.nd rfl (.inl rfl) (pe_callTy (call_dictP rfl) (by rfl) T.f_dict (by decide +kernel) (pa_cons (pe_lc (own := [("turn", 5), ("place", 6)]) (g := (gTup K 2 (gCons (gName 5) (gCons (gName 6) gNil)))) (tt := tYes) (te := (tTup (tCons (tVar 6) (tCons (tVar 5) tNil)))) rfl sc_Rows___init__.nd (pi_enum (by rfl) T.f_enumerate (pa_cons (pe_fld (pv 0) rfl) pa_nil)) (blkOk_by (N := ["self", "web", "posts", "places", "turns", "turn", "place", "a", "b", "weight"]) (sc := defScope sRowsInit) (by decide +kernel)) (fun _ _ _ _ _ => (pg_tup rfl (pgs_cons (pg_name (i := 5) sc_Rows___init__.nd rfl (.inl rfl) (.inr rfl)) (pgs_cons (pg_name (i := 6) sc_Rows___init__.nd rfl (.inl rfl) (.inr rfl)) pgs_nil)))) (fun _ _ _ _ _ => pts_nil) (fun _ _ _ _ _ => (pe_tup (pa_cons (pv 6) (pa_cons (pv 5) pa_nil))))) pa_nil)))
     (pss_cons (ps_fld (pv 0) (pe_lc (own := [("place", 6)]) (g := (gName 6)) (tt := tYes) (te := (tLst tNil)) rfl sc_Rows___init__.nd (pi_list (pe_fld (pv 0) rfl)) (blkOk_by (N := ["self", "web", "posts", "places", "turns", "turn", "place", "a", "b", "weight"]) (sc := defScope sRowsInit) (by decide +kernel)) (fun _ _ _ _ _ => (pg_name (i := 6) sc_Rows___init__.nd rfl (.inl rfl) (.inr rfl))) (fun _ _ _ _ _ => pts_nil) (fun _ _ _ _ _ => (pe_lst pa_nil))) rfl)
     (pss_one (ps_for PassesOwn.never rfl (pi_tup (pe_ix ix_tup (pv 1) pe_int (fun _ _ => rfl))) (pg_tup rfl (pgs_cons (pg_name (i := 7) sc_Rows___init__.nd rfl (.inl rfl) (.inl rfl)) (pgs_cons (pg_name (i := 8) sc_Rows___init__.nd rfl (.inl rfl) (.inl rfl)) (pgs_cons (pg_name (i := 9) sc_Rows___init__.nd rfl (.inl rfl) (.inl rfl)) pgs_nil))))
     (pss_one (ps_if (PW.pt (pw_and (pt_cmp (pc_din hu (pv 7) (pv 4))) (pw_and1 (pt_cmp (pc_din hu (pv 8) (pv 4))))))
     (pss_one (ps_expr (pe_bm PySem.F.plainAttrs_list PySem.F.slot_list_append PySem.F.type_list_append mt_append (pe_ix ix_list (pe_fld (pv 0) rfl) (pe_callB (call_max2 rfl) (by rfl) T.f_max (by decide +kernel) (pa_cons (pe_dget hu (pv 4) (pv 7) (fun _ _ => rfl)) (pa_cons (pe_dget hu (pv 4) (pv 8) (fun _ _ => rfl)) pa_nil))) (fun _ _ => rfl)) (pa_cons (pe_tup (pa_cons (pe_callB (call_min2 rfl) (by rfl) T.f_min (by decide +kernel) (pa_cons (pe_dget hu (pv 4) (pv 7) (fun _ _ => rfl)) (pa_cons (pe_dget hu (pv 4) (pv 8) (fun _ _ => rfl)) pa_nil))) (pa_cons (pv 9) pa_nil))) pa_nil))))
     pss_nil))))))))), ?_⟩
  obtain ⟨x, dx, H0, W, posts, places, rfl, hx0, s0, hxn, hw, ok, hp, hd, nd, nl, q⟩ := h
  have n1 := ok.n1
  have ts1 := ok.len
  have nlO := nl
  obtain ⟨pa, rfl, _, hpa⟩ := is_nats hp
  obtain ⟨da, rfl, _, hda⟩ := is_nats hd
  refine ⟨_, rfl, _, rfl, x, _, dx, _, rfl, hx0, T.c_Rows, T.n_Rows_web, by decide, ?_⟩
  have hx1 : upd H x (.ins (He.ga K "Rows") dx (putF "web" v1 [])) x = some (.ins (He.ga K "Rows") dx [("web", v1)]) := upd_same
  have s1 := s0.mut (o := .ins (He.ga K "Rows") dx (putF "web" v1 [])) hxn
  generalize upd H x (.ins (He.ga K "Rows") dx (putF "web" v1 [])) = h1 at *
  refine ⟨_, rfl, pa, _, rfl, .inl (SqL.of (s1 _ _ hpa)), fun l1 hl1 => ?_⟩
  have l1x : x ≠ l1 := fun e => by rw [← e, hx1] at hl1; cases hl1
  have s2 := s1.trans (same_upd (o := .lst (posts.map nv)) hl1)
  have hx2 : upd h1 l1 (.lst (posts.map nv)) x = some (.ins (He.ga K "Rows") dx [("web", v1)]) := by rw [upd_ne l1x]; exact hx1
  have hl1' : upd h1 l1 (.lst (posts.map nv)) l1 = some (.lst (posts.map nv)) := upd_same
  have l1n : H0 l1 = none := s1.free hl1
  generalize upd h1 l1 (.lst (posts.map nv)) = h2 at *
  refine ⟨_, rfl, x, _, dx, _, rfl, hx2, T.c_Rows, T.n_Rows_posts, by simp, ?_⟩
  have hx3 : upd h2 x (.ins (He.ga K "Rows") dx (putF "posts" (.ref l1) [("web", v1)])) x = some (.ins (He.ga K "Rows") dx [("web", v1), ("posts", .ref l1)]) := upd_same
  have s3 := s2.mut (o := .ins (He.ga K "Rows") dx (putF "posts" (.ref l1) [("web", v1)])) hxn
  have hl13 : upd h2 x (.ins (He.ga K "Rows") dx (putF "posts" (.ref l1) [("web", v1)])) l1 = some (.lst (posts.map nv)) := by rw [upd_ne (Ne.symm l1x)]; exact hl1'
  generalize upd h2 x (.ins (He.ga K "Rows") dx (putF "posts" (.ref l1) [("web", v1)])) = h3 at *
  refine ⟨_, rfl, pa, _, rfl, .inl (SqL.of (s3 _ _ hpa)), fun l2 hl2 => ?_⟩
  have s34 := same_upd (o := .lst (posts.map nv)) hl2
  have hl2' : upd h3 l2 (.lst (posts.map nv)) l2 = some (.lst (posts.map nv)) := upd_same
  generalize upd h3 l2 (.lst (posts.map nv)) = h4 at *
  refine ⟨_, rfl, da, _, rfl, .inl (SqL.of (s34 _ _ (s3 _ _ hda))), fun l3 hl3 => ?_⟩
  have s45 := same_upd (o := .lst (places.map nv)) hl3
  have hl3' : upd h4 l3 (.lst (places.map nv)) l3 = some (.lst (places.map nv)) := upd_same
  generalize upd h4 l3 (.lst (places.map nv)) = h5 at *
  rw [List.length_append] at nl
  refine ⟨l2, l3, _, _, rfl, rfl, s45 _ _ hl2', hl3', small (by rw [List.length_map, List.length_map]; omega), fun l4 hl4 => ?_⟩
  rw [← List.map_append]
  have s56 := same_upd (o := .lst ((posts ++ places).map nv)) hl4
  have hl4' : upd h5 l4 (.lst ((posts ++ places).map nv)) l4 = some (.lst ((posts ++ places).map nv)) := upd_same
  generalize upd h5 l4 (.lst ((posts ++ places).map nv)) = h6 at *
  have hx6 := s56 _ _ (s45 _ _ (s34 _ _ hx3))
  have hl16 := s56 _ _ (s45 _ _ (s34 _ _ hl13))
  have l4x : x ≠ l4 := fun e => by rw [← e, (s45 _ _ (s34 _ _ hx3))] at hl4; cases hl4
  have s6 := ((s3.trans s34).trans s45).trans s56
  refine ⟨_, rfl, x, _, dx, _, rfl, hx6, T.c_Rows, T.n_Rows_order, by simp, ?_⟩
  have hx7 : upd h6 x (.ins (He.ga K "Rows") dx (putF "order" (.ref l4) [("web", v1), ("posts", .ref l1)])) x = some (.ins (He.ga K "Rows") dx [("web", v1), ("posts", .ref l1), ("order", .ref l4)]) := upd_same
  have s7 := s6.mut (o := .ins (He.ga K "Rows") dx (putF "order" (.ref l4) [("web", v1), ("posts", .ref l1)])) hxn
  have hl17 : upd h6 x (.ins (He.ga K "Rows") dx (putF "order" (.ref l4) [("web", v1), ("posts", .ref l1)])) l1 = some (.lst (posts.map nv)) := by rw [upd_ne (Ne.symm l1x)]; exact hl16
  have hl47 : upd h6 x (.ins (He.ga K "Rows") dx (putF "order" (.ref l4) [("web", v1), ("posts", .ref l1)])) l4 = some (.lst ((posts ++ places).map nv)) := by rw [upd_ne (Ne.symm l4x)]; exact hl4'
  generalize upd h6 x (.ins (He.ga K "Rows") dx (putF "order" (.ref l4) [("web", v1), ("posts", .ref l1)])) = h7 at *
  clear hx0 hx1 hx2 hx3 hx6 s1 s2 s3 s34 s45 s56 s6 hl1' hl13 hl2 hl2' hl3 hl3' hl4 hl4' hl16 hl1
  clear h1 h2 h3 h4 h5 h6
  generalize posts ++ places = O at *
  refine ⟨_, rfl, x, _, dx, _, .ref l4, rfl, hx7, T.c_Rows, T.n_Rows_order, rfl, l4, _, rfl, SqL.of hl47, fun D hD => ?_⟩
  refine lc_M (List.range O.length) (fun i => some (.tuple [natD (O.getD i 0), natD i])) (by rw [List.length_range, ← List.length_map (f := nv)]; exact walk_enum) hD (by rw [List.length_range]; omega) (fun H s => SqL.of (s _ _ hl47)) ypair_same ?_ ?_
  · rintro i _ y H2 H3 hi s8 ⟨Tt, a1, b1, rfl, hT, rfl, e1, e2⟩ Kont Skip k1 k2
    cases e1
    obtain ⟨hi1, e3⟩ := List.getElem?_eq_some_iff.mp hi
    rw [List.getElem_range] at e3
    subst e3
    rw [List.length_range] at hi1
    have e2 : (O.map nv)[i]? = some b1 := e2
    rw [List.getElem?_map, List.getElem?_eq_getElem hi1] at e2
    cases e2
    refine ⟨Tt, _, rfl, SqT.of upd_same, rfl, _, _, rfl, _, _, rfl, rfl, rfl, _, rfl, _, rfl, sz2, fun p hp => ?_⟩
    refine k1 _ _ _ (same_upd hp) rfl (.tup upd_same (.cons ?_ (.cons (.int _) .nil)))
    rw [List.getD_eq_getElem?_getD, List.getElem?_eq_getElem hi1]
    exact .int _
  intro h8 s8 hD8
  rw [filterMap_some] at hD8
  obtain ⟨a5, ps5, e5, h5a, h5b⟩ := dictP_is (K := K) (key := fun i => O.getD i 0) (fun i => nv i) (fun i => natD i) hD8 (fun a _ x h => by cases h; rfl)
  cases e5
  refine ⟨_, ps5, _, rfl, h5a, h5b, fun tu htu => ?_⟩
  have e9 : mergeK [] ((List.range O.length).map fun i => (nk (O.getD i 0), nv i)) = mapD O fun v => nv (O.idxOf v) := by
    rw [← mapD_merge0 O _ nd]
    congr 1
    refine List.ext_getElem? fun i => ?_
    rw [List.getElem?_map, List.getElem?_map]
    by_cases hi : i < O.length
    · rw [List.getElem?_range hi, List.getElem?_eq_getElem hi]
      show some (nk (O.getD i 0), nv i) = some (nk O[i], nv (O.idxOf O[i]))
      rw [nd.idxOf_getElem, List.getD_eq_getElem?_getD, List.getElem?_eq_getElem hi]
      rfl
    · rw [List.getElem?_eq_none (by rw [List.length_range]; omega), List.getElem?_eq_none (by omega)]
      rfl
  rw [e9]
  have s9 := s8.trans (same_upd (o := .dK (mapD O fun v => nv (O.idxOf v))) htu)
  have htu9 : upd h8 tu (.dK (mapD O fun v => nv (O.idxOf v))) tu = _ := upd_same
  generalize upd h8 tu (.dK (mapD O fun v => nv (O.idxOf v))) = h9 at *
  have hx9 := s9 _ _ hx7
  have tux : tu ≠ x := fun e => by rw [e, hx9] at htu9; cases htu9
  have hl19 := s9 _ _ hl17
  have hl49 := s9 _ _ hl47
  have s09 := s7.trans s9
  clear e9 h5a h5b hD8 s8 htu hD s9 hx7 hl17 hl47 s7
  refine ⟨_, rfl, x, _, dx, _, .ref l4, rfl, hx9, T.c_Rows, T.n_Rows_order, rfl, l4, rfl, ⟨_, SqL.of hl49⟩, fun D hD => ?_⟩
  refine lc_fresh (.lst []) walk_list hD (by rw [List.length_map]; omega) (fun H s => SqL.of (s _ _ hl49)) yat_same (fun i x H1 H2 hi s1 y Kont Skip k1 => ?_) (fun h10 as hl hN s10 hD1 hA => ?_)
  · exact ⟨rfl, sz0, fun p hp => k1 p _ (same_upd hp) hp upd_same⟩
  rw [List.length_map] at hl
  refine ⟨_, rfl, x, _, dx, _, rfl, s10 _ _ hx9, T.c_Rows, T.n_Rows_ahead, by simp, ?_⟩
  have hx11 : upd h10 x (.ins (He.ga K "Rows") dx (putF "ahead" (.ref D) [("web", v1), ("posts", .ref l1), ("order", .ref l4)])) x = some (.ins (He.ga K "Rows") dx [("web", v1), ("posts", .ref l1), ("order", .ref l4), ("ahead", .ref D)]) := upd_same
  have xD : x ≠ D := fun e => by rw [← e, hx9] at hD; cases hD
  have xas : ∀ a ∈ as, a ≠ x := fun a ha e => by
    have := (hA a ha).1
    rw [e, hx9] at this
    cases this
  have s11 : Same (del h9 x) (upd h10 x (.ins (He.ga K "Rows") dx (putF "ahead" (.ref D) [("web", v1), ("posts", .ref l1), ("order", .ref l4)]))) := (del_same.trans s10).mut del_self
  have c11 : Cells h9 (upd h10 x (.ins (He.ga K "Rows") dx (putF "ahead" (.ref D) [("web", v1), ("posts", .ref l1), ("order", .ref l4)]))) D as (fun _ => []) :=
    ⟨by rw [upd_ne (Ne.symm xD)]; exact hD1, hD, hN, fun a ha => ⟨(hA a ha).1, (hA a ha).2.1⟩, fun v a e => by
      have ha := List.mem_of_getElem? e
      rw [upd_ne (xas a ha)]
      exact (hA a ha).2.2⟩
  generalize upd h10 x (.ins (He.ga K "Rows") dx (putF "ahead" (.ref D) [("web", v1), ("posts", .ref l1), ("order", .ref l4)])) = h11 at *
  have s0d : Same H0 (del h9 x) := same_del (o := .lst []) s09 hxn
  obtain ⟨pw, pq, xs, rfl, hw1, hw2, hx⟩ := is_web hw
  refine ⟨_, rfl, pw, _, 1, .ref pq, rfl, rfl, SqT.of (s11 _ _ (s0d _ _ hw1)), rfl, pq, rfl, ⟨_, SqT.of (s11 _ _ (s0d _ _ hw2))⟩, ?_⟩
  refine for_T W.ts tieD hw2 hx (fun d σ H2 => ∃ x7 x8 x9 : Option V, σ = [some (.ref x), some (.ref pw), some (.ref pa), some (.ref da), some (.ref tu), none, none, x7, x8, x9] ∧ Same (del h9 x) H2 ∧
    H2 x = some (.ins (He.ga K "Rows") dx [("web", .ref pw), ("posts", .ref l1), ("order", .ref l4), ("ahead", .ref D)]) ∧
    ∃ L, Cells h9 H2 D as L ∧ ∀ v, v < as.length → IsAll (fun _ => False) H2 (L v) ((aheadL d O v).map fun p => .tuple [natD p.1, .int p.2])) ⟨_, _, _, rfl, s11, hx11, _, c11, fun v _ => .nil⟩ (fun d σ H2 ⟨_, _, _, _, p, _⟩ => s0d.trans p) ?_ ?_
  · rintro d y r z _ H2 e ⟨x7, x8, x9, rfl, s2, hx2, L, c2, iL⟩ hy
    obtain ⟨b, rfl, hb⟩ := is_tie hy
    have hy0 : y ∈ W.ts := by rw [e]; simp
    have g := ok.good.1 y hy0
    refine ⟨b, _, rfl, SqT.of hb, rfl, _, _, rfl, _, _, rfl, _, _, rfl, rfl, ?_⟩
    have hdl : d.length ≤ 200 := by
      have := congrArg List.length e
      rw [List.length_append] at this
      omega
    have htu2 := s2 _ _ (del_get htu9 tux)
    refine ⟨_, rfl, _, rfl, tu, _, rfl, mapD_getO y.1 htu2, _, rfl, ?_⟩
    rw [mapD_in]
    refine ifB (fun ha => ⟨_, rfl, _, rfl, tu, _, rfl, mapD_getO y.2.1 htu2, _, rfl, ?_⟩) (fun ha => ?_)
    · rw [mapD_in]
      have h1 : y.1 ∈ O := of_decide_eq_true ha
      refine ifB (fun hb => ?_) (fun hb => ?_)
      · have h2 : y.2.1 ∈ O := of_decide_eq_true hb
        refine ⟨_, rfl, x, _, dx, _, .ref D, rfl, hx2, T.c_Rows, T.n_Rows_ahead, rfl, _, rfl, _, rfl, tu, _, rfl, mapD_get htu2 h1, _, rfl, _, rfl, tu, _, rfl, mapD_get htu2 h2, _, _, rfl, ?_⟩
        have em : (if ((O.idxOf y.2.1 : Nat) : Int) > ((O.idxOf y.1 : Nat) : Int) then ((O.idxOf y.2.1 : Nat) : Int) else ((O.idxOf y.1 : Nat) : Int)) = ((max (O.idxOf y.1) (O.idxOf y.2.1) : Nat) : Int) := by split <;> omega
        have en : (if ((O.idxOf y.2.1 : Nat) : Int) < ((O.idxOf y.1 : Nat) : Int) then ((O.idxOf y.2.1 : Nat) : Int) else ((O.idxOf y.1 : Nat) : Int)) = ((min (O.idxOf y.1) (O.idxOf y.2.1) : Nat) : Int) := by split <;> omega
        rw [em]
        have hm : max (O.idxOf y.1) (O.idxOf y.2.1) < as.length := by
          have := List.idxOf_lt_length_of_mem h1
          have := List.idxOf_lt_length_of_mem h2
          omega
        obtain ⟨a1, e1, k1⟩ := c2.get hm
        refine ⟨D, _, _, _, rfl, rfl, SqL.of c2.top, at_refs e1, list_ty k1, _, rfl, _, rfl, tu, _, rfl, mapD_get htu2 h1, _, rfl, _, rfl, tu, _, rfl, mapD_get htu2 h2, _, _, rfl, ?_⟩
        rw [en]
        refine ⟨_, rfl, sz2, fun p hp => ?_⟩
        have s3 := same_upd (o := .tup [nv (min (O.idxOf y.1) (O.idxOf y.2.1)), .int y.2.2]) hp
        have c3 := c2.same s3
        have ll := (iL _ hm).map_len
        have la := aheadL_len d O (max (O.idxOf y.1) (O.idxOf y.2.1))
        refine ⟨a1, _, _, rfl, rfl, s3 _ _ k1, smallLt (by omega), ?_⟩
        have ao := c2.off _ (List.mem_of_getElem? e1)
        have ax : a1 ≠ x := xas a1 (List.mem_of_getElem? e1)
        have an : del h9 x a1 = none := by rw [del_ne ax]; exact ao.1
        refine ⟨_, _, _, rfl, (s2.trans s3).mut an, by rw [upd_ne (Ne.symm ax)]; exact s3 _ _ hx2, _, c3.put e1, fun v hv => ?_⟩
        rw [aheadL_snoc, List.map_append]
        have nt : ∀ xs, (upd H2 p (.tup [nv (min (O.idxOf y.1) (O.idxOf y.2.1)), .int y.2.2])) a1 ≠ some (.tup xs) := not_tup (s3 _ _ k1)
        by_cases hv1 : max (O.idxOf y.1) (O.idxOf y.2.1) = v
        · subst hv1
          rw [if_pos rfl, if_pos ⟨h1, h2, rfl⟩]
          exact (((iL _ hv).same s3).snoc (.tup upd_same (.cons (.int _) (.cons (.int _) .nil)))).upd (fun a h => h.elim) nt
        · rw [if_neg (Ne.symm hv1), if_neg (fun q => hv1 q.2.2), List.map_nil, List.append_nil]
          exact ((iL _ hv).same s3).upd (fun a h => h.elim) nt
      · have h2 : ¬ y.2.1 ∈ O := of_decide_eq_false hb
        refine ⟨_, _, _, rfl, s2, hx2, L, c2, fun v hv => ?_⟩
        rw [aheadL_snoc, if_neg (fun q => h2 q.2.1), List.append_nil]
        exact iL v hv
    · have h1 : ¬ y.1 ∈ O := of_decide_eq_false ha
      refine ⟨_, _, _, rfl, s2, hx2, L, c2, fun v hv => ?_⟩
      rw [aheadL_snoc, if_neg (fun q => h1 q.1), List.append_nil]
      exact iL v hv
  · rintro _ H2 ⟨x7, x8, x9, rfl, s2, hx2, L, c2, iL⟩
    refine q _ (s0d.trans s2) ⟨dx, _, _, _, _, hx2, hw.same (s0d.trans s2), is_nats' trivial (s2 _ _ (del_get hl19 (Ne.symm l1x))), is_nats' trivial (s2 _ _ (del_get hl49 (Ne.symm l4x))), ?_⟩
    have := c2.is (ds := fun v => (aheadL W.ts O v).map fun p => .tuple [natD p.1, .int p.2]) fun v hv => (iL v hv).imp fun a h => h.elim
    rw [hl] at this
    exact this.any
end
end PW
set_option Elab.async false
set_option linter.all false
set_option maxRecDepth 100000
set_option maxHeartbeats 4000000
namespace PW
open PySem PySem.Spec PyProof.Rows L2
abbrev itemD (z : Int × List Nat) : PyData := .tuple [.int z.1, tupD z.2]
theorem nats_ints (l : List Nat) : l.map natD = (l.map fun v : Nat => (v : Int)).map PyData.int := by rw [List.map_map]; rfl
theorem item_alike (a b : Int × List Nat) : PySem.W.alike (itemD a) (itemD b) = true := by
  show (PySem.W.alike (.int a.1) (.int b.1) && (PySem.W.alike (tupD a.2) (tupD b.2) && PySem.W.alikeAll [] [])) = true
  have h1 : PySem.W.alike (tupD a.2) (tupD b.2) = true := by
    show PySem.W.alikeAll (a.2.map natD) (b.2.map natD) = true
    rw [nats_ints, nats_ints]
    exact PySem.W.alike_ints _ _
  rw [h1]
  rfl
theorem item_depth (a : Int × List Nat) : (itemD a).depth ≤ 10 := by
  have h1 : PyData.depthAll (a.2.map natD) = 0 := by
    rw [nats_ints]
    exact PySem.W.depth_ints _
  show max (PyData.depth (.int a.1)) (max (PyData.depthAll (a.2.map natD) + 1) (PyData.depthAll [])) + 1 ≤ 10
  rw [h1]
  show max 0 (max (0 + 1) 0) + 1 ≤ 10
  omega
theorem items_sort (l : List (Int × List Nat)) : SortOk (l.map itemD) :=
  ⟨PySem.W.AllAlike.of item_alike, PySem.W.Sortable.tuples fun b => ⟨_, _, rfl⟩, fun d hd => by
    obtain ⟨a, _, rfl⟩ := List.mem_map.mp hd
    exact item_depth a⟩
section
variable {φ : Addr → Prop} {H H' : Hp}
theorem is_ni {v : V} {p : Nat × Int} (h : Is φ H v (.tuple [natD p.1, .int p.2])) : ∃ a, v = .ref a ∧ H a = some (.tup [nv p.1, .int p.2]) := by
  cases h with
  | tup h1 h2 =>
    cases h2 with
    | cons a1 a2 => cases a2 with | cons b1 b2 => cases b2; cases a1; cases b1; exact ⟨_, rfl, h1⟩
theorem is_item {v : V} {z : Int × List Nat} (h : Is φ H v (itemD z)) : ∃ a b, v = .ref a ∧ H a = some (.tup [.int z.1, .ref b]) ∧ H b = some (.tup (z.2.map nv)) := by
  cases h with
  | tup h1 h2 =>
    cases h2 with
    | cons a1 a2 =>
      cases a2 with
      | cons b1 b2 =>
        cases b2
        cases a1
        obtain ⟨b, rfl, hb⟩ := is_tnats b1
        exact ⟨_, _, rfl, h1, hb⟩
theorem is_item' {a b : Addr} {z : Int × List Nat} (h : H a = some (.tup [.int z.1, .ref b])) (hb : H b = some (.tup (z.2.map nv))) : Is φ H (.ref a) (itemD z) := .tup h (.cons (.int _) (.cons (is_tnats' hb) .nil))
/-- data in a list, as pairs of a value and what it is -/
theorem zs_of {α : Type} {f : α → PyData} : ∀ {vs : List V} {l : List α}, IsAll φ H vs (l.map f) → ∃ zs : List (V × α), zs.map Prod.fst = vs ∧ zs.map Prod.snd = l ∧ ∀ z ∈ zs, Is φ H z.1 (f z.2)
  | _, [], h => by cases h; exact ⟨[], rfl, rfl, by simp⟩
  | _, a :: l, h => by
    rw [List.map_cons] at h
    cases h with
    | cons h1 h2 =>
      obtain ⟨zs, e1, e2, e3⟩ := zs_of h2
      exact ⟨(_, a) :: zs, by rw [List.map_cons, e1], by rw [List.map_cons, e2], fun z hz => by
        rcases List.mem_cons.mp hz with rfl | hz
        · exact h1
        · exact e3 z hz⟩
theorem isAll_zs {α : Type} {f : α → PyData} : ∀ {zs : List (V × α)}, (∀ z ∈ zs, Is φ H z.1 (f z.2)) → IsAll φ H (zs.map Prod.fst) ((zs.map Prod.snd).map f)
  | [], _ => .nil
  | z :: zs, h => .cons (h z (List.mem_cons_self ..)) (isAll_zs fun y hy => h y (List.mem_cons_of_mem _ hy))
theorem perm_zs {α : Type} {zs : List (V × α)} {l : List (V × PyData)} {f : α → PyData} (h : l.Perm (zs.map fun z => (z.1, f z.2))) : ∃ zs' : List (V × α), zs'.Perm zs ∧ zs'.map (fun z => (z.1, f z.2)) = l := by
  obtain ⟨zs', h1, h2⟩ := PW.perm_map_ex h
  exact ⟨zs', h1, h2⟩
end
section
variable {P : Program} {w : World} {K : PySem.W.Frag} {mg : Str → Option Value} {base : Heap}
def spRowsPutWeight (K : PySem.W.Frag) : Sp := fun vs H Q _ => ∃ s r k, vs = [s, r, k] ∧ ∃ (x : Addr) (W : Web) (posts O row : List Nat) (j : Nat), s = .ref x ∧ RowsAt K H x W posts O ∧ WOk W ∧ Is Any H r (tupD row) ∧ k = nv j ∧ row.length < O.length ∧
  GivesI (putW W.ts O row j) H Q
-- Rows.put_weight: 0=self 1=row 2=number 3=turn 4=weight
theorem sc_Rows_put_weight : FnScope ["self", "row", "number", "turn", "weight"] ["self", "row", "number"] (defScope sRowsPutWeight) := ⟨rfl, rfl, rfl, by decide +kernel, rfl, by decide +kernel, by decide +kernel⟩
theorem ok_Rows_put_weight (T : Tx K mg) : MethOk P w K mg base (He.ga K "Rows") "put_weight" 1 ["self", "row", "number"] (spRowsPutWeight K) := by
  refine MethOk.mk' T.c_Rows T.m_Rows_put_weight (fn_ok T.d_Rows_put_weight sc_Rows_put_weight (fun _ _ _ _ _ _ us hl => match us, hl with | [_, _, _], _ => rfl) (fun vs H Q E h => ?_) (fun cdv A outer s H vs Q E hr h => ?_))
  · obtain ⟨_, _, _, rfl, _⟩ := h
    rfl
  have hu := hu_of hr
  obtain ⟨v0, v1, v2, rfl, h⟩ := h
  refine ⟨_, (pss_one (ps_ret (pe_callB (cr_sum rfl) (by rfl) T.f_sum (by decide +kernel) (pa_cons (pe_lc (own := [("turn", 3), ("weight", 4)]) (g := (gTup K 2 (gCons (gName 3) (gCons (gName 4) gNil)))) (tt := (tTest (tOp rNe (tOp (rIxT K) (tVar 1) (tVar 3)) (tVar 2)))) (te := (tVar 4)) rfl sc_Rows_put_weight.nd (pi_list (pe_ix ix_list (pe_fld (pv 0) rfl) (pe_callB call_len_seq (by rfl) T.f_len (by decide +kernel) (pa_cons (pv 1) pa_nil)) (fun _ _ => rfl))) (blkOk_by (N := ["self", "row", "number", "turn", "weight"]) (sc := defScope sRowsPutWeight) (by decide +kernel)) (fun _ _ _ _ _ => (pg_tup rfl (pgs_cons (pg_name (i := 3) sc_Rows_put_weight.nd rfl (.inl rfl) (.inr rfl)) (pgs_cons (pg_name (i := 4) sc_Rows_put_weight.nd rfl (.inl rfl) (.inr rfl)) pgs_nil)))) (fun _ _ _ _ _ => (pts_one (pt_cmpR op_ne (pe_ix ix_tup (pv 1) (pv 3) (fun _ _ => rfl)) (pv 2) (nomark _)))) (fun _ _ _ _ _ => (pv 4))) pa_nil)))), ?_⟩
  obtain ⟨x, W, posts, O, row, j, rfl, hx, ok, hr1, rfl, hl, q⟩ := h
  obtain ⟨dx, vw, vp, vo, va, h0, h1, h2, h3, h4⟩ := hx.ex
  obtain ⟨b, rfl, hb⟩ := is_tnats hr1
  obtain ⟨a, xs, rfl, _, ha, hxs⟩ := is_list h4
  obtain ⟨v, e1, hv⟩ := hxs.map_at (List.getElem?_range hl)
  obtain ⟨c, ys, rfl, _, hc, hys⟩ := is_list hv
  have ts1 := ok.len
  have la := aheadL_len W.ts O row.length
  refine ⟨_, rfl, x, _, dx, _, .ref a, rfl, h0, T.c_Rows, T.n_Rows_ahead, rfl, _, rfl, b, _, rfl, .inr (SqT.of hb), ?_⟩
  rw [List.length_map]
  refine ⟨a, _, _, _, rfl, rfl, SqL.of ha, ix_nat e1, c, rfl, ⟨_, SqL.of hc⟩, fun D hD =>
    lc_L (aheadL W.ts O row.length) (fun p => .tuple [natD p.1, .int p.2]) (fun p => if (row.getD p.1 0 != j) = true then some (.int p.2) else none) hc hys hD (by omega) ?_ ?_⟩
  · intro z y H2 hy0 s2 hy Kont Skip k1 k2
    obtain ⟨p, rfl, hp⟩ := is_ni hy
    have hlt := aheadL_lt (fun t ht => by have := ok.good.1 t ht; omega) y hy0
    refine ⟨p, _, rfl, SqT.of hp, rfl, _, _, rfl, _, _, rfl, rfl, rfl, _, rfl, _, rfl, b, _, _, _, rfl, rfl, SqT.of (s2 _ _ hb), at_nats hlt, _, rfl, rfl, _, rfl, ?_⟩
    rw [ne_nats]
    exact ifB (fun e => ⟨_, rfl, k1 _ _ _ (Same.refl _) (if_pos e) (.int _)⟩) fun e => k2 _ (Same.refl _) (if_neg (by rw [e]; exact Bool.false_ne_true))
  · intro H2 s2 h2
    rw [filterMap_if, map_int] at h2
    obtain ⟨D', e, _, hD'⟩ := is_ints h2
    cases e
    exact ⟨D, _, rfl, SqL.of hD', q H2 s2⟩
def spRowsBegun (K : PySem.W.Frag) : Sp := fun vs H Q _ => ∃ s, vs = [s] ∧ ∃ (x : Addr) (W : Web) (posts O : List Nat), s = .ref x ∧ RowsAt K H x W posts O ∧ WOk W ∧ posts.length ≤ O.length ∧ posts.length ≤ 7 ∧
  Gives (itemD (rc W.ts O (List.range posts.length), List.range posts.length)) H Q
-- Rows.begun: 0=self 1=row 2=weight 3=number
theorem sc_Rows_begun : FnScope ["self", "row", "weight", "number"] ["self"] (defScope sRowsBegun) := ⟨rfl, rfl, rfl, by decide +kernel, rfl, by decide +kernel, by decide +kernel⟩
theorem ok_Rows_begun (T : Tx K mg) : MethOk P w K mg base (He.ga K "Rows") "begun" 2 ["self"] (spRowsBegun K) := by
  have O_Rows_put_weight := ok_Rows_put_weight (P := P) (w := w) (base := base) T
  refine MethOk.mk' T.c_Rows T.m_Rows_begun (fn_ok T.d_Rows_begun sc_Rows_begun (fun _ _ _ _ _ _ us hl => match us, hl with | [_], _ => rfl) (fun vs H Q E h => ?_) (fun cdv A outer s H vs Q E hr h => ?_))
  · obtain ⟨_, rfl, _⟩ := h
    rfl
  have hu := hu_of hr
  obtain ⟨v0, rfl, h⟩ := h
  refine ⟨_, (pss_cons (ps_set (i := 1) sc_Rows_begun.nd rfl (.inl rfl) (pe_tup pa_nil))
     (pss_cons (ps_set (i := 2) sc_Rows_begun.nd rfl (.inl rfl) pe_int)
     (pss_cons (ps_for PassesOwn.never rfl (pi_range1 rfl T.f_range (pa_cons (pe_callB call_len_seq (by rfl) T.f_len (by decide +kernel) (pa_cons (pe_fld (pv 0) rfl) pa_nil)) pa_nil)) (pg_name (i := 3) sc_Rows_begun.nd rfl (.inl rfl) (.inl rfl))
     (pss_cons (ps_set (i := 2) sc_Rows_begun.nd rfl (.inl rfl) (pe_op op_add (pv 2) (pmeth O_Rows_put_weight (hr.mono (by decide)) (pv 0) (pa_cons (pv 1) (pa_cons (pv 3) pa_nil)))))
     (pss_one (ps_set (i := 1) sc_Rows_begun.nd rfl (.inl rfl) (pe_op op_catA (pv 1) (pe_tup (pa_cons (pv 3) pa_nil)))))))
     (pss_one (ps_ret (pe_tup (pa_cons (pv 2) (pa_cons (pv 1) pa_nil)))))))), ?_⟩
  obtain ⟨x, W, posts, O, rfl, hx, ok, hl, hl7, q⟩ := h
  obtain ⟨dx, vw, vp, vo, va, h0, h1, h2, h3, h4⟩ := hx.ex
  obtain ⟨pa, rfl, _, hpa⟩ := is_nats h2
  refine ⟨sz0, fun r0 hr0 => ?_⟩
  have s1 := same_upd (o := .tup []) hr0
  refine ⟨_, rfl, x, _, dx, _, .ref pa, rfl, s1 _ _ h0, T.c_Rows, T.n_Rows_posts, rfl, pa, _, rfl, .inl (SqL.of (s1 _ _ hpa)), _, rfl, by rw [List.length_map]; omega, by rw [List.length_map]; omega, ?_⟩
  rw [Int.toNat_natCast, List.length_map]
  refine for_R (fun i σ H2 => ∃ r x3, σ = [some (.ref x), some (.ref r), some (.int (rc W.ts O (List.range i))), x3] ∧ Same H H2 ∧ H2 r = some (.tup ((List.range i).map nv))) ⟨r0, _, by rw [show List.range 0 = [] from rfl, rc_nil]; rfl, s1, upd_same⟩ ?_ ?_
  · rintro i _ H2 hi ⟨r, x3, rfl, s2, hr2⟩
    refine ⟨_, rfl, _, rfl, x, dx, _, rfl, s2 _ _ h0, rfl, _, rfl, _, rfl, _, _, _, rfl, x, W, posts, O, List.range i, i, rfl, hx.same s2, ok, is_tnats' hr2, rfl, by rw [List.length_range]; omega, fun H3 s3 => ?_⟩
    refine ⟨_, _, rfl, rfl, _, rfl, _, rfl, sz1, fun p hp => ?_⟩
    have s4 := s3.trans (same_upd (o := .tup [nv i]) hp)
    refine ⟨r, p, _, _, rfl, rfl, SqT.of (s4 _ _ hr2), SqT.of upd_same, small (by rw [List.length_map, List.length_range]; show i + 1 ≤ _; omega), ?_⟩
    have er : List.range (i + 1) = List.range i ++ [i] := List.range_succ
    have s2p := same_upd (o := .tup [nv i]) hp
    have ew : rc W.ts O (List.range (i + 1)) = rc W.ts O (List.range i) + putW W.ts O (List.range i) i := by
      rw [er, rc_snoc fun t ht => by have := ok.good.1 t ht; omega]
    refine ⟨fun e => ⟨p, _, by rw [ew]; rfl, s2.trans s4, ?_⟩, ?_, ?_⟩
    · rw [er, List.map_append, e]
      exact upd_same
    · intro _ e
      cases e
    · intro _ _ p2 hp2
      refine ⟨p2, _, by rw [ew]; rfl, (s2.trans s4).trans (same_upd hp2), ?_⟩
      rw [er, List.map_append]
      exact upd_same
  · rintro _ H2 ⟨r, x3, rfl, s2, hr2⟩
    refine ⟨_, rfl, _, rfl, sz2, fun p hp => q _ _ (s2.trans (same_upd hp)) (is_item' upd_same ((same_upd hp) _ _ hr2))⟩
/-- what a row may become next -/
def kids (ts : List Tie) (O : List Nat) (p : Nat) (z : Int × List Nat) : List (Int × List Nat) := (List.range p).map fun j => (z.1 + putW ts O z.2 j, z.2 ++ [j])
def spRowsGoneOn (K : PySem.W.Frag) : Sp := fun vs H Q _ => ∃ s v, vs = [s, v] ∧ ∃ (x : Addr) (W : Web) (posts O : List Nat) (z : Int × List Nat), s = .ref x ∧ RowsAt K H x W posts O ∧ WOk W ∧ posts.length ≤ 7 ∧ Is Any H v (itemD z) ∧ z.2.length < O.length ∧ O.length ≤ 7 ∧
  ∀ ys : List (Int × List Nat), ys.Perm (kids W.ts O posts.length z) → Gives (.list (ys.map itemD)) H Q
-- Rows.gone_on: 0=self 1=begun 2=weight 3=row 4=found 5=number
theorem sc_Rows_gone_on : FnScope ["self", "begun", "weight", "row", "found", "number"] ["self", "begun"] (defScope sRowsGoneOn) := ⟨rfl, rfl, rfl, by decide +kernel, rfl, by decide +kernel, by decide +kernel⟩
theorem ok_Rows_gone_on (T : Tx K mg) : MethOk P w K mg base (He.ga K "Rows") "gone_on" 2 ["self", "begun"] (spRowsGoneOn K) := by
  have O_Rows_put_weight := ok_Rows_put_weight (P := P) (w := w) (base := base) T
  refine MethOk.mk' T.c_Rows T.m_Rows_gone_on (fn_ok T.d_Rows_gone_on sc_Rows_gone_on (fun _ _ _ _ _ _ us hl => match us, hl with | [_, _], _ => rfl) (fun vs H Q E h => ?_) (fun cdv A outer s H vs Q E hr h => ?_))
  · obtain ⟨_, _, rfl, _⟩ := h
    rfl
  have hu := hu_of hr
  obtain ⟨v0, v1, rfl, h⟩ := h
  refine ⟨_, (pss_cons (ps_asg (pv 1) (pg_tup rfl (pgs_cons (pg_name (i := 2) sc_Rows_gone_on.nd rfl (.inl rfl) (.inl rfl)) (pgs_cons (pg_name (i := 3) sc_Rows_gone_on.nd rfl (.inl rfl) (.inl rfl)) pgs_nil))))
     (pss_cons (ps_set (i := 4) sc_Rows_gone_on.nd rfl (.inl rfl) (pe_lst pa_nil))
     (pss_cons (ps_for PassesOwn.never rfl (pi_range1 rfl T.f_range (pa_cons (pe_callB call_len_seq (by rfl) T.f_len (by decide +kernel) (pa_cons (pe_fld (pv 0) rfl) pa_nil)) pa_nil)) (pg_name (i := 5) sc_Rows_gone_on.nd rfl (.inl rfl) (.inl rfl))
     (pss_one (ps_expr (pe_bm PySem.F.plainAttrs_list PySem.F.slot_list_append PySem.F.type_list_append mt_append (pv 4) (pa_cons (pe_tup (pa_cons (pe_op op_add (pv 2) (pmeth O_Rows_put_weight (hr.mono (by decide)) (pv 0) (pa_cons (pv 3) (pa_cons (pv 5) pa_nil)))) (pa_cons (pe_op op_catA (pv 3) (pe_tup (pa_cons (pv 5) pa_nil))) pa_nil))) pa_nil)))))
     (pss_one (ps_ret (pe_callBK (cr_sortDR hr.units) (by rfl) T.f_sorted (by decide +kernel) (pa_cons (pv 4) pa_nil) (pk_cons pe_bl pk_nil))))))), ?_⟩
  obtain ⟨x, W, posts, O, z, rfl, hx, ok, hl7, hz, hzl, hO7, q⟩ := h
  obtain ⟨dx, vw, vp, vo, va, h0, h1, h2, h3, h4⟩ := hx.ex
  obtain ⟨pa, rfl, _, hpa⟩ := is_nats h2
  obtain ⟨za, zb, rfl, hza, hzb⟩ := is_item hz
  refine ⟨_, rfl, za, _, rfl, SqT.of hza, rfl, _, _, rfl, _, _, rfl, rfl, sz0, fun F hF => ?_⟩
  have s1 := same_upd (o := .lst []) hF
  refine ⟨_, rfl, x, _, dx, _, .ref pa, rfl, s1 _ _ h0, T.c_Rows, T.n_Rows_posts, rfl, pa, _, rfl, .inl (SqL.of (s1 _ _ hpa)), _, rfl, by rw [List.length_map]; omega, by rw [List.length_map]; omega, ?_⟩
  rw [Int.toNat_natCast, List.length_map]
  refine for_R (fun i σ H2 => ∃ xs x5, σ = [some (.ref x), some (.ref za), some (.int z.1), some (.ref zb), some (.ref F), x5] ∧ Same H H2 ∧ H2 F = some (.lst xs) ∧ IsAll (fun _ => False) H2 xs (((List.range i).map fun j => (z.1 + putW W.ts O z.2 j, z.2 ++ [j])).map itemD)) ⟨[], _, rfl, s1, upd_same, .nil⟩ ?_ ?_
  · rintro i _ H2 hi ⟨xs, x5, rfl, s2, hF2, hxs⟩
    have ll := hxs.map_len
    rw [List.length_map, List.length_range] at ll
    refine ⟨_, rfl, list_ty hF2, _, rfl, _, rfl, x, dx, _, rfl, s2 _ _ h0, rfl, _, rfl, _, rfl, _, _, _, rfl, x, W, posts, O, z.2, i, rfl, hx.same s2, ok, is_tnats' (s2 _ _ hzb), rfl, hzl, fun H3 s3 => ?_⟩
    refine ⟨_, _, rfl, rfl, _, rfl, _, rfl, sz1, fun p hp => ?_⟩
    have s4 := s3.trans (same_upd (o := .tup [nv i]) hp)
    refine ⟨zb, p, _, _, rfl, rfl, SqT.of ((s2.trans s4) _ _ hzb), SqT.of upd_same, small (by rw [List.length_map]; show z.2.length + 1 ≤ _; omega), ?_⟩
    have fin : ∀ (r : Addr) (H4 : Hp), Same H2 H4 → H4 r = some (.tup ((z.2 ++ [i]).map nv)) → 2 ≤ sizeLine ∧ ∀ p, H4 p = none → rAppend (.ref F) [.ref p] (upd H4 p (.tup [.int (z.1 + putW W.ts O z.2 i), .ref r])) fun _ H5 => ∃ xs x5, [some (V.ref x), some (.ref za), some (.int z.1), some (.ref zb), some (.ref F), some (nv i)] = [some (.ref x), some (.ref za), some (.int z.1), some (.ref zb), some (.ref F), x5] ∧ Same H H5 ∧ H5 F = some (.lst xs) ∧ IsAll (fun _ => False) H5 xs (((List.range (i + 1)).map fun j => (z.1 + putW W.ts O z.2 j, z.2 ++ [j])).map itemD) := by
      intro r H4 s5 hr
      refine ⟨sz2, fun p hp => ?_⟩
      have s6 := s5.trans (same_upd (o := .tup [.int (z.1 + putW W.ts O z.2 i), .ref r]) hp)
      refine ⟨F, xs, _, rfl, rfl, s6 _ _ hF2, smallLt (by omega), _, _, rfl, (s2.trans s6).mut hF, upd_same, ?_⟩
      rw [List.range_succ, List.map_append, List.map_append]
      refine IsAll.upd (fun a h => h.elim) (not_tup (s6 _ _ hF2)) ((hxs.same s6).snoc ?_)
      exact is_item' (z := (z.1 + putW W.ts O z.2 i, z.2 ++ [i])) upd_same ((same_upd hp) _ _ hr)
    refine ⟨fun e => fin p _ s4 ?_, ?_, ?_⟩
    · rw [List.map_append, e]
      exact upd_same
    · intro _ e
      cases e
    · intro _ _ p2 hp2
      refine fin p2 _ (s4.trans (same_upd hp2)) ?_
      rw [List.map_append]
      exact upd_same
  · rintro _ H2 ⟨xs, x5, rfl, s2, hF2, hxs⟩
    obtain ⟨zs, e1, e2, e3⟩ := zs_of hxs
    refine ⟨_, rfl, rfl, F, zs.map fun y => (y.1, itemD y.2), rfl, ?_, ?_, ?_, fun zs' p hz hp => ?_⟩
    · rw [List.map_map]
      show H2 F = some (.lst (zs.map Prod.fst))
      rw [e1]
      exact hF2
    · intro y hy
      obtain ⟨y', hy', rfl⟩ := List.mem_map.mp hy
      exact (e3 y' hy').any
    · rw [List.map_map]
      show SortOk (zs.map (itemD ∘ Prod.snd))
      rw [← List.map_map]
      exact items_sort _
    · obtain ⟨zs2, h5, rfl⟩ := perm_zs hz
      have s7 := s2.trans (same_upd (o := .lst ((zs2.map fun z => (z.1, itemD z.2)).map Prod.fst)) hp)
      refine q (zs2.map Prod.snd) ((h5.map Prod.snd).trans (by rw [e2]; exact List.Perm.refl _)) _ _ s7 (.lst (s2.free hp) upd_same ?_)
      rw [List.map_map]
      refine IsAll.same (same_upd hp) (isAll_zs (zs := zs2) fun y hy => ?_)
      exact (e3 y (h5.mem_iff.mp hy)).imp fun a h => h.elim
def spRowsIsWhole (K : PySem.W.Frag) : Sp := fun vs H Q _ => ∃ s r, vs = [s, r] ∧ ∃ (x : Addr) (W : Web) (posts O row : List Nat), s = .ref x ∧ RowsAt K H x W posts O ∧ Is Any H r (tupD row) ∧ GivesB (decide (row.length = O.length)) H Q
-- Rows.is_whole: 0=self 1=row
theorem sc_Rows_is_whole : FnScope ["self", "row"] ["self", "row"] (defScope sRowsIsWhole) := ⟨rfl, rfl, rfl, by decide +kernel, rfl, by decide +kernel, by decide +kernel⟩
theorem ok_Rows_is_whole (T : Tx K mg) : MethOk P w K mg base (He.ga K "Rows") "is_whole" 1 ["self", "row"] (spRowsIsWhole K) := by
  refine MethOk.mk' T.c_Rows T.m_Rows_is_whole (fn_ok T.d_Rows_is_whole sc_Rows_is_whole (fun _ _ _ _ _ _ us hl => match us, hl with | [_, _], _ => rfl) (fun vs H Q E h => ?_) (fun cdv A outer s H vs Q E hr h => ?_))
  · obtain ⟨_, _, rfl, _⟩ := h
    rfl
  have hu := hu_of hr
  obtain ⟨v0, v1, rfl, h⟩ := h
  refine ⟨_, (pss_one (ps_ret (pe_cmpR op_eq (pe_callB call_len_seq (by rfl) T.f_len (by decide +kernel) (pa_cons (pv 1) pa_nil)) (pe_callB call_len_seq (by rfl) T.f_len (by decide +kernel) (pa_cons (pe_fld (pv 0) rfl) pa_nil)) (nomark _)))), ?_⟩
  obtain ⟨x, W, posts, O, row, rfl, hx, hr1, q⟩ := h
  obtain ⟨dx, vw, vp, vo, va, h0, h1, h2, h3, h4⟩ := hx.ex
  obtain ⟨b, rfl, hb⟩ := is_tnats hr1
  obtain ⟨oa, rfl, _, hoa⟩ := is_nats h3
  refine ⟨_, rfl, b, _, rfl, .inr (SqT.of hb), _, rfl, x, _, dx, _, .ref oa, rfl, h0, T.c_Rows, T.n_Rows_order, rfl, oa, _, rfl, .inl (SqL.of hoa), rfl, ?_⟩
  rw [List.length_map, List.length_map, eq_nats]
  exact q H (Same.refl _)
end
end PW
set_option Elab.async false
set_option linter.all false
set_option maxRecDepth 100000
set_option maxHeartbeats 4000000
namespace PW
open PySem PySem.Spec PyProof.Rows L2
/-- how many steps waiting rows may take -/
def stepsW (p N : Nat) (Wt : List (Int × List Nat)) : Nat := (Wt.map fun z => stepsT p (N - z.2.length)).sum
theorem stepsW_snoc (p N : Nat) (Wt : List (Int × List Nat)) (z : Int × List Nat) : stepsW p N (Wt ++ [z]) = stepsW p N Wt + stepsT p (N - z.2.length) := by
  unfold stepsW
  rw [List.map_append, List.sum_append]
  simp
theorem stepsW_append (p N : Nat) (Wt ys : List (Int × List Nat)) : stepsW p N (Wt ++ ys) = stepsW p N Wt + stepsW p N ys := by
  unfold stepsW
  rw [List.map_append, List.sum_append]
theorem stepsW_len (p N : Nat) (Wt : List (Int × List Nat)) : Wt.length ≤ stepsW p N Wt := by
  unfold stepsW
  induction Wt with
  | nil => exact Nat.zero_le _
  | cons z Wt ih =>
    have := stepsT_pos p (N - z.2.length)
    rw [List.map_cons, List.sum_cons, List.length_cons]
    omega
theorem stepsW_kids {ts : List Tie} {O : List Nat} {p N : Nat} {z : Int × List Nat} (h : z.2.length < N) {ys : List (Int × List Nat)} (hy : ys.Perm (kids ts O p z)) : stepsW p N ys < stepsT p (N - z.2.length) := by
  have e1 : stepsW p N ys = stepsW p N (kids ts O p z) := (hy.map _).sum_nat
  have e2 : stepsW p N (kids ts O p z) = p * stepsT p (N - (z.2.length + 1)) := by
    unfold stepsW kids
    rw [List.map_map]
    have : (fun z : Int × List Nat => stepsT p (N - z.2.length)) ∘ (fun j => (z.1 + putW ts O z.2 j, z.2 ++ [j])) = fun _ => stepsT p (N - (z.2.length + 1)) := by
      funext j
      show stepsT p (N - (z.2 ++ [j]).length) = _
      rw [List.length_append, List.length_singleton]
    rw [this, List.map_const', List.sum_replicate_nat, List.length_range]
  have e3 : N - z.2.length = (N - (z.2.length + 1)) + 1 := by omega
  rw [e1, e2, e3]
  show _ < 1 + p * stepsT p (N - (z.2.length + 1))
  omega
/-- rows that wait, all of them on the way to rows of F -/
structure Waits (ts : List Tie) (O : List Nat) (p N : Nat) (F : List (List Nat)) (Wt : List (Int × List Nat)) : Prop where
  w : ∀ z ∈ Wt, z.1 = rc ts O z.2 ∧ z.2.length ≤ N ∧ ∀ r ∈ full p N z.2, r ∈ F
theorem Waits.sub {ts : List Tie} {O : List Nat} {p N : Nat} {F : List (List Nat)} {Wt : List (Int × List Nat)} {z : Int × List Nat} (h : Waits ts O p N F (Wt ++ [z])) : Waits ts O p N F Wt := ⟨fun y hy => h.w y (List.mem_append_left _ hy)⟩
theorem Waits.kids {ts : List Tie} {O : List Nat} {p N : Nat} {F : List (List Nat)} {Wt : List (Int × List Nat)} {z : Int × List Nat} (hne : ∀ t ∈ ts, t.1 ≠ t.2.1) (h : Waits ts O p N F (Wt ++ [z])) (hz : z.2.length < N) {ys : List (Int × List Nat)} (hy : ys.Perm (kids ts O p z)) : Waits ts O p N F (Wt ++ ys) := by
  refine ⟨fun y hy0 => ?_⟩
  rcases List.mem_append.mp hy0 with h1 | h1
  · exact h.w y (List.mem_append_left _ h1)
  · have h2 := hy.mem_iff.mp h1
    unfold PW.kids at h2
    obtain ⟨j, hj, rfl⟩ := List.mem_map.mp h2
    have hz0 := h.w z (by simp)
    refine ⟨by rw [rc_snoc hne, hz0.1], by rw [List.length_append]; exact hz, fun r hr => hz0.2.2 r ?_⟩
    rw [full_step hz]
    exact List.mem_flatMap.mpr ⟨j, hj, hr⟩
theorem kids_full {ts : List Tie} {O : List Nat} {p N : Nat} {z : Int × List Nat} (hz : z.2.length < N) {ys : List (Int × List Nat)} (hy : ys.Perm (kids ts O p z)) {r : List Nat} (hr : r ∈ full p N z.2) : ∃ y ∈ ys, r ∈ full p N y.2 := by
  rw [full_step hz] at hr
  obtain ⟨j, hj, hr⟩ := List.mem_flatMap.mp hr
  exact ⟨_, hy.mem_iff.mpr (List.mem_map.mpr ⟨j, hj, rfl⟩), hr⟩
theorem pop_at (ys : List V) (x : V) : (ys ++ [x])[(ys ++ [x]).length - 1]? = some x := by simp
def optV : Option Int → V
  | none => .non
  | some m => .int m
theorem items_flat {φ ψ : Addr → Prop} {H : Hp} : ∀ {xs : List V} {l : List (Int × List Nat)}, IsAll φ H xs (l.map itemD) → IsAll ψ H xs (l.map itemD)
  | _, [], h => by cases h; exact .nil
  | _, z :: l, h => by
    rw [List.map_cons] at h
    cases h with
    | cons h1 h2 =>
      obtain ⟨a, b, rfl, ha, hb⟩ := is_item h1
      exact .cons (is_item' ha hb) (items_flat h2)
theorem full_some {p N : Nat} (hp : 1 ≤ p) (h : p ≤ N) : ∃ r, r ∈ full p N (List.range p) :=
  ⟨List.range p ++ List.replicate (N - p) 0, (mem_full (by rw [List.length_range]; exact h)).mpr ⟨by simp; omega, _, fun x hx => by rw [(List.mem_replicate.mp hx).2]; omega, rfl⟩⟩
theorem isAll_snoc_inv {φ : Addr → Prop} {H : Hp} {α : Type} {f : α → PyData} {xs : List V} {l : List α} {z : α} (h : IsAll φ H xs ((l ++ [z]).map f)) : ∃ ys x, xs = ys ++ [x] ∧ IsAll φ H ys (l.map f) ∧ Is φ H x (f z) := by
  induction l generalizing xs with
  | nil =>
    cases h with
    | cons h1 h2 => cases h2; exact ⟨[], _, rfl, .nil, h1⟩
  | cons a l ih =>
    cases h with
    | cons h1 h2 =>
      obtain ⟨ys, x, e, h3, h4⟩ := ih h2
      exact ⟨_ :: ys, x, by rw [e]; rfl, .cons h1 h3, h4⟩
section
variable {P : Program} {w : World} {K : PySem.W.Frag} {mg : Str → Option Value} {base : Heap}
def spRowsLightest (K : PySem.W.Frag) : Sp := fun vs H Q _ => ∃ s v, vs = [s, v] ∧ ∃ (x : Addr) (W : Web) (posts O : List Nat), s = .ref x ∧ RowsAt K H x W posts O ∧ WOk W ∧ v = .non ∧ 1 ≤ posts.length ∧ posts.length ≤ O.length ∧ O.length ≤ 7 ∧
  ∀ m, (∃ r ∈ full posts.length O.length (List.range posts.length), rc W.ts O r = m) → (∀ r ∈ full posts.length O.length (List.range posts.length), m ≤ rc W.ts O r) → GivesI m H Q
-- Rows.lightest: 0=self 1=above 2=best 3=waiting 4=weight 5=row
theorem sc_Rows_lightest : FnScope ["self", "above", "best", "waiting", "weight", "row"] ["self", "above"] (defScope sRowsLightest) := ⟨rfl, rfl, rfl, by decide +kernel, rfl, by decide +kernel, by decide +kernel⟩
theorem ok_Rows_lightest (T : Tx K mg) : MethOk P w K mg base (He.ga K "Rows") "lightest" 3 ["self", "above"] (spRowsLightest K) := by
  have O_Rows_begun := ok_Rows_begun (P := P) (w := w) (base := base) T
  have O_Rows_gone_on := ok_Rows_gone_on (P := P) (w := w) (base := base) T
  have O_Rows_is_whole := ok_Rows_is_whole (P := P) (w := w) (base := base) T
  refine MethOk.mk' T.c_Rows T.m_Rows_lightest (fn_ok T.d_Rows_lightest sc_Rows_lightest (fun _ _ _ _ _ _ us hl => match us, hl with | [_, _], _ => rfl) (fun vs H Q E h => ?_) (fun cdv A outer s H vs Q E hr h => ?_))
  · obtain ⟨_, _, rfl, _⟩ := h
    rfl
  have hu := hu_of hr
  obtain ⟨v0, v1, rfl, h⟩ := h
  refine ⟨_, (pss_cons (ps_set (i := 2) sc_Rows_lightest.nd rfl (.inl rfl) pe_non)
     (pss_cons (ps_set (i := 3) sc_Rows_lightest.nd rfl (.inl rfl) (pe_lst (pa_cons (pmeth0 O_Rows_begun (hr.mono (by decide)) (pv 0)) pa_nil)))
     (pss_cons (ps_while PassesOwn.never (pt_cmpR op_gt (pe_callB call_len_seq (by rfl) T.f_len (by decide +kernel) (pa_cons (pv 3) pa_nil)) pe_int (nomark _))
     (pss_cons (ps_asg (pe_bm0 PySem.F.plainAttrs_list PySem.F.slot_list_pop PySem.F.type_list_pop mt_pop (pv 3)) (pg_tup rfl (pgs_cons (pg_name (i := 4) sc_Rows_lightest.nd rfl (.inl rfl) (.inl rfl)) (pgs_cons (pg_name (i := 5) sc_Rows_lightest.nd rfl (.inl rfl) (.inl rfl)) pgs_nil))))
     (pss_cons (ps_if (PW.pt (pw_and (pt_cmpR op_notN (pv 2) pe_non (nomark _)) (pw_and1 (pt_cmpR op_ge (pv 4) (pv 2) (nomark _)))))
     (pss_one ps_continue)
     pss_nil)
     (pss_one (ps_if (pt_not (pt_val (pmeth O_Rows_is_whole (hr.mono (by decide)) (pv 0) (pa_cons (pv 5) pa_nil))))
     (pss_one (ps_expr (pe_bm PySem.F.plainAttrs_list PySem.F.slot_list_extend PySem.F.type_list_extend mt_extend (pv 3) (pa_cons (pmeth O_Rows_gone_on (hr.mono (by decide)) (pv 0) (pa_cons (pe_tup (pa_cons (pv 4) (pa_cons (pv 5) pa_nil))) pa_nil)) pa_nil))))
     (pss_one (ps_if (PW.pt (pw_or (pt_cmpR op_isN (pv 1) pe_non (nomark _)) (pw_or1 (pt_cmpR op_gt (pv 4) (pv 1) (nomark _)))))
     (pss_one (ps_set (i := 2) sc_Rows_lightest.nd rfl (.inl rfl) (pv 4)))
     pss_nil)))))))
     (pss_one (ps_ret (pv 2)))))), ?_⟩
  obtain ⟨x, W, posts, O, rfl, hx, ok, rfl, hl1, hl, hO7, q⟩ := h
  obtain ⟨dx, vw, vp, vo, va, h0, h1, h2, h3, h4⟩ := hx.ex
  have hne : ∀ t ∈ W.ts, t.1 ≠ t.2.1 := fun t ht => by have := ok.good.1 t ht; omega
  have hpos : ∀ t ∈ W.ts, 0 ≤ t.2.2 := fun t ht => by have := ok.good.1 t ht; omega
  refine ⟨_, rfl, x, dx, _, rfl, h0, rfl, _, rfl, x, W, posts, O, rfl, hx, ok, hl, by omega, fun r1 H1 s1 hr1 => ⟨sz1, fun wq hw => ?_⟩⟩
  have hw0 : H wq = none := s1.free hw
  generalize hF : full posts.length O.length (List.range posts.length) = F at q
  let WI : Nat → L2.St → Hp → Prop := fun k σ H2 => ∃ Wt xs b x4 x5, σ = [some (.ref x), some .non, some (optV b), some (.ref wq), x4, x5] ∧ Same H H2 ∧ H2 wq = some (.lst xs) ∧ IsAll (fun _ => False) H2 xs (Wt.map itemD) ∧ Waits W.ts O posts.length O.length F Wt ∧
    (∀ m, b = some m → ∃ r ∈ F, rc W.ts O r = m) ∧ (∀ r ∈ F, (∃ m, b = some m ∧ m ≤ rc W.ts O r) ∨ ∃ z ∈ Wt, r ∈ full posts.length O.length z.2) ∧ k = stepsW posts.length O.length Wt ∧ k ≤ 400
  have st0 : stepsW posts.length O.length [(rc W.ts O (List.range posts.length), List.range posts.length)] ≤ 400 := by
    show stepsT posts.length (O.length - (List.range posts.length).length) + 0 ≤ 400
    rw [List.length_range]
    exact stepsT_small _ (by omega) _ (by omega)
  refine ⟨WI, ⟨_, [(rc W.ts O (List.range posts.length), List.range posts.length)], [r1], none, _, _, rfl, s1.trans (same_upd hw), upd_same, ?_, ⟨fun z hz => ?_⟩, by simp, fun r hr => .inr ⟨_, List.mem_singleton.mpr rfl, by rw [hF]; exact hr⟩, rfl, st0⟩, ?_⟩
  · obtain ⟨a, b, rfl, ha, hb⟩ := is_item hr1
    exact .cons (is_item' ((same_upd hw) _ _ ha) ((same_upd hw) _ _ hb)) .nil
  · rw [List.mem_singleton] at hz
    subst hz
    exact ⟨rfl, by rw [List.length_range]; exact hl, fun r hr => by rw [hF] at hr; exact hr⟩
  rintro k _ H2 ⟨Wt, xs, b, x4, x5, rfl, s2, hW, hxs, wt, hb1, hb2, rfl, hk⟩
  have el := hxs.map_len
  have lw := stepsW_len posts.length O.length Wt
  refine ⟨_, rfl, wq, _, rfl, .inl (SqL.of hW), _, _, rfl, rfl, _, rfl, ?_⟩
  refine ifB (fun e => ?_) fun e => ?_
  · have hlen : 0 < Wt.length := by
      have := of_decide_eq_true e
      omega
    obtain ⟨Wt', z, rfl⟩ : ∃ Wt' v, Wt = Wt' ++ [v] := ⟨_, _, (List.dropLast_concat_getLast (List.ne_nil_of_length_pos hlen)).symm⟩
    obtain ⟨ys, y, rfl, hys, hy⟩ := isAll_snoc_inv hxs
    obtain ⟨za, zb, rfl, hza, hzb⟩ := is_item hy
    have s3 : Same H (upd H2 wq (.lst ys)) := s2.mut hw0
    have zaw : za ≠ wq := fun e => by rw [e, hW] at hza; cases hza
    have zbw : zb ≠ wq := fun e => by rw [e, hW] at hzb; cases hzb
    have hza3 : upd H2 wq (.lst ys) za = some (.tup [.int z.1, .ref zb]) := by rw [upd_ne zaw]; exact hza
    have hzb3 : upd H2 wq (.lst ys) zb = some (.tup (z.2.map nv)) := by rw [upd_ne zbw]; exact hzb
    have hW3 : upd H2 wq (.lst ys) wq = some (.lst ys) := upd_same
    have hys3 := hys.upd (p := wq) (o := .lst ys) (fun a h => h.elim) (not_tup hW)
    refine ⟨fun σ H3 => ∃ k', k' < _ ∧ WI k' σ H3, fun σ' H' h => h, _, rfl, list_ty hW, wq, _, _, rfl, rfl, hW, pop_at _ _, ?_⟩
    rw [List.dropLast_concat]
    generalize upd H2 wq (.lst ys) = H3 at *
    have hz0 := wt.w z (by simp)
    rw [stepsW_snoc] at hk ⊢
    have hst := stepsT_pos posts.length (O.length - z.2.length)
    refine ⟨za, _, rfl, SqT.of hza3, rfl, _, _, rfl, _, _, rfl, rfl, ?_⟩
    -- a row that is heavy already is left
    have skip : ∀ m, b = some m → m ≤ z.1 → ∃ k', k' < stepsW posts.length O.length Wt' + stepsT posts.length (O.length - z.2.length) ∧ WI k' [some (.ref x), some .non, some (optV b), some (.ref wq), some (.int z.1), some (.ref zb)] H3 := by
      intro m hm hmz
      refine ⟨stepsW posts.length O.length Wt', by omega, Wt', ys, b, _, _, rfl, s3, hW3, hys3, wt.sub, hb1, fun r hr => ?_, rfl, by omega⟩
      rcases hb2 r hr with h | ⟨z', hz', h⟩
      · exact .inl h
      · rcases List.mem_append.mp hz' with h' | h'
        · exact .inr ⟨z', h', h⟩
        · rw [List.mem_singleton] at h'
          subst h'
          have := rc_full hne hpos (O := O) h
          exact .inl ⟨m, hm, by rw [hz0.1] at hmz; omega⟩
    have htest : ∀ Qb : Bool → Hp → Prop, Qb (match b with | none => false | some m => decide (m ≤ z.1)) H3 →
        tAnd (tTest (tOp qNotN (tVar 2) (tC .non))) (tTest (tOp qGe (tVar 4) (tVar 2))) [some (.ref x), some .non, some (optV b), some (.ref wq), some (.int z.1), some (.ref zb)] H3 Qb := by
      intro Qb hQ
      refine ⟨_, rfl, rfl, _, rfl, ?_⟩
      cases b with
      | none => exact ifF (by simp [optV]) hQ
      | some m => exact ifT (by simp [optV]) ⟨_, rfl, _, rfl, _, _, rfl, rfl, _, rfl, hQ⟩
    refine htest _ ?_
    refine ifB (fun e => ?_) fun e => ?_
    · cases b with
      | none => cases e
      | some m => exact skip m rfl (of_decide_eq_true e)
    refine ⟨_, rfl, x, dx, _, rfl, s3 _ _ h0, rfl, _, rfl, _, _, rfl, x, W, posts, O, z.2, rfl, hx.same s3, is_tnats' hzb3, fun H4 s4 => ⟨_, rfl, ?_⟩⟩
    refine ifB (fun e => ?_) fun e => ?_
    · have hzN : z.2.length < O.length := by
        have : ¬ z.2.length = O.length := by simpa using e
        omega
      have hW4 := s4 _ _ hW3
      refine ⟨_, rfl, list_ty hW4, _, rfl, x, dx, _, rfl, s4 _ _ (s3 _ _ h0), rfl, _, rfl, _, rfl, sz2, fun p2 hp2 => ?_⟩
      have s5 := same_upd (o := .tup [.int z.1, .ref zb]) hp2
      refine ⟨_, _, rfl, x, W, posts, O, z, rfl, ((hx.same s3).same s4).same s5, ok, by omega, is_item' upd_same (s5 _ _ (s4 _ _ hzb3)), hzN, hO7, fun kd hkd r H5 s6 h6 => ?_⟩
      obtain ⟨kb, kxs, rfl, _, hkb, hkx⟩ := is_list h6
      have lk := hkx.map_len
      have sk := stepsW_kids hzN hkd
      have lk2 := stepsW_len posts.length O.length kd
      have lw2 := stepsW_len posts.length O.length Wt'
      have ly := hys.map_len
      have hW5 := s6 _ _ (s5 _ _ hW4)
      have s36 := (s4.trans s5).trans s6
      refine ⟨wq, kb, _, _, rfl, rfl, hW5, hkb, small (by omega), stepsW posts.length O.length (Wt' ++ kd), by rw [stepsW_append]; omega, Wt' ++ kd, ys ++ kxs, b, _, _, rfl, (s3.trans s36).mut hw0, upd_same, ?_, wt.kids hne hzN hkd, hb1, fun r hr => ?_, rfl, by rw [stepsW_append]; omega⟩
      · rw [List.map_append]
        refine IsAll.upd (fun a h => h.elim) (not_tup hW5) ((hys3.same s36).append (items_flat hkx))
      · rcases hb2 r hr with h | ⟨z', hz', h⟩
        · exact .inl h
        · rcases List.mem_append.mp hz' with h' | h'
          · exact .inr ⟨z', List.mem_append_left _ h', h⟩
          · rw [List.mem_singleton] at h'
            subst h'
            obtain ⟨y, hy1, hy2⟩ := kids_full hzN hkd h
            exact .inr ⟨y, List.mem_append_right _ hy1, hy2⟩
    · have hzN : z.2.length = O.length := by simpa using e
      have hfull := full_done (p := posts.length) hzN
      refine ⟨_, rfl, rfl, _, rfl, ?_⟩
      refine ifT (by simp) ⟨_, rfl, ?_⟩
      have hlt : ∀ m, b = some m → z.1 < m := by
        intro m hm
        subst hm
        have : ¬ m ≤ z.1 := of_decide_eq_false (by assumption)
        omega
      refine ⟨stepsW posts.length O.length Wt', by omega, Wt', ys, some z.1, _, _, rfl, s3.trans s4, s4 _ _ hW3, hys3.same s4, wt.sub, fun m hm => ?_, fun r hr => ?_, rfl, by omega⟩
      · cases hm
        exact ⟨z.2, hz0.2.2 _ (by rw [hfull]; simp), hz0.1.symm⟩
      · rcases hb2 r hr with ⟨m, hm, h⟩ | ⟨z', hz', h⟩
        · have := hlt m hm
          exact .inl ⟨z.1, rfl, by omega⟩
        · rcases List.mem_append.mp hz' with h' | h'
          · exact .inr ⟨z', h', h⟩
          · rw [List.mem_singleton] at h'
            subst h'
            rw [hfull, List.mem_singleton] at h
            subst h
            exact .inl ⟨_, rfl, by rw [hz0.1]; exact Int.le_refl _⟩
  · have hlen : Wt = [] := by
      have := of_decide_eq_false e
      exact List.eq_nil_of_length_eq_zero (by omega)
    subst hlen
    obtain ⟨r, hr⟩ : ∃ r, r ∈ F := by
      rw [← hF]
      exact full_some hl1 hl
    cases b with
    | none =>
      rcases hb2 r hr with ⟨m, hm, _⟩ | ⟨z, hz, _⟩
      · cases hm
      · cases hz
    | some m =>
      refine ⟨_, rfl, q m (hb1 m rfl) (fun r hr => ?_) _ s2⟩
      rcases hb2 r hr with ⟨m', hm, h⟩ | ⟨z, hz, _⟩
      · cases hm; exact h
      · cases hz
/-- the owners that a row tells -/
def ownL (n : Nat) (O posts row : List Nat) : List Nat := (List.range n).map fun v => if v ∈ O then posts.getD (row.getD (O.idxOf v) 0) 0 else posts.getD 0 0
def spRowsOwnersOfRow (K : PySem.W.Frag) : Sp := fun vs H Q _ => ∃ s r, vs = [s, r] ∧ ∃ (x : Addr) (W : Web) (posts O row : List Nat), s = .ref x ∧ RowsAt K H x W posts O ∧ WOk W ∧ Is Any H r (tupD row) ∧ row.length = O.length ∧ 1 ≤ posts.length ∧ O.Nodup ∧ (∀ v ∈ O, v < W.n) ∧
  (∀ j ∈ row, j < posts.length) ∧ Gives (tupD (ownL W.n O posts row)) H Q
-- Rows.owners_of_row: 0=self 1=row 2=owners 3=place 4=number
theorem sc_Rows_owners_of_row : FnScope ["self", "row", "owners", "place", "number"] ["self", "row"] (defScope sRowsOwnersOfRow) := ⟨rfl, rfl, rfl, by decide +kernel, rfl, by decide +kernel, by decide +kernel⟩
theorem ok_Rows_owners_of_row (T : Tx K mg) : MethOk P w K mg base (He.ga K "Rows") "owners_of_row" 1 ["self", "row"] (spRowsOwnersOfRow K) := by
  refine MethOk.mk' T.c_Rows T.m_Rows_owners_of_row (fn_ok T.d_Rows_owners_of_row sc_Rows_owners_of_row (fun _ _ _ _ _ _ us hl => match us, hl with | [_, _], _ => rfl) (fun vs H Q E h => ?_) (fun cdv A outer s H vs Q E hr h => ?_))
  · obtain ⟨_, _, rfl, _⟩ := h
    rfl
  have hu := hu_of hr
  obtain ⟨v0, v1, rfl, h⟩ := h
  refine ⟨_, (pss_cons (ps_set (i := 2) sc_Rows_owners_of_row.nd rfl (.inl rfl) (pe_op op_rep (pe_lst (pa_cons (pe_ix ix_list (pe_fld (pv 0) rfl) pe_int (fun _ _ => rfl)) pa_nil)) (pe_ix ix_tup (pe_fld (pv 0) rfl) pe_int (fun _ _ => rfl))))
     (pss_cons (ps_for PassesOwn.never rfl (pi_zipx true false (by rfl) T.f_zip (pa_cons (pe_fld (pv 0) rfl) (pa_cons (pv 1) pa_nil))) (pg_tup rfl (pgs_cons (pg_name (i := 3) sc_Rows_owners_of_row.nd rfl (.inl rfl) (.inl rfl)) (pgs_cons (pg_name (i := 4) sc_Rows_owners_of_row.nd rfl (.inl rfl) (.inl rfl)) pgs_nil)))
     (pss_one (ps_asg (pe_ix ix_list (pe_fld (pv 0) rfl) (pv 4) (fun _ _ => rfl)) (pg_sub (pv 2) (pv 3) set_list))))
     (pss_one (ps_ret (pe_callTy call_tuple_of (by rfl) T.f_tuple (by decide +kernel) (pa_cons (pv 2) pa_nil)))))), ?_⟩
  obtain ⟨x, W, posts, O, row, rfl, hx, ok, hr1, hl, hp1, nd, hO, hrow, q⟩ := h
  have n1 := ok.n1
  obtain ⟨dx, vw, vp, vo, va, h0, h1, h2, h3, h4⟩ := hx.ex
  obtain ⟨b, rfl, hb⟩ := is_tnats hr1
  obtain ⟨pa, rfl, _, hpa⟩ := is_nats h2
  obtain ⟨oa, rfl, _, hoa⟩ := is_nats h3
  obtain ⟨pw, pq, xs, rfl, hw1, hw2, hx3⟩ := is_web h1
  refine ⟨_, rfl, x, _, dx, _, .ref pa, rfl, h0, T.c_Rows, T.n_Rows_posts, rfl, pa, _, 0, nv (posts.getD 0 0), rfl, rfl, SqL.of hpa, at_nats hp1, sz1, fun l0 hl0 => ?_⟩
  have sl := same_upd (o := .lst [nv (posts.getD 0 0)]) hl0
  refine ⟨_, rfl, x, _, dx, _, .ref pw, rfl, sl _ _ h0, T.c_Rows, T.n_Rows_web, rfl, pw, _, 0, nv W.n, rfl, rfl, SqT.of (sl _ _ hw1), rfl, l0, W.n, _, rfl, rfl, upd_same, by omega, by omega, small (by simp; omega), fun o ho => ?_⟩
  rw [Int.toNat_natCast]
  have e0 : (List.replicate W.n [nv (posts.getD 0 0)]).flatten = (List.replicate W.n (posts.getD 0 0)).map nv := by simp
  rw [e0]
  have ho0 : H o = none := sl.free ho
  have s0 := sl.trans (same_upd (o := .lst ((List.replicate W.n (posts.getD 0 0)).map nv)) ho)
  have ho1 := upd_same (H := upd H l0 (.lst [nv (posts.getD 0 0)])) (a := o) (o := .lst ((List.replicate W.n (posts.getD 0 0)).map nv))
  generalize upd (upd H l0 (.lst [nv (posts.getD 0 0)])) o (.lst ((List.replicate W.n (posts.getD 0 0)).map nv)) = H1 at *
  refine ⟨_, rfl, x, _, dx, _, .ref oa, rfl, s0 _ _ h0, T.c_Rows, T.n_Rows_order, rfl, _, rfl, ?_⟩
  refine ⟨oa, b, _, _, rfl, SqL.of (s0 _ _ hoa), SqT.of (s0 _ _ hb), ?_⟩
  refine for_it (walk_zipx true false (by rw [List.length_map, List.length_map]; exact hl)) (fun i σ H2 => ∃ (os : List Nat) (x3 x4 : Option V), σ = [some (.ref x), some (.ref b), some (.ref o), x3, x4] ∧ Same H H2 ∧ H2 o = some (.lst (os.map nv)) ∧ os.length = W.n ∧
    ∀ v, v < W.n → os.getD v 0 = if v ∈ O ∧ O.idxOf v < i then posts.getD (row.getD (O.idxOf v) 0) 0 else posts.getD 0 0)
    ⟨_, _, _, rfl, s0, ho1, by simp, fun v hv => ?_⟩ (fun i σ H2 _ ⟨_, _, _, _, s2, _⟩ => ⟨SqL.of (s2 _ _ hoa), SqT.of (s2 _ _ hb)⟩) ?_ ?_
  · rw [if_neg (by omega), List.getD_eq_getElem?_getD, List.getElem?_replicate, if_pos hv]
    rfl
  · rintro i _ _ H2 H3 hi ⟨os, x3, x4, rfl, s2, ho2, hos, hv⟩ ⟨Tt, a1, b1, rfl, hT, rfl, e1, e2⟩
    rw [List.length_map] at hi
    have e1 : (O.map nv)[i]? = some a1 := e1
    have e2 : (row.map nv)[i]? = some b1 := e2
    rw [List.getElem?_map, List.getElem?_eq_getElem hi] at e1
    rw [List.getElem?_map, List.getElem?_eq_getElem (by omega)] at e2
    cases e1
    cases e2
    have hj : row[i] < posts.length := hrow _ (List.getElem_mem _)
    have hvn : O[i] < W.n := hO _ (List.getElem_mem _)
    have sT := same_upd (o := .tup [nv O[i], nv row[i]]) hT
    have s3 := s2.trans sT
    refine ⟨Tt, _, rfl, SqT.of upd_same, rfl, _, _, rfl, _, _, rfl, rfl, ?_⟩
    refine ⟨_, rfl, x, _, dx, _, .ref pa, rfl, s3 _ _ h0, T.c_Rows, T.n_Rows_posts, rfl, _, rfl, pa, _, _, _, rfl, rfl, SqL.of (s3 _ _ hpa), at_nats hj, ?_⟩
    refine ⟨_, rfl, _, rfl, o, _, _, _, rfl, rfl, sT _ _ ho2, ix_set (by omega), os.set O[i] (posts.getD row[i] 0), _, _, rfl, s3.mut ho0, by rw [upd_same, List.map_set], by rw [List.length_set]; exact hos, fun v hv' => ?_⟩
    rw [getD_set (by omega), hv v hv']
    have ei : O.idxOf O[i] = i := nd.idxOf_getElem _ _
    by_cases e : v = O[i]
    · subst e
      rw [if_pos rfl, if_pos ⟨List.getElem_mem _, by omega⟩, ei, List.getD_eq_getElem?_getD (l := row), List.getElem?_eq_getElem (by omega)]
      rfl
    · rw [if_neg e]
      by_cases h : v ∈ O ∧ O.idxOf v < i
      · rw [if_pos h, if_pos ⟨h.1, by omega⟩]
      · rw [if_neg h, if_neg]
        rintro ⟨h5, h6⟩
        apply h
        refine ⟨h5, ?_⟩
        have : O.idxOf v ≠ i := fun q => e (by
          have := get_idx h5
          rw [q, List.getElem?_eq_getElem hi] at this
          cases this
          rfl)
        omega
  · rintro _ H2 ⟨os, x3, x4, rfl, s2, ho2, hos, hv⟩
    have eo : os = ownL W.n O posts row := by
      refine List.ext_getElem? fun v => ?_
      unfold ownL
      rw [List.getElem?_map]
      by_cases hvn : v < W.n
      · rw [List.getElem?_range hvn, List.getElem?_eq_getElem (by omega)]
        have h5 := hv v hvn
        rw [List.getD_eq_getElem?_getD, List.getElem?_eq_getElem (by omega)] at h5
        show some os[v] = some _
        congr 1
        refine h5.trans ?_
        show _ = if v ∈ O then posts.getD (row.getD (O.idxOf v) 0) 0 else posts.getD 0 0
        by_cases h6 : v ∈ O
        · rw [if_pos ⟨h6, by rw [List.length_map]; exact List.idxOf_lt_length_of_mem h6⟩, if_pos h6]
        · rw [if_neg (fun q => h6 q.1), if_neg h6]
      · rw [List.getElem?_eq_none (by omega), List.getElem?_eq_none (by rw [List.length_range]; omega)]
        rfl
    refine ⟨_, rfl, o, _, rfl, .inl ⟨SqL.of ho2, fun l hl => q _ _ (s2.trans (same_upd hl)) (by rw [← eo]; exact is_tnats' upd_same)⟩⟩
end
end PW
set_option Elab.async false
set_option linter.all false
set_option maxRecDepth 100000
set_option maxHeartbeats 4000000
namespace PW
open PySem PySem.Spec PyProof.Rows L2
/-- the rows that a row leads to, no heavier than is due -/
def duly (ts : List Tie) (O : List Nat) (p N : Nat) (due : Int) (row : List Nat) : List (List Nat) := (full p N row).filter fun r => decide (rc ts O r ≤ due)
theorem duly_kids {ts : List Tie} {O : List Nat} {p N : Nat} {due : Int} {z : Int × List Nat} (hz : z.2.length < N) {ys : List (Int × List Nat)} (hy : ys.Perm (kids ts O p z)) : (ys.flatMap fun y => duly ts O p N due y.2).Perm (duly ts O p N due z.2) := by
  refine (hy.flatMap_right _).trans ?_
  have : ((kids ts O p z).flatMap fun y => duly ts O p N due y.2) = duly ts O p N due z.2 := by
    unfold duly kids
    rw [full_step hz, List.filter_flatMap, List.flatMap_map]
  rw [this]
section
variable {P : Program} {w : World} {K : PySem.W.Frag} {mg : Str → Option Value} {base : Heap}
def spRowsRowsWeighing (K : PySem.W.Frag) : Sp := fun vs H Q _ => ∃ s v c, vs = [s, v, c] ∧ ∃ (x : Addr) (W : Web) (posts O : List Nat) (due : Int) (mo : Option Int), s = .ref x ∧ RowsAt K H x W posts O ∧ WOk W ∧ v = .int due ∧ c = optV mo ∧ (mo = none ∨ mo = some 1) ∧ 1 ≤ posts.length ∧ posts.length ≤ O.length ∧ O.length ≤ 7 ∧ O.Nodup ∧ (∀ v ∈ O, v < W.n) ∧
  ∀ fr : List (List Nat), (∀ r ∈ fr, r ∈ duly W.ts O posts.length O.length due (List.range posts.length)) → (fr.Perm (duly W.ts O posts.length O.length due (List.range posts.length)) ∨ (mo = some 1 ∧ fr ≠ [])) → Gives (.list (fr.map fun r => tupD (ownL W.n O posts r))) H Q
-- Rows.rows_weighing: 0=self 1=due 2=most 3=found 4=waiting 5=weight 6=row
theorem sc_Rows_rows_weighing : FnScope ["self", "due", "most", "found", "waiting", "weight", "row"] ["self", "due", "most"] (defScope sRowsRowsWeighing) := ⟨rfl, rfl, rfl, by decide +kernel, rfl, by decide +kernel, by decide +kernel⟩
theorem ok_Rows_rows_weighing (T : Tx K mg) : MethOk P w K mg base (He.ga K "Rows") "rows_weighing" 3 ["self", "due", "most"] (spRowsRowsWeighing K) := by
  have O_Rows_begun := ok_Rows_begun (P := P) (w := w) (base := base) T
  have O_Rows_gone_on := ok_Rows_gone_on (P := P) (w := w) (base := base) T
  have O_Rows_is_whole := ok_Rows_is_whole (P := P) (w := w) (base := base) T
  have O_Rows_owners_of_row := ok_Rows_owners_of_row (P := P) (w := w) (base := base) T
  refine MethOk.mk' T.c_Rows T.m_Rows_rows_weighing (fn_ok T.d_Rows_rows_weighing sc_Rows_rows_weighing (fun _ _ _ _ _ _ us hl => match us, hl with | [_, _, _], _ => rfl) (fun vs H Q E h => ?_) (fun cdv A outer s H vs Q E hr h => ?_))
  · obtain ⟨_, _, _, rfl, _⟩ := h
    rfl
  have hu := hu_of hr
  obtain ⟨v0, v1, v2, rfl, h⟩ := h
  refine ⟨_, (pss_cons (ps_set (i := 3) sc_Rows_rows_weighing.nd rfl (.inl rfl) (pe_lst pa_nil))
     (pss_cons (ps_set (i := 4) sc_Rows_rows_weighing.nd rfl (.inl rfl) (pe_lst (pa_cons (pmeth0 O_Rows_begun (hr.mono (by decide)) (pv 0)) pa_nil)))
     (pss_cons (ps_while PassesOwn.never (PW.pt (pw_and (pt_cmpR op_gt (pe_callB call_len_seq (by rfl) T.f_len (by decide +kernel) (pa_cons (pv 4) pa_nil)) pe_int (nomark _)) (pw_and1 (PW.pt (pw_or (pt_cmpR op_isN (pv 2) pe_non (nomark _)) (pw_or1 (pt_cmpR op_lt (pe_callB call_len_seq (by rfl) T.f_len (by decide +kernel) (pa_cons (pv 3) pa_nil)) (pv 2) (nomark _))))))))
     (pss_cons (ps_asg (pe_bm0 PySem.F.plainAttrs_list PySem.F.slot_list_pop PySem.F.type_list_pop mt_pop (pv 4)) (pg_tup rfl (pgs_cons (pg_name (i := 5) sc_Rows_rows_weighing.nd rfl (.inl rfl) (.inl rfl)) (pgs_cons (pg_name (i := 6) sc_Rows_rows_weighing.nd rfl (.inl rfl) (.inl rfl)) pgs_nil))))
     (pss_cons (ps_if (pt_cmpR op_gt (pv 5) (pv 1) (nomark _))
     (pss_one ps_continue)
     pss_nil)
     (pss_one (ps_if (pt_val (pmeth O_Rows_is_whole (hr.mono (by decide)) (pv 0) (pa_cons (pv 6) pa_nil)))
     (pss_one (ps_expr (pe_bm PySem.F.plainAttrs_list PySem.F.slot_list_append PySem.F.type_list_append mt_append (pv 3) (pa_cons (pmeth O_Rows_owners_of_row (hr.mono (by decide)) (pv 0) (pa_cons (pv 6) pa_nil)) pa_nil))))
     (pss_one (ps_expr (pe_bm PySem.F.plainAttrs_list PySem.F.slot_list_extend PySem.F.type_list_extend mt_extend (pv 4) (pa_cons (pmeth O_Rows_gone_on (hr.mono (by decide)) (pv 0) (pa_cons (pe_tup (pa_cons (pv 5) (pa_cons (pv 6) pa_nil))) pa_nil)) pa_nil)))))))))
     (pss_one (ps_ret (pv 3)))))), ?_⟩
  obtain ⟨x, W, posts, O, due, mo, rfl, hx, ok, rfl, rfl, hmo, hl1, hl, hO7, nd, hOn, q⟩ := h
  obtain ⟨dx, vw, vp, vo, va, h0, h1, h2, h3, h4⟩ := hx.ex
  have hne : ∀ t ∈ W.ts, t.1 ≠ t.2.1 := fun t ht => by have := ok.good.1 t ht; omega
  have hpos : ∀ t ∈ W.ts, 0 ≤ t.2.2 := fun t ht => by have := ok.good.1 t ht; omega
  refine ⟨sz0, fun fa hfa => ?_⟩
  have s0 := same_upd (o := .lst []) hfa
  refine ⟨_, rfl, x, dx, _, rfl, s0 _ _ h0, rfl, _, rfl, x, W, posts, O, rfl, hx.same s0, ok, hl, by omega, fun r1 H1 s1 hr1 => ⟨sz1, fun wq hw => ?_⟩⟩
  have s01 := s0.trans s1
  have hw0 : H wq = none := s01.free hw
  have hf1 : H1 fa = some (.lst []) := s1 _ _ upd_same
  have wf : wq ≠ fa := fun e => by rw [e, hf1] at hw; cases hw
  generalize hF : duly W.ts O posts.length O.length due (List.range posts.length) = F at q
  let WI : Nat → L2.St → Hp → Prop := fun k σ H2 => ∃ Wt xs fr fxs x5 x6, σ = [some (.ref x), some (.int due), some (optV mo), some (.ref fa), some (.ref wq), x5, x6] ∧ Same H H2 ∧ H2 wq = some (.lst xs) ∧ IsAll (fun _ => False) H2 xs (Wt.map itemD) ∧ H2 fa = some (.lst fxs) ∧ IsAll (fun _ => False) H2 fxs (fr.map fun r => tupD (ownL W.n O posts r)) ∧
    Waits W.ts O posts.length O.length (full posts.length O.length (List.range posts.length)) Wt ∧ (fr ++ Wt.flatMap fun z => duly W.ts O posts.length O.length due z.2).Perm F ∧ k = stepsW posts.length O.length Wt ∧ k + fr.length ≤ 400
  have st0 : stepsW posts.length O.length [(rc W.ts O (List.range posts.length), List.range posts.length)] ≤ 400 := by
    show stepsT posts.length (O.length - (List.range posts.length).length) + 0 ≤ 400
    rw [List.length_range]
    exact stepsT_small _ (by omega) _ (by omega)
  refine ⟨WI, ⟨_, [(rc W.ts O (List.range posts.length), List.range posts.length)], [r1], [], [], _, _, rfl, s01.trans (same_upd hw), upd_same, ?_, by rw [upd_ne (Ne.symm wf)]; exact hf1, .nil, ⟨fun z hz => ?_⟩, by rw [← hF]; simp, rfl, st0⟩, ?_⟩
  · obtain ⟨a, b, rfl, ha, hb⟩ := is_item hr1
    exact .cons (is_item' ((same_upd hw) _ _ ha) ((same_upd hw) _ _ hb)) .nil
  · rw [List.mem_singleton] at hz
    subst hz
    exact ⟨rfl, by rw [List.length_range]; exact hl, fun r hr => hr⟩
  rintro k _ H2 ⟨Wt, xs, fr, fxs, x5, x6, rfl, s2, hW, hxs, hf, hfx, wt, hpm, rfl, hk⟩
  have el := hxs.map_len
  have elf := hfx.map_len
  have lw := stepsW_len posts.length O.length Wt
  have hsub : ∀ r ∈ fr, r ∈ F := fun r hr => hpm.mem_iff.mp (List.mem_append_left _ hr)
  have htest : ∀ Qb : Bool → Hp → Prop, Qb (decide (0 < Wt.length ∧ (mo = none ∨ fr = []))) H2 →
      tAnd (tTest (tOp qGt (tCB (qLen K) (tCons (tVar 4) tNil)) (tC (.int 0)))) (tOr (tTest (tOp qIsN (tVar 2) (tC .non))) (tTest (tOp qLt (tCB (qLen K) (tCons (tVar 3) tNil)) (tVar 2)))) [some (.ref x), some (.int due), some (optV mo), some (.ref fa), some (.ref wq), x5, x6] H2 Qb := by
    intro Qb hQ
    refine ⟨_, rfl, wq, _, rfl, .inl (SqL.of hW), _, _, rfl, rfl, _, rfl, ?_⟩
    rw [el]
    refine ifB (fun e => ?_) fun e => ?_
    · have e' : 0 < Wt.length := by have := of_decide_eq_true e; omega
      refine ⟨_, rfl, rfl, _, rfl, ?_⟩
      rcases hmo with rfl | rfl
      · refine ifT (by simp [optV]) ?_
        rw [show decide (0 < Wt.length ∧ ((none : Option Int) = none ∨ fr = [])) = true by simp [e']] at hQ
        exact hQ
      · refine ifF (by simp [optV]) ⟨_, rfl, fa, _, rfl, .inl (SqL.of hf), _, rfl, _, _, rfl, rfl, _, rfl, ?_⟩
        rw [elf]
        have e2 : decide (0 < Wt.length ∧ ((some 1 : Option Int) = none ∨ fr = [])) = decide (((fr.length : Nat) : Int) < 1) := by
          rw [decide_eq_decide]
          constructor
          · rintro ⟨_, h | h⟩
            · cases h
            · subst h; decide
          · intro h
            exact ⟨e', .inr (List.eq_nil_of_length_eq_zero (by omega))⟩
        rw [e2] at hQ
        exact hQ
    · have e' : ¬ 0 < Wt.length := by have := of_decide_eq_false e; omega
      rw [show decide (0 < Wt.length ∧ (mo = none ∨ fr = [])) = false by simp [e']] at hQ
      exact hQ
  refine htest _ ?_
  refine ifB (fun e => ?_) fun e => ?_
  · obtain ⟨hlen, hfo⟩ := of_decide_eq_true e
    obtain ⟨Wt', z, rfl⟩ : ∃ Wt' v, Wt = Wt' ++ [v] := ⟨_, _, (List.dropLast_concat_getLast (List.ne_nil_of_length_pos hlen)).symm⟩
    obtain ⟨ys, y, rfl, hys, hy⟩ := isAll_snoc_inv hxs
    obtain ⟨za, zb, rfl, hza, hzb⟩ := is_item hy
    have s3 : Same H (upd H2 wq (.lst ys)) := s2.mut hw0
    have zaw : za ≠ wq := fun e => by rw [e, hW] at hza; cases hza
    have zbw : zb ≠ wq := fun e => by rw [e, hW] at hzb; cases hzb
    have hza3 : upd H2 wq (.lst ys) za = some (.tup [.int z.1, .ref zb]) := by rw [upd_ne zaw]; exact hza
    have hzb3 : upd H2 wq (.lst ys) zb = some (.tup (z.2.map nv)) := by rw [upd_ne zbw]; exact hzb
    have hW3 : upd H2 wq (.lst ys) wq = some (.lst ys) := upd_same
    have hf3 : upd H2 wq (.lst ys) fa = some (.lst fxs) := by rw [upd_ne (Ne.symm wf)]; exact hf
    have hys3 := hys.upd (p := wq) (o := .lst ys) (fun a h => h.elim) (not_tup hW)
    have hfx3 := hfx.upd (p := wq) (o := .lst ys) (fun a h => h.elim) (not_tup hW)
    refine ⟨fun σ H3 => ∃ k', k' < _ ∧ WI k' σ H3, fun σ' H' h => h, _, rfl, list_ty hW, wq, _, _, rfl, rfl, hW, pop_at _ _, ?_⟩
    rw [List.dropLast_concat]
    generalize upd H2 wq (.lst ys) = H3 at *
    have hz0 := wt.w z (by simp)
    rw [stepsW_snoc] at hk ⊢
    rw [List.flatMap_append, List.flatMap_cons, List.flatMap_nil, List.append_nil] at hpm
    have hst := stepsT_pos posts.length (O.length - z.2.length)
    have hfa0 : H fa = none := hfa
    refine ⟨za, _, rfl, SqT.of hza3, rfl, _, _, rfl, _, _, rfl, rfl, ?_⟩
    refine ⟨_, rfl, _, rfl, _, _, rfl, rfl, _, rfl, ?_⟩
    refine ifB (fun e => ?_) fun e => ?_
    · have e' : due < z.1 := of_decide_eq_true e
      have ez : duly W.ts O posts.length O.length due z.2 = [] := by
        unfold duly
        rw [List.filter_eq_nil_iff]
        intro r hr
        have := rc_full hne hpos (O := O) hr
        rw [hz0.1] at e'
        simp
        omega
      rw [ez, List.append_nil] at hpm
      exact ⟨stepsW posts.length O.length Wt', by omega, Wt', ys, fr, fxs, _, _, rfl, s3, hW3, hys3, hf3, hfx3, wt.sub, hpm, rfl, by omega⟩
    have e' : z.1 ≤ due := by have := of_decide_eq_false e; omega
    refine ⟨_, rfl, x, dx, _, rfl, s3 _ _ h0, rfl, _, rfl, _, _, rfl, x, W, posts, O, z.2, rfl, hx.same s3, is_tnats' hzb3, fun H4 s4 => ⟨_, rfl, ?_⟩⟩
    have hW4 := s4 _ _ hW3
    have hf4 := s4 _ _ hf3
    refine ifB (fun e => ?_) fun e => ?_
    · have hzN : z.2.length = O.length := of_decide_eq_true e
      have hfull := full_done (p := posts.length) hzN
      have ez : duly W.ts O posts.length O.length due z.2 = [z.2] := by
        unfold duly
        rw [hfull]
        rw [hz0.1] at e'
        simp [e']
      rw [ez] at hpm
      have hz1 : z.2 ∈ full posts.length O.length (List.range posts.length) := hz0.2.2 _ (by rw [hfull]; simp)
      obtain ⟨_, ex, hex, hz2⟩ := (mem_full (by rw [List.length_range]; exact hl)).mp hz1
      refine ⟨_, rfl, list_ty hf4, _, rfl, x, dx, _, rfl, s4 _ _ (s3 _ _ h0), rfl, _, rfl, _, _, rfl, x, W, posts, O, z.2, rfl, (hx.same s3).same s4, ok, is_tnats' (s4 _ _ hzb3), hzN, hl1, nd, hOn, fun j hj => ?_, fun r5 H5 s5 h5 => ?_⟩
      · rw [hz2] at hj
        rcases List.mem_append.mp hj with h | h
        · exact List.mem_range.mp h
        · exact hex j h
      obtain ⟨ob, rfl, hob⟩ := is_tnats h5
      have s35 := s4.trans s5
      have hf5 := s5 _ _ hf4
      refine ⟨fa, _, _, rfl, rfl, hf5, smallLt (by omega), stepsW posts.length O.length Wt', by omega, Wt', ys, fr ++ [z.2], fxs ++ [.ref ob], _, _, rfl, (s3.trans s35).mut hfa0, by rw [upd_ne wf]; exact s35 _ _ hW3, (hys3.same s35).upd (fun a h => h.elim) (not_tup hf5), upd_same, ?_, wt.sub, ?_, rfl, by rw [List.length_append]; show _ + (fr.length + 1) ≤ _; omega⟩
      · rw [List.map_append]
        exact IsAll.upd (fun a h => h.elim) (not_tup hf5) ((hfx3.same s35).snoc (is_tnats' hob))
      · refine List.Perm.trans ?_ hpm
        rw [List.append_assoc]
        exact List.Perm.append_left _ List.perm_append_comm
    · have hzN : z.2.length < O.length := by
        have : ¬ z.2.length = O.length := of_decide_eq_false e
        omega
      refine ⟨_, rfl, list_ty hW4, _, rfl, x, dx, _, rfl, s4 _ _ (s3 _ _ h0), rfl, _, rfl, _, rfl, sz2, fun p2 hp2 => ?_⟩
      have s5 := same_upd (o := .tup [.int z.1, .ref zb]) hp2
      refine ⟨_, _, rfl, x, W, posts, O, z, rfl, ((hx.same s3).same s4).same s5, ok, by omega, is_item' upd_same (s5 _ _ (s4 _ _ hzb3)), hzN, hO7, fun kd hkd r H5 s6 h6 => ?_⟩
      obtain ⟨kb, kxs, rfl, _, hkb, hkx⟩ := is_list h6
      have lk := hkx.map_len
      have sk := stepsW_kids hzN hkd
      have lk2 := stepsW_len posts.length O.length kd
      have lw2 := stepsW_len posts.length O.length Wt'
      have ly := hys.map_len
      have hW5 := s6 _ _ (s5 _ _ hW4)
      have s36 := (s4.trans s5).trans s6
      refine ⟨wq, kb, _, _, rfl, rfl, hW5, hkb, small (by omega), stepsW posts.length O.length (Wt' ++ kd), by rw [stepsW_append]; omega, Wt' ++ kd, ys ++ kxs, fr, fxs, _, _, rfl, (s3.trans s36).mut hw0, upd_same, ?_, by rw [upd_ne (Ne.symm wf)]; exact s36 _ _ hf3, (hfx3.same s36).upd (fun a h => h.elim) (not_tup hW5), wt.kids hne hzN hkd, ?_, rfl, by rw [stepsW_append]; omega⟩
      · rw [List.map_append]
        exact IsAll.upd (fun a h => h.elim) (not_tup hW5) ((hys3.same s36).append (items_flat hkx))
      · refine List.Perm.trans ?_ hpm
        rw [List.flatMap_append]
        exact List.Perm.append_left _ (List.Perm.append_left _ (duly_kids hzN hkd))
  · have hor := of_decide_eq_false e
    refine ⟨_, rfl, q fr (fun r hr => hsub r hr) ?_ _ _ s2 (.lst hfa hf (hfx.imp fun a h => h.elim))⟩
    by_cases h : 0 < Wt.length
    · rcases hmo with rfl | rfl
      · exact absurd ⟨h, .inl rfl⟩ hor
      · exact .inr ⟨rfl, fun e => hor ⟨h, .inr e⟩⟩
    · have : Wt = [] := List.eq_nil_of_length_eq_zero (by omega)
      subst this
      simp at hpm
      exact .inl hpm
end
end PW
set_option Elab.async false
set_option linter.all false
set_option maxRecDepth 100000
set_option maxHeartbeats 4000000
namespace PW
open PySem PySem.Spec PyProof.Rows L2
/-- the owners that a least row tells, by place -/
noncomputable abbrev tellL (W : Web) (posts row : List Nat) : List Nat := ownL W.n (ordO W posts) posts row
theorem tell_get {W : Web} {posts row : List Nat} {v : Nat} (h : v < W.n) : (tellL W posts row).getD v 0 = fR (ordO W posts) posts row v := by
  unfold tellL ownL
  rw [List.getD_eq_getElem?_getD, List.getElem?_map, List.getElem?_range h]
  rfl
theorem tell_len (W : Web) (posts row : List Nat) : (tellL W posts row).length = W.n := by unfold tellL ownL; rw [List.length_map, List.length_range]
theorem exts_count (p : Nat) : ∀ k row, (exts p k row).length ≤ stepsT p k
  | 0, row => Nat.le_refl _
  | k + 1, row => by
    show ((List.range p).flatMap fun j => exts p k (row ++ [j])).length ≤ 1 + p * stepsT p k
    rw [List.length_flatMap]
    have : ∀ l : List Nat, (l.map fun j => (exts p k (row ++ [j])).length).sum ≤ l.length * stepsT p k := by
      intro l
      induction l with
      | nil => simp
      | cons j l ih =>
        have := exts_count p k (row ++ [j])
        rw [List.map_cons, List.sum_cons, List.length_cons, Nat.add_mul]
        omega
    have := this (List.range p)
    rw [List.length_range] at this
    omega
theorem leastR_len {W : Web} {posts : List Nat} (ok : WOk W) (p : POk W posts) : (leastR W posts).length ≤ 400 := by
  have h1 : (leastR W posts).length ≤ (rowsF W posts).length := List.length_filter_le ..
  have h2 : (rowsF W posts).length ≤ stepsT posts.length ((ordO W posts).length - (List.range posts.length).length) := exts_count _ _ _
  rw [List.length_range] at h2
  have n1 := ok.n1
  have h3 := ordO_len p
  have h4 := ordO_ge (W := W) (posts := posts)
  have := stepsT_small (ordO W posts).length (by omega) posts.length (by omega)
  omega
section
variable {P : Program} {w : World} {K : PySem.W.Frag} {mg : Str → Option Value} {base : Heap}
def spLeastRows (K : PySem.W.Frag) : Sp := fun vs H Q _ => ∃ v c d, vs = [v, c, d] ∧ ∃ (W : Web) (posts : List Nat) (mo : Option Int), Is Any H v (webD W) ∧ WOk W ∧ Is Any H c (natsD posts) ∧ POk W posts ∧ d = optV mo ∧ (mo = none ∨ mo = some 1) ∧
  ∀ fr : List (List Nat), (∀ r ∈ fr, r ∈ leastR W posts) → (fr.Perm (leastR W posts) ∨ (mo = some 1 ∧ fr ≠ [])) → Gives (.tuple [.int (leastW W posts), .list (fr.map fun r => tupD (tellL W posts r))]) H Q
-- least_rows: 0=web 1=posts 2=most 3=rows 4=weight
theorem sc_least_rows : FnScope ["web", "posts", "most", "rows", "weight"] ["web", "posts", "most"] (defScope sLeastRows) := ⟨rfl, rfl, rfl, by decide +kernel, rfl, by decide +kernel, by decide +kernel⟩
theorem ok_least_rows (T : Tx K mg) : DefOk P w K mg base "least_rows" 4 ["web", "posts", "most"] (spLeastRows K) := by
  have O_Rows := ok_Rows___init__ (P := P) (w := w) (base := base) T
  have O_Rows_lightest := ok_Rows_lightest (P := P) (w := w) (base := base) T
  have O_Rows_rows_weighing := ok_Rows_rows_weighing (P := P) (w := w) (base := base) T
  have O_tied_places := ok_tied_places (P := P) (w := w) (base := base) T
  refine DefOk.mk' T.g_least_rows (fn_ok T.d_least_rows sc_least_rows (fun _ _ _ _ _ _ us hl => match us, hl with | [_, _, _], _ => rfl) (fun vs H Q E h => ?_) (fun cdv A outer s H vs Q E hr h => ?_))
  · obtain ⟨_, _, _, rfl, _⟩ := h
    rfl
  have hu := hu_of hr
  obtain ⟨v0, v1, v2, rfl, h⟩ := h
  refine ⟨_, (pss_cons (ps_set (i := 3) sc_least_rows.nd rfl (.inl rfl) (pmake O_Rows (hr.mono (by decide)) (by rfl) (pa_cons (pv 0) (pa_cons (pv 1) (pa_cons (pcall O_tied_places (hr.mono (by decide)) (by rfl) (pa_cons (pv 0) (pa_cons (pv 1) pa_nil))) pa_nil)))))
     (pss_cons (ps_set (i := 4) sc_least_rows.nd rfl (.inl rfl) (pmeth O_Rows_lightest (hr.mono (by decide)) (pv 3) (pa_cons pe_non pa_nil)))
     (pss_one (ps_ret (pe_tup (pa_cons (pv 4) (pa_cons (pmeth O_Rows_rows_weighing (hr.mono (by decide)) (pv 3) (pa_cons (pv 4) (pa_cons (pv 2) pa_nil))) pa_nil))))))), ?_⟩
  obtain ⟨W, posts, mo, hw, ok, hp, pok, rfl, hmo, q⟩ := h
  have n1 := ok.n1
  have h3 := ordO_len pok
  have h4 := ordO_ge (W := W) (posts := posts)
  refine ⟨_, rfl, _, rfl, _, rfl, _, rfl, _, _, rfl, W, posts, hw, ok, hp, pok, fun r1 H1 s1 h1 => ?_⟩
  intro x dx hx hdx hne
  have sx : Same H1 (upd (upd H1 dx (.own x)) x (.ins (He.ga K "Rows") dx [])) := Same.mut (same_upd hdx) hx
  refine ⟨_, _, _, _, rfl, x, dx, H1, W, posts, tiedL W posts, rfl, upd_same, sx, hx, hw.same s1, ok, hp.same s1, h1.any, ordO_nd pok, h3, fun H2 s2 hR => ⟨rfl, ?_⟩⟩
  have hR : RowsAt K H2 x W posts (ordO W posts) := hR
  obtain ⟨dx', vw, vp, vo, va, h0, _⟩ := hR.ex
  obtain ⟨l1, l2⟩ := leastW_spec ok pok
  refine ⟨_, rfl, x, dx', _, rfl, h0, rfl, _, _, rfl, x, W, posts, ordO W posts, rfl, hR, ok, rfl, pok.ne, h4, by omega, fun m hm1 hm2 => ?_⟩
  have em := leastW_is ok pok hm1 hm2
  subst em
  intro H3 s3
  refine ⟨_, rfl, _, rfl, x, dx', _, rfl, s3 _ _ h0, rfl, _, rfl, _, rfl, _, _, _, rfl, x, W, posts, ordO W posts, leastW W posts, mo, rfl, hR.same s3, ok, rfl, rfl, hmo, pok.ne, h4, by omega, ordO_nd pok, ordO_lt pok, fun fr hf1 hf2 r H4 s4 h4 => ⟨sz2, fun p hp => ?_⟩⟩
  refine q fr hf1 hf2 _ _ ((((s1.trans s2).trans s3).trans s4).trans (same_upd hp)) ?_
  refine .tup upd_same (.cons (.int _) (.cons ((h4.back ((s1.trans s2).trans s3)).same (same_upd hp)) .nil))
def spLeastRow (K : PySem.W.Frag) : Sp := fun vs H Q _ => ∃ v c, vs = [v, c] ∧ ∃ (W : Web) (posts : List Nat), Is Any H v (webD W) ∧ WOk W ∧ Is Any H c (natsD posts) ∧ POk W posts ∧
  ∀ r, r ∈ leastR W posts → Gives (.tuple [.int (leastW W posts), tupD (tellL W posts r)]) H Q
-- least_row: 0=web 1=posts 2=weight 3=rows
theorem sc_least_row : FnScope ["web", "posts", "weight", "rows"] ["web", "posts"] (defScope sLeastRow) := ⟨rfl, rfl, rfl, by decide +kernel, rfl, by decide +kernel, by decide +kernel⟩
theorem ok_least_row (T : Tx K mg) : DefOk P w K mg base "least_row" 5 ["web", "posts"] (spLeastRow K) := by
  have O_least_rows := ok_least_rows (P := P) (w := w) (base := base) T
  refine DefOk.mk' T.g_least_row (fn_ok T.d_least_row sc_least_row (fun _ _ _ _ _ _ us hl => match us, hl with | [_, _], _ => rfl) (fun vs H Q E h => ?_) (fun cdv A outer s H vs Q E hr h => ?_))
  · obtain ⟨_, _, rfl, _⟩ := h
    rfl
  have hu := hu_of hr
  obtain ⟨v0, v1, rfl, h⟩ := h
  refine ⟨_, (pss_cons (ps_asg (pcall O_least_rows (hr.mono (by decide)) (by rfl) (pa_cons (pv 0) (pa_cons (pv 1) (pa_cons pe_int pa_nil)))) (pg_tup rfl (pgs_cons (pg_name (i := 2) sc_least_row.nd rfl (.inl rfl) (.inl rfl)) (pgs_cons (pg_name (i := 3) sc_least_row.nd rfl (.inl rfl) (.inl rfl)) pgs_nil))))
     (pss_one (ps_ret (pe_tup (pa_cons (pv 2) (pa_cons (pe_ix ix_list (pv 3) pe_int (fun _ _ => rfl)) pa_nil)))))), ?_⟩
  obtain ⟨W, posts, hw, ok, hp, pok, q⟩ := h
  refine ⟨_, rfl, _, rfl, _, _, _, rfl, W, posts, some 1, hw, ok, hp, pok, rfl, .inr rfl, fun fr hf1 hf2 r H1 s1 h1 => ?_⟩
  obtain ⟨a, xs, rfl, ha, hx⟩ := is_tuple h1
  cases hx with
  | cons b1 b2 =>
    cases b2 with
    | cons c1 c2 =>
      cases c2
      cases b1
      obtain ⟨b, ys, rfl, _, hb, hy⟩ := is_list c1
      have hne : fr ≠ [] := by
        rcases hf2 with h | h
        · intro e
          subst e
          exact leastR_ne ok pok h.symm.eq_nil
        · exact h.2
      cases fr with
      | nil => exact absurd rfl hne
      | cons r fr =>
        cases hy with
        | cons d1 d2 =>
          refine ⟨a, _, rfl, SqT.of ha, rfl, _, _, rfl, _, _, rfl, rfl, _, rfl, _, rfl, b, _, 0, _, rfl, rfl, SqL.of hb, ix_nat (n := 0) rfl, sz2, fun p hp => ?_⟩
          exact q r (hf1 r (List.mem_cons_self ..)) _ _ (s1.trans (same_upd hp)) (.tup upd_same (.cons (.int _) (.cons (d1.same (same_upd hp)) .nil)))
def spCountLeast (K : PySem.W.Frag) : Sp := fun vs H Q _ => ∃ v c, vs = [v, c] ∧ ∃ (W : Web) (posts : List Nat), Is Any H v (webD W) ∧ WOk W ∧ Is Any H c (natsD posts) ∧ POk W posts ∧ GivesI (leastR W posts).length H Q
-- count_least: 0=web 1=posts
theorem sc_count_least : FnScope ["web", "posts"] ["web", "posts"] (defScope sCountLeast) := ⟨rfl, rfl, rfl, by decide +kernel, rfl, by decide +kernel, by decide +kernel⟩
theorem ok_count_least (T : Tx K mg) : DefOk P w K mg base "count_least" 5 ["web", "posts"] (spCountLeast K) := by
  have O_least_rows := ok_least_rows (P := P) (w := w) (base := base) T
  refine DefOk.mk' T.g_count_least (fn_ok T.d_count_least sc_count_least (fun _ _ _ _ _ _ us hl => match us, hl with | [_, _], _ => rfl) (fun vs H Q E h => ?_) (fun cdv A outer s H vs Q E hr h => ?_))
  · obtain ⟨_, _, rfl, _⟩ := h
    rfl
  have hu := hu_of hr
  obtain ⟨v0, v1, rfl, h⟩ := h
  refine ⟨_, (pss_one (ps_ret (pe_callB call_len_seq (by rfl) T.f_len (by decide +kernel) (pa_cons (pe_ix ix_tup (pcall O_least_rows (hr.mono (by decide)) (by rfl) (pa_cons (pv 0) (pa_cons (pv 1) (pa_cons pe_non pa_nil)))) pe_int (fun _ _ => rfl)) pa_nil)))), ?_⟩
  obtain ⟨W, posts, hw, ok, hp, pok, q⟩ := h
  refine ⟨_, rfl, _, rfl, _, _, _, rfl, W, posts, none, hw, ok, hp, pok, rfl, .inl rfl, fun fr hf1 hf2 r H1 s1 h1 => ?_⟩
  obtain ⟨a, xs, rfl, ha, hx⟩ := is_tuple h1
  cases hx with
  | cons b1 b2 =>
    cases b2 with
    | cons c1 c2 =>
      cases c2
      cases b1
      obtain ⟨b, ys, rfl, _, hb, hy⟩ := is_list c1
      refine ⟨a, _, 1, _, rfl, rfl, SqT.of ha, rfl, b, _, rfl, .inl (SqL.of hb), ?_⟩
      rw [hy.map_len]
      rcases hf2 with h | h
      · rw [h.length_eq]
        exact q _ s1
      · cases h.1
/-- by how many least rows a tie is cut -/
noncomputable def oftenL (W : Web) (posts : List Nat) (t : Tie) : Nat := ((leastR W posts).filter fun r => fR (ordO W posts) posts r t.1 != fR (ordO W posts) posts r t.2.1).length
def spTimesCut (K : PySem.W.Frag) : Sp := fun vs H Q _ => ∃ v c, vs = [v, c] ∧ ∃ (W : Web) (posts : List Nat), Is Any H v (webD W) ∧ WOk W ∧ Is Any H c (natsD posts) ∧ POk W posts ∧ Gives (.tuple [natsD (W.ts.map (oftenL W posts)), natD (leastR W posts).length]) H Q
-- times_cut: 0=web 1=posts 2=rows 3=times 4=row 5=a 6=b 7=weight
theorem sc_times_cut : FnScope ["web", "posts", "rows", "times", "row", "a", "b", "weight"] ["web", "posts"] (defScope sTimesCut) := ⟨rfl, rfl, rfl, by decide +kernel, rfl, by decide +kernel, by decide +kernel⟩
theorem ok_times_cut (T : Tx K mg) : DefOk P w K mg base "times_cut" 5 ["web", "posts"] (spTimesCut K) := by
  have O_least_rows := ok_least_rows (P := P) (w := w) (base := base) T
  refine DefOk.mk' T.g_times_cut (fn_ok T.d_times_cut sc_times_cut (fun _ _ _ _ _ _ us hl => match us, hl with | [_, _], _ => rfl) (fun vs H Q E h => ?_) (fun cdv A outer s H vs Q E hr h => ?_))
  · obtain ⟨_, _, rfl, _⟩ := h
    rfl
  have hu := hu_of hr
  obtain ⟨v0, v1, rfl, h⟩ := h
  refine ⟨_, (pss_cons (ps_set (i := 2) sc_times_cut.nd rfl (.inr rfl) (pe_ix ix_tup (pcall O_least_rows (hr.mono (by decide)) (by rfl) (pa_cons (pv 0) (pa_cons (pv 1) (pa_cons pe_non pa_nil)))) pe_int (fun _ _ => rfl)))
     (pss_cons (ps_setLc (i := 3) (own := [("a", 5), ("b", 6), ("weight", 7)]) (g := (gTup K 3 (gCons (gName 5) (gCons (gName 6) (gCons (gName 7) gNil))))) (tt := tYes) (te := (tCB (qLen K) (tCons (tLc (iList K (tVar 2)) (gName 4) (tTest (tOp rNe (tOp (rIxT K) (tVar 4) (tVar 5)) (tOp (rIxT K) (tVar 4) (tVar 6)))) (tVar 4) [4]) tNil))) rfl sc_times_cut.nd rfl rfl (sw_true rfl rfl rfl (by decide +kernel)) (pi_tup (pe_ix ix_tup (pv 0) pe_int (fun _ _ => rfl))) (blkOk_by (N := ["web", "posts", "rows", "times", "row", "a", "b", "weight"]) (sc := defScope sTimesCut) (by decide +kernel)) (fun _ _ _ _ _ => (pg_tup rfl (pgs_cons (pg_name (i := 5) sc_times_cut.nd rfl (.inr rfl) (.inl rfl)) (pgs_cons (pg_name (i := 6) sc_times_cut.nd rfl (.inr rfl) (.inl rfl)) (pgs_cons (pg_name (i := 7) sc_times_cut.nd rfl (.inl rfl) (.inr rfl)) pgs_nil))))) (fun _ _ _ _ _ => pts_nil) (fun _ _ _ _ _ => (pe_callB call_len_seq (by rfl) T.f_len (by decide +kernel) (pa_cons (pe_lc (own := [("row", 4)]) (g := (gName 4)) (tt := (tTest (tOp rNe (tOp (rIxT K) (tVar 4) (tVar 5)) (tOp (rIxT K) (tVar 4) (tVar 6))))) (te := (tVar 4)) (wi := (iList K (tVar 2))) rfl sc_times_cut.nd (pi_list (pv 2)) (blkOk_by (by rfl)) (fun _ _ _ _ _ => (pg_name (i := 4) sc_times_cut.nd rfl (.inl rfl) (.inr rfl))) (fun _ _ _ _ _ => (pts_one (pt_cmpR op_ne (pe_ix ix_tup (pv 4) (pv 5) (fun _ _ => rfl)) (pe_ix ix_tup (pv 4) (pv 6) (fun _ _ => rfl)) (nomark _)))) (fun _ _ _ _ _ => (pv 4))) pa_nil))))
     (pss_one (ps_ret (pe_tup (pa_cons (pv 3) (pa_cons (pe_callB call_len_seq (by rfl) T.f_len (by decide +kernel) (pa_cons (pv 2) pa_nil)) pa_nil))))))), ?_⟩
  obtain ⟨W, posts, hw, ok, hp, pok, q⟩ := h
  refine ⟨_, rfl, _, rfl, _, _, _, rfl, W, posts, none, hw, ok, hp, pok, rfl, .inl rfl, fun fr hf1 hf2 r H1 s1 h1 => ?_⟩
  obtain ⟨a, xs, rfl, ha, hx⟩ := is_tuple h1
  have hpm : fr.Perm (leastR W posts) := by
    rcases hf2 with h | h
    · exact h
    · cases h.1
  have lr := leastR_len ok pok
  rw [← hpm.length_eq] at lr
  cases hx with
  | cons b1 b2 =>
    cases b2 with
    | cons c1 c2 =>
      cases c2
      cases b1
      obtain ⟨b, ys, rfl, _, hb, hy⟩ := is_list c1
      obtain ⟨pw, pq, xs, rfl, hw1, hw2, hx⟩ := is_web hw
      have ln := ok.len
      refine ⟨a, _, 1, _, rfl, rfl, SqT.of ha, rfl, _, rfl, pw, _, 1, .ref pq, rfl, rfl, SqT.of (s1 _ _ hw1), rfl, pq, rfl, ⟨_, SqT.of (s1 _ _ hw2)⟩, fun D hD => ?_⟩
      refine lc_T W.ts tieD (fun t => some (natD (oftenL W posts t))) (s1 _ _ hw2) (hx.same s1) hD (by omega) ?_ ?_
      · intro x y H2 hy0 s2 hty Kont Skip k1 k2
        obtain ⟨c, rfl, hc⟩ := is_tie hty
        have g := ok.good.1 y hy0
        refine ⟨c, _, rfl, SqT.of hc, rfl, _, _, rfl, _, _, rfl, _, _, rfl, rfl, rfl, ?_⟩
        have hb2 := s2 _ _ hb
        refine ⟨_, rfl, b, rfl, ⟨_, SqL.of hb2⟩, fun D2 hD2 => ?_⟩
        refine lc_L fr (fun r => tupD (tellL W posts r)) (fun r => if (fR (ordO W posts) posts r y.1 != fR (ordO W posts) posts r y.2.1) = true then some (tupD (tellL W posts r)) else none) hb2 (hy.same s2) hD2 (by omega) ?_ ?_
        · intro u r H3 hr s3 hu Kont2 Skip2 k3 k4
          obtain ⟨e, rfl, he⟩ := is_tnats hu
          have tl := tell_len W posts r
          refine ⟨rfl, _, rfl, _, rfl, e, _, _, _, rfl, rfl, SqT.of he, at_nats (by omega), _, rfl, _, rfl, e, _, _, _, rfl, rfl, SqT.of he, at_nats (by omega), rfl, _, rfl, ?_⟩
          rw [ne_nats, tell_get (by omega), tell_get g.2.1]
          exact ifB (fun e2 => ⟨_, rfl, k3 _ _ _ (Same.refl _) (if_pos e2) (is_tnats' he)⟩) fun e2 => k4 _ (Same.refl _) (if_neg (by rw [e2]; exact Bool.false_ne_true))
        · intro H3 s3 h3
          rw [filterMap_if] at h3
          obtain ⟨e, es, e1, _, he, hes⟩ := is_list h3
          cases e1
          refine ⟨_, _, rfl, .inl (SqL.of he), ?_⟩
          rw [hes.map_len]
          have ep : (fr.filter fun r => fR (ordO W posts) posts r y.1 != fR (ordO W posts) posts r y.2.1).length = oftenL W posts y := (hpm.filter _).length_eq
          rw [ep]
          exact k1 _ _ _ s3 rfl (.int _)
      · intro H2 s2 h2
        rw [filterMap_some] at h2
        refine ⟨_, rfl, _, rfl, b, _, rfl, .inl (SqL.of (s2 _ _ hb)), sz2, fun p hp => ?_⟩
        rw [hy.map_len, hpm.length_eq]
        refine q _ _ ((s1.trans s2).trans (same_upd hp)) (.tup upd_same (.cons (by show Is _ _ _ (.list ((W.ts.map (oftenL W posts)).map natD)); rw [List.map_map]; exact (h2.back s1).same (same_upd hp)) (.cons (.int _) .nil)))
def spAlwaysCut (K : PySem.W.Frag) : Sp := fun vs H Q _ => ∃ v c, vs = [v, c] ∧ ∃ (W : Web) (posts : List Nat), Is Any H v (webD W) ∧ WOk W ∧ Is Any H c (natsD posts) ∧ POk W posts ∧ Gives (.list ((W.ts.filter fun t => oftenL W posts t == (leastR W posts).length).map fun t => pairD (pr t))) H Q
-- always_cut: 0=web 1=posts 2=times 3=many 4=tie 5=often
theorem sc_always_cut : FnScope ["web", "posts", "times", "many", "tie", "often"] ["web", "posts"] (defScope sAlwaysCut) := ⟨rfl, rfl, rfl, by decide +kernel, rfl, by decide +kernel, by decide +kernel⟩
theorem ok_always_cut (T : Tx K mg) : DefOk P w K mg base "always_cut" 6 ["web", "posts"] (spAlwaysCut K) := by
  have O_times_cut := ok_times_cut (P := P) (w := w) (base := base) T
  refine DefOk.mk' T.g_always_cut (fn_ok T.d_always_cut sc_always_cut (fun _ _ _ _ _ _ us hl => match us, hl with | [_, _], _ => rfl) (fun vs H Q E h => ?_) (fun cdv A outer s H vs Q E hr h => ?_))
  · obtain ⟨_, _, rfl, _⟩ := h
    rfl
  have hu := hu_of hr
  obtain ⟨v0, v1, rfl, h⟩ := h
  refine ⟨_, (pss_cons (ps_asg (pcall O_times_cut (hr.mono (by decide)) (by rfl) (pa_cons (pv 0) (pa_cons (pv 1) pa_nil))) (pg_tup rfl (pgs_cons (pg_name (i := 2) sc_always_cut.nd rfl (.inl rfl) (.inl rfl)) (pgs_cons (pg_name (i := 3) sc_always_cut.nd rfl (.inr rfl) (.inl rfl)) pgs_nil))))
     (pss_one (ps_ret (pe_lc (own := [("tie", 4), ("often", 5)]) (g := (gTup K 2 (gCons (gName 4) (gCons (gName 5) gNil)))) (tt := (tTest (tOp rEq (tVar 5) (tVar 3)))) (te := (tSl (rSlT K) (tVar 4) tNoPart (tPart (tC (.int 2))))) rfl sc_always_cut.nd (pi_zipx false true (by rfl) T.f_zip (pa_cons (pe_ix ix_tup (pv 0) pe_int (fun _ _ => rfl)) (pa_cons (pv 2) pa_nil))) (blkOk_by (N := ["web", "posts", "times", "many", "tie", "often"]) (sc := defScope sAlwaysCut) (by decide +kernel)) (fun _ _ _ _ _ => (pg_tup rfl (pgs_cons (pg_name (i := 4) sc_always_cut.nd rfl (.inl rfl) (.inr rfl)) (pgs_cons (pg_name (i := 5) sc_always_cut.nd rfl (.inl rfl) (.inr rfl)) pgs_nil)))) (fun _ _ _ _ _ => (pts_one (pt_cmpR op_eq (pv 5) (pv 3) (nomark _)))) (fun _ _ _ _ _ => (pe_slice sl_tup (pv 4) po_none (po_some pe_int))))))), ?_⟩
  obtain ⟨W, posts, hw, ok, hp, pok, q⟩ := h
  refine ⟨_, rfl, _, rfl, _, _, rfl, W, posts, hw, ok, hp, pok, fun r H1 s1 h1 => ?_⟩
  obtain ⟨a, xs, rfl, ha, hx⟩ := is_tuple h1
  cases hx with
  | cons b1 b2 =>
    cases b2 with
    | cons c1 c2 =>
      cases c2
      cases c1
      obtain ⟨b, rfl, _, hb⟩ := is_nats b1
      obtain ⟨pw, pq, xs, rfl, hw1, hw2, hx⟩ := is_web hw
      have ln := ok.len
      have el := hx.map_len
      refine ⟨a, _, rfl, SqT.of ha, rfl, _, _, rfl, _, _, rfl, rfl, _, rfl, pw, _, 1, .ref pq, rfl, rfl, SqT.of (s1 _ _ hw1), rfl, _, rfl, pq, b, _, _, rfl, SqT.of (s1 _ _ hw2), SqL.of hb, fun D hD => ?_⟩
      refine lc_M (GG := fun H => SqB false K H pq xs ∧ SqB true K H b ((W.ts.map (oftenL W posts)).map nv)) W.ts (fun t => if (oftenL W posts t == (leastR W posts).length) = true then some (pairD (pr t)) else none) (by rw [← el]; exact walk_zipx false true (by rw [List.length_map, List.length_map, el])) hD (by omega) (fun H s => ⟨SqT.of (s _ _ (s1 _ _ hw2)), SqL.of (s _ _ hb)⟩) ypair_same ?_ ?_
      · rintro i _ y H2 H3 hi s2 ⟨Tt, a1, b1, rfl, hT, rfl, e1, e2⟩ Kont Skip k1 k2
        have e1 : xs[i]? = some a1 := e1
        have e2 : ((W.ts.map (oftenL W posts)).map nv)[i]? = some b1 := e2
        rw [List.getElem?_map, List.getElem?_map, hi] at e2
        cases e2
        obtain ⟨y', e3, h3⟩ := hx.map_get e1
        rw [hi] at e3
        cases e3
        have sT := same_upd (o := .tup [a1, nv (oftenL W posts y)]) hT
        obtain ⟨c, rfl, hc⟩ := is_tie (((h3.same s1).same s2).same sT)
        refine ⟨Tt, _, rfl, SqT.of upd_same, rfl, _, _, rfl, _, _, rfl, rfl, rfl, _, rfl, _, rfl, rfl, _, rfl, ?_⟩
        rw [eq_nats]
        refine ifB (fun e => ?_) fun e => k2 _ (Same.refl _) (if_neg (by rw [e]; exact Bool.false_ne_true))
        exact ⟨_, rfl, 2, rfl, c, _, rfl, SqT.of hc, cut2n, fun p hp => k1 _ _ _ (same_upd hp) (if_pos e) (is_pair' (p := pr y) upd_same)⟩
      · intro H2 s2 h2
        rw [filterMap_if] at h2
        exact q _ _ (s1.trans s2) (h2.back s1)
end
end PW
set_option Elab.async false
set_option linter.all false
set_option maxRecDepth 100000
set_option maxHeartbeats 4000000
namespace PW
open PySem PySem.Spec PyProof.Rows L2
theorem nearI_snoc (ts : List Tie) (t : Tie) (v : Nat) : nearI (ts ++ [t]) v = nearI ts v ++ ((if t.1 = v then [(ts.length, t.2.1)] else []) ++ (if t.2.1 = v then [(ts.length, t.1)] else [])) := by
  unfold nearI
  rw [List.length_append, List.length_singleton, List.range_succ, List.flatMap_append, List.flatMap_cons, List.flatMap_nil, List.append_nil]
  congr 1
  · rw [List.flatMap_def, List.flatMap_def]
    congr 1
    refine List.map_congr_left fun i hi => ?_
    rw [List.getElem?_append_left (List.mem_range.mp hi)]
  · rw [List.getElem?_append_right (Nat.le_refl _), Nat.sub_self]
    rfl
theorem nearI_len : ∀ (ts : List Tie) (v : Nat), (nearI ts v).length ≤ 2 * ts.length := by
  intro ts v
  suffices h : ∀ n ts, ts.length = n → (nearI ts v).length ≤ 2 * ts.length from h _ ts rfl
  intro n
  induction n with
  | zero => intro ts h; rw [List.eq_nil_of_length_eq_zero h]; exact Nat.le_refl _
  | succ n ih =>
    intro ts h
    have hne : ts ≠ [] := fun e => by rw [e] at h; cases h
    rw [← List.dropLast_concat_getLast hne, nearI_snoc, List.length_append, List.length_append, List.length_append]
    have := ih ts.dropLast (by rw [List.length_dropLast]; omega)
    have e1 : (if (ts.getLast hne).1 = v then [(ts.dropLast.length, (ts.getLast hne).2.1)] else []).length ≤ 1 := by split <;> simp
    have e2 : (if (ts.getLast hne).2.1 = v then [(ts.dropLast.length, (ts.getLast hne).1)] else []).length ≤ 1 := by split <;> simp
    rw [List.length_singleton]
    omega
section
variable {P : Program} {w : World} {K : PySem.W.Frag} {mg : Str → Option Value} {base : Heap}
/-- a flow maker as it stands, but for the amounts at am -/
structure FlowB (K : PySem.W.Frag) (B : Hp) (x am : Addr) (W : Web) : Prop where
  ex : ∃ dx vt vn, B x = some (.ins (He.ga K "Flowing") dx [("ties", vt), ("near", vn), ("amounts", .ref am)]) ∧ Is Any B vt (.tuple (W.ts.map tieD)) ∧ Is Any B vn (.list ((List.range W.n).map fun v => .list ((nearI W.ts v).map pairD))) ∧ B am = none
theorem FlowB.same {B B' : Hp} {x am : Addr} {W : Web} (h : FlowB K B x am W) (s : Same B B') (hn : B' am = none) : FlowB K B' x am W := by
  obtain ⟨dx, vt, vn, h1, h2, h3, _⟩ := h.ex
  exact ⟨dx, vt, vn, s _ _ h1, h2.same s, h3.same s, hn⟩
def spFlowingInit (K : PySem.W.Frag) : Sp := fun vs H Q _ => ∃ s v, vs = [s, v] ∧ ∃ (x dx : Addr) (H0 : Hp) (W : Web), s = .ref x ∧ H x = some (.ins (He.ga K "Flowing") dx []) ∧ Same H0 H ∧ H0 x = none ∧ Is Any H0 v (webD W) ∧ WOk W ∧
  ∀ H' B am, Same H0 B → FlowB K B x am W → Same B H' → H0 am = none → H' am = some (.lst ((List.replicate W.ts.length (0 : Int)).map V.int)) → Q .non H'
-- Flowing.__init__: 0=self 1=web 2=place 3=number 4=tie
theorem sc_Flowing___init__ : FnScope ["self", "web", "place", "number", "tie"] ["self", "web"] (defScope sFlowingInit) := ⟨rfl, rfl, rfl, by decide +kernel, rfl, by decide +kernel, by decide +kernel⟩
theorem ok_Flowing___init__ (T : Tx K mg) : MakeOk P w K mg base "Flowing" (He.ga K "Flowing") 1 ["self", "web"] (spFlowingInit K) := by
  refine MakeOk.mk' T.g_Flowing T.k_Flowing (fn_ok T.d_Flowing___init__ sc_Flowing___init__ (fun _ _ _ _ _ _ us hl => match us, hl with | [_, _], _ => rfl) (fun vs H Q E h => ?_) (fun cdv A outer s H vs Q E hr h => ?_))
  · obtain ⟨_, _, rfl, _⟩ := h
    rfl
  have hu := hu_of hr
  obtain ⟨v0, v1, rfl, h⟩ := h
  refine ⟨_, (pss_cons (ps_fld (pv 0) (pe_ix ix_tup (pv 1) pe_int (fun _ _ => rfl)) rfl)
     (pss_cons (ps_fld (pv 0) (pe_lc (own := [("place", 2)]) (g := (gName 2)) (tt := tYes) (te := (tLst tNil)) rfl sc_Flowing___init__.nd (pi_range1 rfl T.f_range (pa_cons (pe_ix ix_tup (pv 1) pe_int (fun _ _ => rfl)) pa_nil)) (blkOk_by (N := ["self", "web", "place", "number", "tie"]) (sc := defScope sFlowingInit) (by decide +kernel)) (fun _ _ _ _ _ => (pg_name (i := 2) sc_Flowing___init__.nd rfl (.inl rfl) (.inr rfl))) (fun _ _ _ _ _ => pts_nil) (fun _ _ _ _ _ => (pe_lst pa_nil))) rfl)
     (pss_cons (ps_for PassesOwn.never rfl (pi_enumT (by rfl) T.f_enumerate (pa_cons (pe_ix ix_tup (pv 1) pe_int (fun _ _ => rfl)) pa_nil)) (pg_tup rfl (pgs_cons (pg_name (i := 3) sc_Flowing___init__.nd rfl (.inl rfl) (.inl rfl)) (pgs_cons (pg_name (i := 4) sc_Flowing___init__.nd rfl (.inl rfl) (.inl rfl)) pgs_nil)))
     (pss_cons (ps_expr (pe_bm PySem.F.plainAttrs_list PySem.F.slot_list_append PySem.F.type_list_append mt_append (pe_ix ix_list (pe_fld (pv 0) rfl) (pe_ix ix_tup (pv 4) pe_int (fun _ _ => rfl)) (fun _ _ => rfl)) (pa_cons (pe_tup (pa_cons (pv 3) (pa_cons (pe_ix ix_tup (pv 4) pe_int (fun _ _ => rfl)) pa_nil))) pa_nil)))
     (pss_one (ps_expr (pe_bm PySem.F.plainAttrs_list PySem.F.slot_list_append PySem.F.type_list_append mt_append (pe_ix ix_list (pe_fld (pv 0) rfl) (pe_ix ix_tup (pv 4) pe_int (fun _ _ => rfl)) (fun _ _ => rfl)) (pa_cons (pe_tup (pa_cons (pv 3) (pa_cons (pe_ix ix_tup (pv 4) pe_int (fun _ _ => rfl)) pa_nil))) pa_nil))))))
     (pss_one (ps_fld (pv 0) (pe_op op_rep (pe_lst (pa_cons pe_int pa_nil)) (pe_callB call_len_seq (by rfl) T.f_len (by decide +kernel) (pa_cons (pe_ix ix_tup (pv 1) pe_int (fun _ _ => rfl)) pa_nil))) rfl))))), ?_⟩
  obtain ⟨x, dx, H0, W, rfl, hx0, s0, hxn, hw, ok, q⟩ := h
  have n1 := ok.n1
  have ts1 := ok.len
  obtain ⟨pw, pq, xs, rfl, hw1, hw2, hx⟩ := is_web hw
  have elx := hx.map_len
  refine ⟨_, rfl, pw, _, 1, .ref pq, rfl, rfl, SqT.of (s0 _ _ hw1), rfl, _, rfl, x, _, dx, _, rfl, hx0, T.c_Flowing, T.n_Flowing_ties, by decide, ?_⟩
  have hx1 : upd H x (.ins (He.ga K "Flowing") dx (putF "ties" (.ref pq) [])) x = some (.ins (He.ga K "Flowing") dx [("ties", .ref pq)]) := upd_same
  have s1 := s0.mut (o := .ins (He.ga K "Flowing") dx (putF "ties" (.ref pq) [])) hxn
  generalize upd H x (.ins (He.ga K "Flowing") dx (putF "ties" (.ref pq) [])) = h1 at *
  refine ⟨_, rfl, pw, _, 0, nv W.n, rfl, rfl, SqT.of (s1 _ _ hw1), rfl, _, rfl, by omega, by omega, fun D hD => ?_⟩
  rw [Int.toNat_natCast]
  refine lc_fresh (.lst []) (n := W.n) walk_range hD (by omega) (fun _ _ => trivial) yfn_same (fun i x H1 H2 hi s1 y Kont Skip k1 => ?_) (fun h2 as hl hN s12 hD1 hA => ?_)
  · exact ⟨rfl, sz0, fun p hp => k1 p _ (same_upd hp) hp upd_same⟩
  refine ⟨_, rfl, x, _, dx, _, rfl, s12 _ _ hx1, T.c_Flowing, T.n_Flowing_near, by simp, ?_⟩
  have hx3 : upd h2 x (.ins (He.ga K "Flowing") dx (putF "near" (.ref D) [("ties", .ref pq)])) x = some (.ins (He.ga K "Flowing") dx [("ties", .ref pq), ("near", .ref D)]) := upd_same
  have xD : x ≠ D := fun e => by rw [← e, hx1] at hD; cases hD
  have xas : ∀ a ∈ as, a ≠ x := fun a ha e => by
    have := (hA a ha).1
    rw [e, hx1] at this
    cases this
  have s3 : Same (del h1 x) (upd h2 x (.ins (He.ga K "Flowing") dx (putF "near" (.ref D) [("ties", .ref pq)]))) := (del_same.trans s12).mut del_self
  have c3 : Cells h1 (upd h2 x (.ins (He.ga K "Flowing") dx (putF "near" (.ref D) [("ties", .ref pq)]))) D as (fun _ => []) :=
    ⟨by rw [upd_ne (Ne.symm xD)]; exact hD1, hD, hN, fun a ha => ⟨(hA a ha).1, (hA a ha).2.1⟩, fun v a e => by
      have ha := List.mem_of_getElem? e
      rw [upd_ne (xas a ha)]
      exact (hA a ha).2.2⟩
  generalize upd h2 x (.ins (He.ga K "Flowing") dx (putF "near" (.ref D) [("ties", .ref pq)])) = h3 at *
  have s0d : Same H0 (del h1 x) := same_del (o := .lst []) s1 hxn
  refine ⟨_, rfl, pw, _, 1, .ref pq, rfl, rfl, SqT.of (s3 _ _ (s0d _ _ hw1)), rfl, pq, _, rfl, SqT.of (s3 _ _ (s0d _ _ hw2)), ?_⟩
  refine for_M (GG := fun H => SqT K H pq xs) W.ts (by rw [← elx]; exact walk_enumT) (fun d σ H2 => ∃ x3 x4 : Option V, σ = [some (.ref x), some (.ref pw), none, x3, x4] ∧ Same (del h1 x) H2 ∧
    H2 x = some (.ins (He.ga K "Flowing") dx [("ties", .ref pq), ("near", .ref D)]) ∧
    ∃ L, Cells h1 H2 D as L ∧ ∀ v, v < as.length → IsAll (fun _ => False) H2 (L v) ((nearI d v).map pairD)) ⟨_, _, rfl, s3, hx3, _, c3, fun v _ => .nil⟩ (fun d σ H2 ⟨_, _, _, p, _⟩ => SqT.of (p _ _ (s0d _ _ hw2))) ?_ ?_
  · rintro d y r i _ _ H2 H3 e rfl ⟨x3, x4, rfl, s2, hx2, L, c2, iL⟩ ⟨Tt, a1, b1, rfl, hT, rfl, e1, e2⟩
    cases e1
    have e2 : xs[d.length]? = some b1 := e2
    have hy0 : y ∈ W.ts := by rw [e]; simp
    have g := ok.good.1 y hy0
    have hdl : d.length ≤ 200 := by
      have := congrArg List.length e
      rw [List.length_append] at this
      omega
    obtain ⟨y', e3, h3⟩ := hx.map_get e2
    have : y' = y := by
      rw [e, List.getElem?_append_right (Nat.le_refl _), Nat.sub_self] at e3
      cases e3
      rfl
    subst this
    have sT := same_upd (o := .tup [nv d.length, b1]) hT
    have s4 := s2.trans sT
    obtain ⟨c, rfl, hc⟩ := is_tie ((h3.same s0d).same s4)
    have c4 := c2.same sT
    obtain ⟨a2, e4, k4⟩ := c4.get (v := y'.1) (by omega)
    refine ⟨Tt, _, rfl, SqT.of upd_same, rfl, _, _, rfl, _, _, rfl, rfl, ?_⟩
    refine ⟨_, rfl, x, _, dx, _, .ref D, rfl, sT _ _ hx2, T.c_Flowing, T.n_Flowing_near, rfl, _, rfl, c, _, 0, nv y'.1, rfl, rfl, SqT.of hc, rfl, D, _, _, _, rfl, rfl, SqL.of c4.top, at_refs e4, list_ty k4, ?_⟩
    refine ⟨_, rfl, _, rfl, c, _, 1, nv y'.2.1, rfl, rfl, SqT.of hc, rfl, sz2, fun p hp => ?_⟩
    have sp := same_upd (o := .tup [nv d.length, nv y'.2.1]) hp
    have c5 := c4.same sp
    have ll := (iL _ (show y'.1 < as.length by omega)).map_len
    have la := nearI_len d y'.1
    refine ⟨a2, _, _, rfl, rfl, sp _ _ k4, smallLt (by omega), ?_⟩
    have ao := c2.off _ (List.mem_of_getElem? e4)
    have ax : a2 ≠ x := xas a2 (List.mem_of_getElem? e4)
    have an : del h1 x a2 = none := by rw [del_ne ax]; exact ao.1
    have c6 := c5.put (ys := L y'.1 ++ [.ref p]) e4
    have s6 := ((s4.trans sp).mut (o := .lst (L y'.1 ++ [.ref p])) an)
    have hx6 : upd (upd (upd H2 Tt (.tup [nv d.length, .ref c])) p (.tup [nv d.length, nv y'.2.1])) a2 (.lst (L y'.1 ++ [.ref p])) x = some (.ins (He.ga K "Flowing") dx [("ties", .ref pq), ("near", .ref D)]) := by rw [upd_ne (Ne.symm ax)]; exact sp _ _ (sT _ _ hx2)
    have nt1 := not_tup (sp _ _ k4)
    have iL6 : ∀ v, v < as.length → IsAll (fun _ => False) (upd (upd (upd H2 Tt (.tup [nv d.length, .ref c])) p (.tup [nv d.length, nv y'.2.1])) a2 (.lst (L y'.1 ++ [.ref p]))) (if v = y'.1 then L y'.1 ++ [.ref p] else L v) (((nearI d v) ++ (if y'.1 = v then [(d.length, y'.2.1)] else [])).map pairD) := fun v hv => by
      rw [List.map_append]
      by_cases e : v = y'.1
      · subst e
        rw [if_pos rfl, if_pos rfl]
        exact ((((iL _ hv).same sT).same sp).snoc (is_pair' (p := (d.length, y'.2.1)) upd_same)).upd (fun a h => h.elim) nt1
      · rw [if_neg e, if_neg (Ne.symm e), List.map_nil, List.append_nil]
        exact (((iL _ hv).same sT).same sp).upd (fun a h => h.elim) nt1
    have hc6 : upd (upd (upd H2 Tt (.tup [nv d.length, .ref c])) p (.tup [nv d.length, nv y'.2.1])) a2 (.lst (L y'.1 ++ [.ref p])) c = some (.tup [nv y'.1, nv y'.2.1, .int y'.2.2]) := by
      rw [upd_ne (fun e => nt1 _ (by rw [← e]; exact sp _ _ hc))]
      exact sp _ _ hc
    generalize upd (upd (upd H2 Tt (.tup [nv d.length, .ref c])) p (.tup [nv d.length, nv y'.2.1])) a2 (.lst (L y'.1 ++ [.ref p])) = H6 at *
    obtain ⟨a3, e5, k5⟩ := c6.get (v := y'.2.1) (by omega)
    rw [if_neg (show ¬ y'.2.1 = y'.1 by omega)] at k5
    refine ⟨_, rfl, x, _, dx, _, .ref D, rfl, hx6, T.c_Flowing, T.n_Flowing_near, rfl, _, rfl, c, _, 1, nv y'.2.1, rfl, rfl, SqT.of hc6, rfl, D, _, _, _, rfl, rfl, SqL.of c6.top, at_refs e5, list_ty k5, ?_⟩
    refine ⟨_, rfl, _, rfl, c, _, 0, nv y'.1, rfl, rfl, SqT.of hc6, rfl, sz2, fun p2 hp2 => ?_⟩
    have sp2 := same_upd (o := .tup [nv d.length, nv y'.1]) hp2
    have c7 := c6.same sp2
    have ll2 := (iL _ (show y'.2.1 < as.length by omega)).map_len
    have la2 := nearI_len d y'.2.1
    refine ⟨a3, _, _, rfl, rfl, sp2 _ _ k5, smallLt (by omega), ?_⟩
    have ao3 := c2.off _ (List.mem_of_getElem? e5)
    have ax3 : a3 ≠ x := xas a3 (List.mem_of_getElem? e5)
    have an3 : del h1 x a3 = none := by rw [del_ne ax3]; exact ao3.1
    have nt3 := not_tup (sp2 _ _ k5)
    refine ⟨_, _, rfl, (s6.trans sp2).mut an3, by rw [upd_ne (Ne.symm ax3)]; exact sp2 _ _ hx6, _, c7.put e5, fun v hv => ?_⟩
    rw [nearI_snoc, ← List.append_assoc, List.map_append]
    by_cases e6 : v = y'.2.1
    · subst e6
      have := iL6 _ hv
      rw [if_neg (show ¬ y'.2.1 = y'.1 by omega)] at this
      rw [if_pos rfl, if_pos rfl]
      exact ((this.same sp2).snoc (is_pair' (p := (d.length, y'.1)) upd_same)).upd (fun a h => h.elim) nt3
    · rw [if_neg e6, if_neg (Ne.symm e6), List.map_nil, List.append_nil]
      exact ((iL6 _ hv).same sp2).upd (fun a h => h.elim) nt3
  · rintro _ H2 ⟨x3, x4, rfl, s2, hx2, L, c2, iL⟩
    have hnear := c2.is (ds := fun v => (nearI W.ts v).map pairD) fun v hv => (iL v hv).imp fun a h => h.elim
    rw [hl] at hnear
    have s02 := s0d.trans s2
    refine ⟨sz1, fun l0 hl0 => ?_⟩
    have sl := same_upd (o := .lst [.int 0]) hl0
    have hl01 : upd H2 l0 (.lst [.int 0]) l0 = some (.lst [.int 0]) := upd_same
    have hx5 := sl _ _ hx2
    generalize upd H2 l0 (.lst [.int 0]) = H5 at *
    refine ⟨_, rfl, pw, _, 1, .ref pq, rfl, rfl, SqT.of (sl _ _ (s02 _ _ hw1)), rfl, pq, _, rfl, .inr (SqT.of (sl _ _ (s02 _ _ hw2))), l0, _, _, rfl, rfl, hl01, by omega, by omega, small (by simp; omega), fun am ham => ?_⟩
    rw [Int.toNat_natCast, elx]
    have e0 : (List.replicate W.ts.length [V.int 0]).flatten = (List.replicate W.ts.length (0 : Int)).map V.int := by simp
    rw [e0]
    have sa := same_upd (o := .lst ((List.replicate W.ts.length (0 : Int)).map V.int)) ham
    have amx : x ≠ am := fun e => by rw [← e, hx5] at ham; cases ham
    refine ⟨_, rfl, x, _, dx, _, rfl, sa _ _ hx5, T.c_Flowing, T.n_Flowing_amounts, by simp, ?_⟩
    refine q _ (upd H5 x (.ins (He.ga K "Flowing") dx [("ties", .ref pq), ("near", .ref D), ("amounts", .ref am)])) am ((s02.trans sl).mut hxn) ⟨dx, _, _, upd_same, ?_, ?_, ?_⟩ ?_ ?_ ?_
    · have h5 : IsAll Any H5 xs (W.ts.map tieD) := (hx.same s02).same sl
      exact .tup (by rw [upd_ne (fun e => by rw [e] at hw2; rw [hxn] at hw2; cases hw2)]; exact sl _ _ (s02 _ _ hw2)) (hx.same ((s02.trans sl).mut hxn))
    · exact ((hnear.same sl).upd (fun a q => q.ne hx1) (fun xs q => by rw [hx5] at q; cases q)).any
    · rw [upd_ne (Ne.symm amx)]; exact ham
    · intro a o h
      by_cases e : a = x
      · subst e
        rw [upd_same] at h
        cases h
        exact upd_same
      · rw [upd_ne e] at h ⊢
        exact sa _ _ h
    · exact (s02.trans sl).free ham
    · rw [upd_ne (Ne.symm amx)]; exact upd_same
end
end PW
set_option Elab.async false
set_option linter.all false
set_option maxRecDepth 100000
set_option maxHeartbeats 4000000
namespace PW
open PySem PySem.Spec PyProof.Rows L2
def optD : Option (Nat × Nat) → PyData
  | none => .none
  | some p => pairD p
theorem at_ints {l : List Int} {i : Nat} (h : i < l.length) : atI (l.map V.int) (i : Int) = some (.int (l.getD i 0)) := by
  refine atI_nat ?_
  rw [List.getElem?_map, List.getElem?_eq_getElem h]
  simp [List.getD_eq_getElem?_getD, List.getElem?_eq_getElem h]
theorem idx_snoc {M : List Nat} {u v : Nat} (h : v ∈ M) : (M ++ [u]).idxOf v = M.idxOf v := by rw [List.idxOf_append, if_pos h]
theorem idx_last {M : List Nat} {u : Nat} (h : u ∉ M) : (M ++ [u]).idxOf u = M.length := by rw [List.idxOf_append, if_neg h]; simp
theorem Came.snoc {ts : List Tie} {xs : List Int} {n : Nat} {src M : List Nat} {g : Nat → Option (Nat × Nat)} (c : Came ts xs n src M g) {u i h : Nat} (hu : u ∉ M) (hun : u < n) (hh : h ∈ M) (hn : (i, u) ∈ nearI ts h) (hr : 0 < roomI ts xs i h) :
    Came ts xs n src (M ++ [u]) (fun z => if z = u then some (i, h) else g z) := by
  refine ⟨nd_snoc c.nd hu, fun s hs => List.mem_append_left _ (c.src s hs), fun v hv => ?_, fun v hv hg => ?_, fun v hv j k hg => ?_⟩
  · rcases List.mem_append.mp hv with h | h
    · exact c.lt v h
    · rw [List.mem_singleton] at h; exact h ▸ hun
  · by_cases e : v = u
    · rw [if_pos e] at hg; cases hg
    · rw [if_neg e] at hg
      exact c.non v ((List.mem_append.mp hv).resolve_right (fun q => e (List.mem_singleton.mp q))) hg
  · by_cases e : v = u
    · subst e
      rw [if_pos rfl] at hg
      cases hg
      refine ⟨List.mem_append_left _ hh, ?_, hn, hr⟩
      rw [idx_snoc hh, idx_last hu]
      exact List.idxOf_lt_length_of_mem hh
    · rw [if_neg e] at hg
      have hvM := (List.mem_append.mp hv).resolve_right (fun q => e (List.mem_singleton.mp q))
      obtain ⟨h1, h2, h3, h4⟩ := c.step v hvM j k hg
      exact ⟨List.mem_append_left _ h1, by rw [idx_snoc h1, idx_snoc hvM]; exact h2, h3, h4⟩
theorem Came.len {ts : List Tie} {xs : List Int} {n : Nat} {src M : List Nat} {g : Nat → Option (Nat × Nat)} (c : Came ts xs n src M g) : M.length ≤ n := by
  have := nodup_length_le c.nd (b := List.range n) fun v hv => List.mem_range.mpr (c.lt v hv)
  rw [List.length_range] at this
  exact this
section
variable {P : Program} {w : World} {K : PySem.W.Frag} {mg : Str → Option Value} {base : Heap}
def spFlowingRoom (K : PySem.W.Frag) : Sp := fun vs H Q _ => ∃ s a b, vs = [s, a, b] ∧ ∃ (B : Hp) (x am : Addr) (W : Web) (xs : List Int) (i p : Nat), s = .ref x ∧ FlowB K B x am W ∧ Same B H ∧ H am = some (.lst (xs.map V.int)) ∧ a = nv i ∧ b = nv p ∧ i < W.ts.length ∧ xs.length = W.ts.length ∧
  GivesI (roomI W.ts xs i p) H Q
-- Flowing.room: 0=self 1=number 2=place 3=a 4=b 5=weight
theorem sc_Flowing_room : FnScope ["self", "number", "place", "a", "b", "weight"] ["self", "number", "place"] (defScope sFlowingRoom) := ⟨rfl, rfl, rfl, by decide +kernel, rfl, by decide +kernel, by decide +kernel⟩
theorem ok_Flowing_room (T : Tx K mg) : MethOk P w K mg base (He.ga K "Flowing") "room" 1 ["self", "number", "place"] (spFlowingRoom K) := by
  refine MethOk.mk' T.c_Flowing T.m_Flowing_room (fn_ok T.d_Flowing_room sc_Flowing_room (fun _ _ _ _ _ _ us hl => match us, hl with | [_, _, _], _ => rfl) (fun vs H Q E h => ?_) (fun cdv A outer s H vs Q E hr h => ?_))
  · obtain ⟨_, _, _, rfl, _⟩ := h
    rfl
  have hu := hu_of hr
  obtain ⟨v0, v1, v2, rfl, h⟩ := h
  refine ⟨_, (pss_cons (ps_asg (pe_ix ix_tup (pe_fld (pv 0) rfl) (pv 1) (fun _ _ => rfl)) (pg_tup rfl (pgs_cons (pg_name (i := 3) sc_Flowing_room.nd rfl (.inl rfl) (.inl rfl)) (pgs_cons (pg_name (i := 4) sc_Flowing_room.nd rfl (.inl rfl) (.inl rfl)) (pgs_cons (pg_name (i := 5) sc_Flowing_room.nd rfl (.inl rfl) (.inl rfl)) pgs_nil)))))
     (pss_one (ps_ret (pe_ifExp (pt_cmpR op_eq (pv 2) (pv 3) (nomark _)) (pe_op op_sub (pv 5) (pe_ix ix_list (pe_fld (pv 0) rfl) (pv 1) (fun _ _ => rfl))) (pe_op op_add (pv 5) (pe_ix ix_list (pe_fld (pv 0) rfl) (pv 1) (fun _ _ => rfl))))))), ?_⟩
  obtain ⟨B, x, am, W, xs, i, p, rfl, hB, sB, ham, rfl, rfl, hi, hl, q⟩ := h
  obtain ⟨dx, vt, vn, h0, h1, h2, h3⟩ := hB.ex
  obtain ⟨ta, tys, rfl, hta, htx⟩ := is_tuple h1
  obtain ⟨v, e1, hv⟩ := htx.map_at (List.getElem?_eq_getElem hi)
  obtain ⟨c, rfl, hc⟩ := is_tie (hv.same sB)
  refine ⟨_, rfl, x, _, dx, _, .ref ta, rfl, sB _ _ h0, T.c_Flowing, T.n_Flowing_ties, rfl, _, rfl, ta, _, _, _, rfl, rfl, SqT.of (sB _ _ hta), ix_nat e1, c, _, rfl, SqT.of hc, rfl, _, _, rfl, _, _, rfl, _, _, rfl, rfl, ?_⟩
  refine ⟨_, rfl, _, rfl, rfl, _, rfl, ?_⟩
  rw [eq_nats]
  have er : roomI W.ts xs i p = if p = W.ts[i].1 then W.ts[i].2.2 - xs.getD i 0 else W.ts[i].2.2 + xs.getD i 0 := by
    unfold roomI
    rw [List.getElem?_eq_getElem hi]
  rw [er] at q
  refine ifB (fun e => ?_) fun e => ?_
  · rw [if_pos (beq_iff_eq.mp e)] at q
    exact ⟨_, rfl, _, rfl, x, _, dx, _, .ref am, rfl, sB _ _ h0, T.c_Flowing, T.n_Flowing_amounts, rfl, _, rfl, am, _, _, _, rfl, rfl, SqL.of ham, at_ints (by omega), _, _, rfl, rfl, q H (Same.refl _)⟩
  · rw [if_neg (beq_eq_false_iff_ne.mp e)] at q
    exact ⟨_, rfl, _, rfl, x, _, dx, _, .ref am, rfl, sB _ _ h0, T.c_Flowing, T.n_Flowing_amounts, rfl, _, rfl, am, _, _, _, rfl, rfl, SqL.of ham, at_ints (by omega), _, _, rfl, rfl, q H (Same.refl _)⟩
def spFlowingAdd (K : PySem.W.Frag) : Sp := fun vs H Q _ => ∃ s a b c, vs = [s, a, b, c] ∧ ∃ (B : Hp) (x am : Addr) (W : Web) (xs : List Int) (i p : Nat) (m : Int), s = .ref x ∧ FlowB K B x am W ∧ Same B H ∧ H am = some (.lst (xs.map V.int)) ∧ a = nv i ∧ b = nv p ∧ c = .int m ∧ i < W.ts.length ∧ xs.length = W.ts.length ∧
  Q .non (upd H am (.lst ((addI W.ts xs m (i, p)).map V.int)))
-- Flowing.add: 0=self 1=number 2=place 3=more
theorem sc_Flowing_add : FnScope ["self", "number", "place", "more"] ["self", "number", "place", "more"] (defScope sFlowingAdd) := ⟨rfl, rfl, rfl, by decide +kernel, rfl, by decide +kernel, by decide +kernel⟩
theorem ok_Flowing_add (T : Tx K mg) : MethOk P w K mg base (He.ga K "Flowing") "add" 1 ["self", "number", "place", "more"] (spFlowingAdd K) := by
  refine MethOk.mk' T.c_Flowing T.m_Flowing_add (fn_ok T.d_Flowing_add sc_Flowing_add (fun _ _ _ _ _ _ us hl => match us, hl with | [_, _, _, _], _ => rfl) (fun vs H Q E h => ?_) (fun cdv A outer s H vs Q E hr h => ?_))
  · obtain ⟨_, _, _, _, rfl, _⟩ := h
    rfl
  have hu := hu_of hr
  obtain ⟨v0, v1, v2, v3, rfl, h⟩ := h
  refine ⟨_, (pss_one (ps_augS (pe_fld (pv 0) rfl) (pv 1) get_list (pe_ifExp (pt_cmpR op_eq (pv 2) (pe_ix ix_tup (pe_ix ix_tup (pe_fld (pv 0) rfl) (pv 1) (fun _ _ => rfl)) pe_int (fun _ _ => rfl)) (nomark _)) (pv 3) (pe_un un_neg (pv 3))) ip_add set_list)), ?_⟩
  obtain ⟨B, x, am, W, xs, i, p, m, rfl, hB, sB, ham, rfl, rfl, rfl, hi, hl, q⟩ := h
  obtain ⟨dx, vt, vn, h0, h1, h2, h3⟩ := hB.ex
  obtain ⟨ta, tys, rfl, hta, htx⟩ := is_tuple h1
  obtain ⟨v, e1, hv⟩ := htx.map_at (List.getElem?_eq_getElem hi)
  obtain ⟨c, rfl, hc⟩ := is_tie (hv.same sB)
  have er : addI W.ts xs m (i, p) = xs.set i (xs.getD i 0 + if p = W.ts[i].1 then m else -m) := by
    unfold addI
    rw [List.getElem?_eq_getElem hi]
  have ex : (xs.map V.int)[i]? = some (.int (xs.getD i 0)) := by
    rw [List.getElem?_map, List.getElem?_eq_getElem (by omega)]
    simp [List.getD_eq_getElem?_getD, List.getElem?_eq_getElem (show i < xs.length by omega)]
  refine ⟨_, rfl, x, _, dx, _, .ref am, rfl, sB _ _ h0, T.c_Flowing, T.n_Flowing_amounts, rfl, _, rfl, am, _, i, _, rfl, rfl, ham, ex, ?_⟩
  refine ⟨_, rfl, _, rfl, x, _, dx, _, .ref ta, rfl, sB _ _ h0, T.c_Flowing, T.n_Flowing_ties, rfl, _, rfl, ta, _, _, _, rfl, rfl, SqT.of (sB _ _ hta), ix_nat e1, c, _, 0, nv W.ts[i].1, rfl, rfl, SqT.of hc, rfl, rfl, _, rfl, ?_⟩
  rw [eq_nats]
  have fin : ∀ y : Int, y = (if p = W.ts[i].1 then m else -m) → Q .non (upd H am (.lst ((xs.map V.int).set i (.int (xs.getD i 0 + y))))) := by
    intro y hy
    rw [hy, ← List.map_set, ← er]
    exact q
  have hix : ixN (xs.map V.int).length (i : Int) = some i := ixN_at (by rw [List.length_map]; omega)
  refine ifB (fun e => ?_) fun e => ?_
  · exact ⟨_, rfl, _, _, rfl, rfl, am, _, _, _, rfl, rfl, ham, hix, fin m (by rw [if_pos (beq_iff_eq.mp e)])⟩
  · exact ⟨_, rfl, _, rfl, _, _, rfl, rfl, am, _, _, _, rfl, rfl, ham, hix, fin (-m) (by rw [if_neg (beq_eq_false_iff_ne.mp e)])⟩
def spFlowingWaysOn (K : PySem.W.Frag) : Sp := fun vs H Q _ => ∃ s v, vs = [s, v] ∧ ∃ (B : Hp) (x am : Addr) (W : Web) (xs : List Int) (src : List Nat), s = .ref x ∧ FlowB K B x am W ∧ Same B H ∧ H am = some (.lst (xs.map V.int)) ∧ Is Any H v (natsD src) ∧ WOk W ∧ xs.length = W.ts.length ∧ src.Nodup ∧ (∀ s ∈ src, s < W.n) ∧
  ∀ M g, Came W.ts xs W.n src M g → Shut W.ts xs M → ∀ c H' a, Same H H' → H c = none → H' c = some (.dK (mapD M a)) → (∀ v ∈ M, Is (fun _ => False) H' (a v) (optD (g v))) → Q (.ref c) H'
-- Flowing.ways_on: 0=self 1=sources 2=came 3=place 4=waiting 5=at 6=here 7=number 8=other
theorem sc_Flowing_ways_on : FnScope ["self", "sources", "came", "place", "waiting", "at", "here", "number", "other"] ["self", "sources"] (defScope sFlowingWaysOn) := ⟨rfl, rfl, rfl, by decide +kernel, rfl, by decide +kernel, by decide +kernel⟩
theorem ok_Flowing_ways_on (T : Tx K mg) : MethOk P w K mg base (He.ga K "Flowing") "ways_on" 2 ["self", "sources"] (spFlowingWaysOn K) := by
  have O_Flowing_room := ok_Flowing_room (P := P) (w := w) (base := base) T
  refine MethOk.mk' T.c_Flowing T.m_Flowing_ways_on (fn_ok T.d_Flowing_ways_on sc_Flowing_ways_on (fun _ _ _ _ _ _ us hl => match us, hl with | [_, _], _ => rfl) (fun vs H Q E h => ?_) (fun cdv A outer s H vs Q E hr h => ?_))
  · obtain ⟨_, _, rfl, _⟩ := h
    rfl
  have hu := hu_of hr
  obtain ⟨v0, v1, rfl, h⟩ := h
  refine ⟨_, (pss_cons (ps_set (i := 2) sc_Flowing_ways_on.nd rfl (.inl rfl) (pe_callTy (call_dictP rfl) (by rfl) T.f_dict (by decide +kernel) (pa_cons (pe_lc (own := [("place", 3)]) (g := (gName 3)) (tt := tYes) (te := (tTup (tCons (tVar 3) (tCons (tC .non) tNil)))) rfl sc_Flowing_ways_on.nd (pi_list (pv 1)) (blkOk_by (N := ["self", "sources", "came", "place", "waiting", "at", "here", "number", "other"]) (sc := defScope sFlowingWaysOn) (by decide +kernel)) (fun _ _ _ _ _ => (pg_name (i := 3) sc_Flowing_ways_on.nd rfl (.inl rfl) (.inr rfl))) (fun _ _ _ _ _ => pts_nil) (fun _ _ _ _ _ => (pe_tup (pa_cons (pv 3) (pa_cons pe_non pa_nil))))) pa_nil)))
     (pss_cons (ps_set (i := 4) sc_Flowing_ways_on.nd rfl (.inl rfl) (pe_callTy (call_listD rfl) (by rfl) T.f_list (by decide +kernel) (pa_cons (pv 2) pa_nil)))
     (pss_cons (ps_set (i := 5) sc_Flowing_ways_on.nd rfl (.inl rfl) pe_int)
     (pss_cons (ps_while PassesOwn.never (pt_cmpR op_lt (pv 5) (pe_callB call_len_seq (by rfl) T.f_len (by decide +kernel) (pa_cons (pv 4) pa_nil)) (nomark _))
     (pss_cons (ps_set (i := 6) sc_Flowing_ways_on.nd rfl (.inl rfl) (pe_ix ix_list (pv 4) (pv 5) (fun _ _ => rfl)))
     (pss_cons (ps_aug (i := 5) sc_Flowing_ways_on.nd rfl (.inl rfl) pe_int ip_add)
     (pss_one (ps_for PassesOwn.never rfl (pi_list (pe_ix ix_list (pe_fld (pv 0) rfl) (pv 6) (fun _ _ => rfl))) (pg_tup rfl (pgs_cons (pg_name (i := 7) sc_Flowing_ways_on.nd rfl (.inl rfl) (.inl rfl)) (pgs_cons (pg_name (i := 8) sc_Flowing_ways_on.nd rfl (.inl rfl) (.inl rfl)) pgs_nil)))
     (pss_one (ps_if (PW.pt (pw_and (pt_cmp (pc_dnotin hu (pv 8) (pv 2))) (pw_and1 (pt_cmpR op_gt (pmeth O_Flowing_room (hr.mono (by decide)) (pv 0) (pa_cons (pv 7) (pa_cons (pv 6) pa_nil))) pe_int (nomark _)))))
     (pss_cons (ps_dput hu (pv 2) (pv 8) (pe_tup (pa_cons (pv 7) (pa_cons (pv 6) pa_nil))) rfl)
     (pss_one (ps_expr (pe_bm PySem.F.plainAttrs_list PySem.F.slot_list_append PySem.F.type_list_append mt_append (pv 4) (pa_cons (pv 8) pa_nil)))))
     pss_nil)))))))
     (pss_one (ps_ret (pv 2))))))), ?_⟩
  obtain ⟨B, x, am, W, xs, src, rfl, hB, sB, ham, hsrc, ok, hl, nd, hlt, q⟩ := h
  have n1 := ok.n1
  obtain ⟨dx, vt, vn, h0, h1, h2, h3⟩ := hB.ex
  obtain ⟨sa, rfl, _, hsa⟩ := is_nats hsrc
  obtain ⟨na, nys, rfl, _, hna, hnx⟩ := is_list h2
  have c0 : Came W.ts xs W.n src src (fun _ => none) := ⟨nd, fun s h => h, hlt, fun v h _ => h, fun v h i k e => nomatch e⟩
  have sl := c0.len
  refine ⟨_, rfl, sa, rfl, ⟨_, SqL.of hsa⟩, fun D hD => ?_⟩
  refine lc_L src natD (fun v => some (.tuple [natD v, .none])) hsa (isAll_nats (φ := Any).mpr rfl) hD (by omega) ?_ ?_
  · intro z y H5 _ s5 hy Kont Skip k1 k2
    cases hy
    exact ⟨rfl, _, rfl, sz2, fun p hp => k1 _ _ _ (same_upd hp) rfl (.tup upd_same (.cons (.int _) (.cons .non .nil)))⟩
  intro H5 s5 h5
  rw [filterMap_some] at h5
  obtain ⟨a5, ps5, e5, h5a, h5b⟩ := dictP_is (K := K) (key := fun v => v) (fun _ => .non) (fun _ => .none) h5 (fun a _ x h => by cases h; rfl)
  cases e5
  refine ⟨_, ps5, _, rfl, h5a, h5b, fun c hc => ?_⟩
  rw [mapD_merge0 src (fun _ => .non) nd]
  have s6 := s5.trans (same_upd (o := .dK (mapD src fun _ => V.non)) hc)
  have hc0 : H c = none := s5.free hc
  have hc6 : upd H5 c (.dK (mapD src fun _ => V.non)) c = some (.dK (mapD src fun _ => V.non)) := upd_same
  generalize upd H5 c (.dK (mapD src fun _ => V.non)) = H6 at *
  refine ⟨_, rfl, c, _, rfl, .inl hc6, fun wq hw => ?_⟩
  have ek : (mapD src fun _ => V.non).map (fun kv => kV kv.1) = src.map nv := by unfold mapD; rw [List.map_map]; rfl
  rw [ek]
  have hw0 : H wq = none := s6.free hw
  have wc : wq ≠ c := fun e => by rw [e, hc6] at hw; cases hw
  let WI : Nat → L2.St → Hp → Prop := fun k σ H2 => ∃ (M : List Nat) (g : Nat → Option (Nat × Nat)) (a : Nat → V) (k0 : Nat) (x6 x7 x8 : Option V), σ = [some (.ref x), some (.ref sa), some (.ref c), none, some (.ref wq), some (nv k0), x6, x7, x8] ∧ Same H H2 ∧ H2 c = some (.dK (mapD M a)) ∧ H2 wq = some (.lst (M.map nv)) ∧
    (∀ v ∈ M, Is (fun _ => False) H2 (a v) (optD (g v))) ∧ Came W.ts xs W.n src M g ∧ (∀ j v, j < k0 → M[j]? = some v → ∀ i u, (i, u) ∈ nearI W.ts v → u ∉ M → roomI W.ts xs i v ≤ 0) ∧ k0 ≤ M.length ∧ k = W.n - k0
  refine ⟨WI, ⟨_, src, _, _, 0, _, _, _, rfl, s6.trans (same_upd hw), by rw [upd_ne (Ne.symm wc)]; exact hc6, upd_same, fun v hv => .non, c0, fun j v hj => absurd hj (Nat.not_lt_zero _), Nat.zero_le _, rfl⟩, ?_⟩
  rintro k _ H2 ⟨M, g, a, k0, x6, x7, x8, rfl, s2, hc2, hW, ha, ce, clo, hk0, rfl⟩
  have ml := ce.len
  refine ⟨_, rfl, _, rfl, wq, _, rfl, .inl (SqL.of hW), _, _, rfl, rfl, _, rfl, ?_⟩
  rw [List.length_map]
  refine ifB (fun e => ?_) fun e => ?_
  · have hk : k0 < M.length := by have := of_decide_eq_true e; omega
    have hM0 : M[k0]? = some (M.getD k0 0) := by rw [List.getD_eq_getElem?_getD, List.getElem?_eq_getElem hk]; rfl
    have hhM : M.getD k0 0 ∈ M := List.mem_of_getElem? hM0
    generalize hhere : M.getD k0 0 = here at *
    have hhn := ce.lt here hhM
    obtain ⟨vv, e1, hv⟩ := hnx.map_at (List.getElem?_range hhn)
    obtain ⟨b, ys, rfl, _, hb, hy⟩ := is_list hv
    have sB2 := sB.trans s2
    have hat : atI (M.map nv) (k0 : Int) = some (nv here) := by rw [← hhere]; exact at_nats hk
    refine ⟨fun σ H3 => ∃ k', k' < _ ∧ WI k' σ H3, fun σ' H' h => h, _, rfl, _, rfl, wq, _, _, _, rfl, rfl, SqL.of hW, hat, _, rfl, _, _, rfl, rfl, ?_⟩
    refine ⟨_, rfl, x, _, dx, _, .ref na, rfl, sB2 _ _ h0, T.c_Flowing, T.n_Flowing_near, rfl, _, rfl, na, _, _, _, rfl, rfl, SqL.of (sB2 _ _ hna), ix_nat e1, b, rfl, ⟨_, SqL.of (sB2 _ _ hb)⟩, ?_⟩
    refine for_L (nearI W.ts here) pairD hb hy (fun d σ H4 => ∃ (M' : List Nat) (g : Nat → Option (Nat × Nat)) (a : Nat → V) (x7 x8 : Option V), σ = [some (.ref x), some (.ref sa), some (.ref c), none, some (.ref wq), some (nv (k0 + 1)), some (nv here), x7, x8] ∧ Same H H4 ∧ H4 c = some (.dK (mapD M' a)) ∧ H4 wq = some (.lst (M'.map nv)) ∧
      (∀ v ∈ M', Is (fun _ => False) H4 (a v) (optD (g v))) ∧ Came W.ts xs W.n src M' g ∧ (∀ j v, j < k0 → M'[j]? = some v → ∀ i u, (i, u) ∈ nearI W.ts v → u ∉ M' → roomI W.ts xs i v ≤ 0) ∧ k0 < M'.length ∧ M'[k0]? = some here ∧ (∀ i u, (i, u) ∈ d → u ∉ M' → roomI W.ts xs i here ≤ 0))
      ⟨M, g, a, _, _, rfl, s2, hc2, hW, ha, ce, clo, hk, hM0, by simp⟩ (fun d σ H2 ⟨_, _, _, _, _, _, p, _⟩ => sB.trans p) ?_ ?_
    · rintro d ⟨i, u⟩ r z _ H4 e4 ⟨M', g, a, x7, x8, rfl, s4, hc4, hW4, ha4, ce4, clo4, hk4, hM4, hd4⟩ hz
      obtain ⟨zb, rfl, hzb⟩ := is_pair (hz)
      have hiu : (i, u) ∈ nearI W.ts here := by rw [e4]; simp
      obtain ⟨t, ht1, ht2⟩ := mem_nearI.mp hiu
      have hi : i < W.ts.length := (List.getElem?_eq_some_iff.mp ht1).1
      have hun : u < W.n := by
        have := ok.good.1 t (List.mem_of_getElem? ht1)
        omega
      have hhM4 := List.mem_of_getElem? hM4
      refine ⟨zb, _, rfl, SqT.of hzb, rfl, _, _, rfl, _, _, rfl, rfl, ?_⟩
      -- a step that is not taken
      have stay : (u ∉ M' → roomI W.ts xs i here ≤ 0) → ∀ H5, Same H4 H5 → ∃ (M' : List Nat) (g : Nat → Option (Nat × Nat)) (a : Nat → V) (x7' x8' : Option V), [some (V.ref x), some (.ref sa), some (.ref c), none, some (.ref wq), some (nv (k0 + 1)), some (nv here), some (nv i), some (nv u)] = [some (.ref x), some (.ref sa), some (.ref c), none, some (.ref wq), some (nv (k0 + 1)), some (nv here), x7', x8'] ∧ Same H H5 ∧ H5 c = some (.dK (mapD M' a)) ∧ H5 wq = some (.lst (M'.map nv)) ∧
          (∀ v ∈ M', Is (fun _ => False) H5 (a v) (optD (g v))) ∧ Came W.ts xs W.n src M' g ∧ (∀ j v, j < k0 → M'[j]? = some v → ∀ i u, (i, u) ∈ nearI W.ts v → u ∉ M' → roomI W.ts xs i v ≤ 0) ∧ k0 < M'.length ∧ M'[k0]? = some here ∧ (∀ i' u', (i', u') ∈ d ++ [(i, u)] → u' ∉ M' → roomI W.ts xs i' here ≤ 0) := by
        intro hst H5 s5
        refine ⟨M', g, a, _, _, rfl, s4.trans s5, s5 _ _ hc4, s5 _ _ hW4, fun v hv => (ha4 v hv).same s5, ce4, clo4, hk4, hM4, fun i' u' hm hu' => ?_⟩
        rcases List.mem_append.mp hm with h | h
        · exact hd4 i' u' h hu'
        · rw [List.mem_singleton] at h
          cases h
          exact hst hu'
      refine ⟨_, rfl, _, rfl, c, _, rfl, mapD_getO u hc4, _, rfl, ?_⟩
      rw [mapD_notin]
      refine ifB (fun e => ?_) fun e => ?_
      · have hu : u ∉ M' := of_decide_eq_true e
        refine ⟨_, rfl, x, dx, _, rfl, (sB.trans s4) _ _ h0, rfl, _, rfl, _, rfl, _, _, _, rfl, B, x, am, W, xs, i, here, rfl, hB, sB.trans s4, s4 _ _ ham, rfl, rfl, hi, hl, fun H5 s5 => ?_⟩
        refine ⟨_, _, rfl, rfl, _, rfl, ?_⟩
        refine ifB (fun e => ?_) fun e => ?_
        · have hr : 0 < roomI W.ts xs i here := of_decide_eq_true e
          have ml4 := ce4.len
          have ce5 := ce4.snoc hu hun hhM4 hiu hr
          refine ⟨_, rfl, _, rfl, sz2, fun p hp => ?_⟩
          have sp := same_upd (o := .tup [nv i, nv here]) hp
          have s56 := s5.trans sp
          refine ⟨_, rfl, _, rfl, c, _, rfl, DPut.k (k := nk u) (s56 _ _ hc4) (smallLt (by rw [mapD_len]; omega)), ?_⟩
          rw [mapD_new _ hu]
          have hW5 : upd (upd H5 p (.tup [nv i, nv here])) c (.dK (mapD (M' ++ [u]) fun z => if z = u then V.ref p else a z)) wq = some (.lst (M'.map nv)) := by rw [upd_ne wc]; exact s56 _ _ hW4
          refine ⟨_, rfl, list_ty hW5, _, rfl, wq, _, _, rfl, rfl, hW5, smallLt (by rw [List.length_map]; omega), ?_⟩
          refine ⟨M' ++ [u], _, _, _, _, rfl, ((s4.trans s56).mut hc0).mut hw0, by rw [upd_ne (Ne.symm wc)]; exact upd_same, by rw [upd_same, List.map_append]; rfl, fun v hv => ?_, ce5, fun j v hj hv i' u' hm hu' => ?_, by rw [List.length_append]; omega, by rw [List.getElem?_append_left hk4]; exact hM4, fun i' u' hm hu' => ?_⟩
          · have nt1 := not_tupD (s56 _ _ hc4)
            have nt2 := not_tup hW5
            by_cases e : v = u
            · rw [if_pos e, if_pos e]
              exact Is.upd (fun a h => h.elim) nt2 (Is.upd (fun a h => h.elim) nt1 (is_pair' (p := (i, here)) upd_same))
            · rw [if_neg e, if_neg e]
              have hvM := (List.mem_append.mp hv).resolve_right (fun q => e (List.mem_singleton.mp q))
              exact Is.upd (fun a h => h.elim) nt2 (Is.upd (fun a h => h.elim) nt1 ((ha4 v hvM).same s56))
          · rw [List.getElem?_append_left (by omega)] at hv
            exact clo4 j v hj hv i' u' hm fun q => hu' (List.mem_append_left _ q)
          · rcases List.mem_append.mp hm with h | h
            · exact hd4 i' u' h fun q => hu' (List.mem_append_left _ q)
            · rw [List.mem_singleton] at h
              cases h
              exact absurd (List.mem_append_right _ (List.mem_singleton.mpr rfl)) hu'
        · have hr : ¬ 0 < roomI W.ts xs i here := of_decide_eq_false e
          exact stay (fun _ => by omega) H5 s5
      · have hu : u ∈ M' := Decidable.not_not.mp (of_decide_eq_false e)
        exact stay (fun h => absurd hu h) H4 (Same.refl _)
    · rintro _ H4 ⟨M', g, a, x7, x8, rfl, s4, hc4, hW4, ha4, ce4, clo4, hk4, hM4, hd4⟩
      refine ⟨_, ?_, M', g, a, k0 + 1, _, _, _, rfl, s4, hc4, hW4, ha4, ce4, fun j v hj hv i u hm hu => ?_, hk4, rfl⟩
      · omega
      · by_cases e : j = k0
        · subst e
          rw [hM4] at hv
          cases hv
          exact hd4 i u hm hu
        · exact clo4 j v (by omega) hv i u hm hu
  · have hk : ¬ k0 < M.length := by have := of_decide_eq_false e; omega
    refine ⟨_, rfl, q M g ce (fun v hv i u hm hu => ?_) c _ a s2 hc0 hc2 ha⟩
    obtain ⟨j, hj, e⟩ := List.getElem_of_mem hv
    exact clo j v (by omega) (by rw [List.getElem?_eq_getElem hj, e]) i u hm hu
end
end PW
set_option Elab.async false
set_option linter.all false
set_option maxRecDepth 100000
set_option maxHeartbeats 4000000
namespace PW
open PySem PySem.Spec PyProof.Rows L2
theorem del_mono {H H' : Hp} {p : Addr} (s : Same H H') : Same (del H p) (del H' p) := fun a o h => by
  by_cases e : a = p
  · subst e; rw [del_self] at h; cases h
  · rw [del_ne e] at h ⊢; exact s a o h
theorem is_none {φ : Addr → Prop} {H : Hp} {v : V} (h : Is φ H v .none) : v = .non := by cases h; rfl
theorem chain_nil {g : Nat → Option (Nat × Nat)} {v u : Nat} (k : Chain g v [] u) : u = v := by
  generalize e : ([] : List (Nat × Nat)) = d at k
  cases k with
  | nil => rfl
  | snoc _ _ => simp at e
abbrev addS (ts : List Tie) (m : Int) (d : List (Nat × Nat)) (xs : List Int) : List Int := d.foldl (fun xs s => addI ts xs m s) xs
theorem addS_len (ts : List Tie) (m : Int) : ∀ (d : List (Nat × Nat)) (xs : List Int), (addS ts m d xs).length = xs.length
  | [], _ => rfl
  | s :: d, xs => by
    show (addS ts m d (addI ts xs m s)).length = _
    rw [addS_len ts m d, addI_len]
theorem addS_snoc (ts : List Tie) (m : Int) (d : List (Nat × Nat)) (s : Nat × Nat) (xs : List Int) : addS ts m (d ++ [s]) xs = addI ts (addS ts m d xs) m s := by
  unfold addS
  rw [List.foldl_append]
  rfl
section
variable {P : Program} {w : World} {K : PySem.W.Frag} {mg : Str → Option Value} {base : Heap}
def spFlowingBring (K : PySem.W.Frag) : Sp := fun vs H Q _ => ∃ s c k, vs = [s, c, k] ∧ ∃ (B : Hp) (x am cc : Addr) (W : Web) (xs : List Int) (src M : List Nat) (g : Nat → Option (Nat × Nat)) (a : Nat → V) (v : Nat), s = .ref x ∧ FlowB K B x am W ∧ Same B H ∧ H am = some (.lst (xs.map V.int)) ∧ c = .ref cc ∧ k = nv v ∧ WOk W ∧ xs.length = W.ts.length ∧
  Came W.ts xs W.n src M g ∧ H cc = some (.dK (mapD M a)) ∧ (∀ v ∈ M, Is (fun _ => False) H (a v) (optD (g v))) ∧ v ∈ M ∧ g v ≠ none ∧
  ∀ d u m, Chain g v d u → g u = none → 0 < m → (∀ s ∈ d, m ≤ roomI W.ts xs s.1 s.2) → ∀ H', Same (del H am) H' → H' am = some (.lst ((addS W.ts m d xs).map V.int)) → Q .non H'
-- Flowing.bring: 0=self 1=came 2=sink 3=steps 4=step 5=more 6=number 7=place
theorem sc_Flowing_bring : FnScope ["self", "came", "sink", "steps", "step", "more", "number", "place"] ["self", "came", "sink"] (defScope sFlowingBring) := ⟨rfl, rfl, rfl, by decide +kernel, rfl, by decide +kernel, by decide +kernel⟩
theorem ok_Flowing_bring (T : Tx K mg) : MethOk P w K mg base (He.ga K "Flowing") "bring" 2 ["self", "came", "sink"] (spFlowingBring K) := by
  have O_Flowing_add := ok_Flowing_add (P := P) (w := w) (base := base) T
  have O_Flowing_room := ok_Flowing_room (P := P) (w := w) (base := base) T
  refine MethOk.mk' T.c_Flowing T.m_Flowing_bring (fn_ok T.d_Flowing_bring sc_Flowing_bring (fun _ _ _ _ _ _ us hl => match us, hl with | [_, _, _], _ => rfl) (fun vs H Q E h => ?_) (fun cdv A outer s H vs Q E hr h => ?_))
  · obtain ⟨_, _, _, rfl, _⟩ := h
    rfl
  have hu := hu_of hr
  obtain ⟨v0, v1, v2, rfl, h⟩ := h
  refine ⟨_, (pss_cons (ps_set (i := 3) sc_Flowing_bring.nd rfl (.inl rfl) (pe_lst pa_nil))
     (pss_cons (ps_set (i := 4) sc_Flowing_bring.nd rfl (.inl rfl) (pe_dget hu (pv 1) (pv 2) (fun _ _ => rfl)))
     (pss_cons (ps_while PassesOwn.never (pt_cmpR op_notN (pv 4) pe_non (nomark _))
     (pss_cons (ps_expr (pe_bm PySem.F.plainAttrs_list PySem.F.slot_list_append PySem.F.type_list_append mt_append (pv 3) (pa_cons (pv 4) pa_nil)))
     (pss_one (ps_set (i := 4) sc_Flowing_bring.nd rfl (.inl rfl) (pe_dget hu (pv 1) (pe_ix ix_tup (pv 4) pe_int (fun _ _ => rfl)) (fun _ _ => rfl))))))
     (pss_cons (ps_set (i := 5) sc_Flowing_bring.nd rfl (.inl rfl) (pe_callB (cr_min rfl) (by rfl) T.f_min (by decide +kernel) (pa_cons (pe_lc (own := [("number", 6), ("place", 7)]) (g := (gTup K 2 (gCons (gName 6) (gCons (gName 7) gNil)))) (tt := tYes) (te := (tMeth (He.ga K "Flowing") "room" (spFlowingRoom K) [] E0 (tVar 0) (tCons (tVar 6) (tCons (tVar 7) tNil)))) rfl sc_Flowing_bring.nd (pi_list (pv 3)) (blkOk_by (N := ["self", "came", "sink", "steps", "step", "more", "number", "place"]) (sc := defScope sFlowingBring) (by decide +kernel)) (fun _ _ _ _ _ => (pg_tup rfl (pgs_cons (pg_name (i := 6) sc_Flowing_bring.nd rfl (.inl rfl) (.inr rfl)) (pgs_cons (pg_name (i := 7) sc_Flowing_bring.nd rfl (.inl rfl) (.inr rfl)) pgs_nil)))) (fun _ _ _ _ _ => pts_nil) (fun _ _ _ _ _ => (pmeth O_Flowing_room (hr.mono (by decide)) (pv 0) (pa_cons (pv 6) (pa_cons (pv 7) pa_nil))))) pa_nil)))
     (pss_one (ps_for PassesOwn.never rfl (pi_list (pv 3)) (pg_tup rfl (pgs_cons (pg_name (i := 6) sc_Flowing_bring.nd rfl (.inl rfl) (.inl rfl)) (pgs_cons (pg_name (i := 7) sc_Flowing_bring.nd rfl (.inl rfl) (.inl rfl)) pgs_nil)))
     (pss_one (ps_expr (pmeth O_Flowing_add (hr.mono (by decide)) (pv 0) (pa_cons (pv 6) (pa_cons (pv 7) (pa_cons (pv 5) pa_nil)))))))))))), ?_⟩
  obtain ⟨B, x, am, cc, W, xs, src, M, g, a, v, rfl, hB, sB, ham, rfl, rfl, ok, hl, ce, hc, ha, hv, hgv, q⟩ := h
  have n1 := ok.n1
  have ml := ce.len
  have hne : ∀ t ∈ W.ts, t.1 ≠ t.2.1 := fun t ht => by have := ok.good.1 t ht; omega
  obtain ⟨dx, vt, vn, h0, h1, h2, hamB⟩ := hB.ex
  refine ⟨sz0, fun st hst => ?_⟩
  have s1 := same_upd (o := .lst []) hst
  refine ⟨_, rfl, _, rfl, cc, _, rfl, mapD_get (s1 _ _ hc) hv, ?_⟩
  let WI : Nat → L2.St → Hp → Prop := fun k σ H2 => ∃ (d : List (Nat × Nat)) (u : Nat) (ys : List V), σ = [some (.ref x), some (.ref cc), some (nv v), some (.ref st), some (a u), none, none, none] ∧ Same H H2 ∧ H2 st = some (.lst ys) ∧ IsAll (fun _ => False) H2 ys (d.map pairD) ∧ Chain g v d u ∧ k = M.idxOf u
  refine ⟨WI, ⟨_, [], v, [], rfl, s1, upd_same, .nil, .nil, rfl⟩, ?_⟩
  rintro k _ H2 ⟨d, u, ys, rfl, s2, hst2, hys, ch, rfl⟩
  obtain ⟨huM, hlen, hnd, hfac⟩ := ch.facts ce hv hne
  have hilt := List.idxOf_lt_length_of_mem hv
  have ely := hys.map_len
  have hau := (ha u huM).same s2
  refine ⟨_, rfl, rfl, _, rfl, ?_⟩
  cases hg : g u with
  | some p =>
    rw [hg] at hau
    obtain ⟨pb, hpb1, hpb⟩ := is_pair hau
    refine ifT (by rw [hpb1]; rfl) ?_
    obtain ⟨i, hh⟩ := p
    obtain ⟨t1, t2, t3, t4⟩ := ce.step u huM i hh hg
    refine ⟨fun σ H3 => ∃ k', k' < _ ∧ WI k' σ H3, fun σ' H' h => h, _, rfl, list_ty hst2, _, rfl, st, _, _, rfl, rfl, hst2, smallLt (by omega), ?_⟩
    have nt := not_tup hst2
    have hpb4 : upd H2 st (.lst (ys ++ [a u])) pb = some (.tup [nv i, nv hh]) := by
      rw [upd_ne (fun e => by rw [e, hst2] at hpb; cases hpb)]
      exact hpb
    have s3 := s2.mut (o := .lst (ys ++ [a u])) hst
    have hys4 : IsAll (fun _ => False) (upd H2 st (.lst (ys ++ [a u]))) (ys ++ [a u]) ((d ++ [(i, hh)]).map pairD) := by
      rw [List.map_append]
      exact IsAll.upd (fun a h => h.elim) nt (hys.snoc (hau : Is (fun _ => False) H2 (a u) (pairD (i, hh))))
    refine ⟨_, rfl, _, rfl, pb, _, 1, nv hh, hpb1, rfl, SqT.of hpb4, rfl, cc, _, rfl, mapD_get (s3 _ _ hc) t1, ?_⟩
    exact ⟨_, t2, d ++ [(i, hh)], hh, _, rfl, s3, upd_same, hys4, .snoc ch hg, rfl⟩
  | none =>
    rw [hg] at hau
    have hnon : a u = .non := is_none hau
    refine ifF (by rw [hnon]; rfl) ?_
    have hdne : d ≠ [] := by
      intro e
      subst e
      rw [chain_nil ch] at hg
      exact hgv hg
    have dpos : 0 < d.length := List.length_pos_iff.mpr hdne
    refine ⟨_, rfl, st, rfl, ⟨_, SqL.of hst2⟩, fun D hD => ?_⟩
    refine lc_L d pairD (fun s => some (.int (roomI W.ts xs s.1 s.2))) hst2 hys hD (by omega) ?_ ?_
    · intro z y H3 hy0 s3 hz Kont Skip k1 k2
      obtain ⟨zb, rfl, hzb⟩ := is_pair hz
      have s03 := s2.trans s3
      refine ⟨zb, _, rfl, SqT.of hzb, rfl, _, _, rfl, _, _, rfl, rfl, rfl, ?_⟩
      exact ⟨_, rfl, x, dx, _, rfl, (sB.trans s03) _ _ h0, rfl, _, rfl, _, rfl, _, _, _, rfl, B, x, am, W, xs, y.1, y.2, rfl, hB, sB.trans s03, s03 _ _ ham, rfl, rfl, (hfac y hy0).2.1, hl, fun H4 s4 => k1 _ _ _ s4 rfl (.int _)⟩
    · intro H3 s3 h3
      rw [filterMap_some, map_int] at h3
      obtain ⟨D', e, _, hD'⟩ := is_ints h3
      cases e
      refine ⟨D, _, rfl, SqL.of hD', by rw [List.length_map]; exact dpos, fun m hm hmin => ?_⟩
      have s03 := s2.trans s3
      obtain ⟨s0, hs0, rfl⟩ := List.mem_map.mp hm
      have hmpos := (hfac s0 hs0).1
      generalize hmm : roomI W.ts xs s0.1 s0.2 = m at *
      have hall : ∀ s ∈ d, m ≤ roomI W.ts xs s.1 s.2 := fun s hs => hmin _ (List.mem_map.mpr ⟨s, hs, rfl⟩)
      have stam : st ≠ am := fun e => by rw [e, ham] at hst; cases hst
      have ham3 := s03 _ _ ham
      have hst3 := s3 _ _ hst2
      refine ⟨_, rfl, st, rfl, ⟨_, SqL.of hst3⟩, ?_⟩
      refine for_L (H0 := del H3 am) d pairD (del_get hst3 stam) ((hys.same s3).del (fun a h => h.elim) (not_tup ham3)) (fun e σ H4 => ∃ x6 x7 : Option V, σ = [some (.ref x), some (.ref cc), some (nv v), some (.ref st), some (a u), some (.int m), x6, x7] ∧ Same (del H3 am) H4 ∧ H4 am = some (.lst ((addS W.ts m e xs).map V.int))) ⟨_, _, rfl, del_same, ham3⟩ (fun d σ H2 ⟨_, _, _, p, _⟩ => p) ?_ ?_
      · rintro e y r z _ H4 e4 ⟨x6, x7, rfl, s4, ham4⟩ hz
        obtain ⟨zb, rfl, hzb⟩ := is_pair hz
        have hy0 : y ∈ d := by rw [e4]; simp
        have sB4 : Same B H4 := (same_del (o := .lst []) (sB.trans s03) hamB).trans s4
        refine ⟨zb, _, rfl, SqT.of hzb, rfl, _, _, rfl, _, _, rfl, rfl, ?_⟩
        refine ⟨_, rfl, x, dx, _, rfl, sB4 _ _ h0, rfl, _, rfl, _, rfl, _, rfl, _, _, _, _, rfl, B, x, am, W, _, y.1, y.2, m, rfl, hB, sB4, ham4, rfl, rfl, rfl, (hfac y hy0).2.1, by rw [addS_len]; exact hl, ?_⟩
        refine ⟨_, _, rfl, s4.mut del_self, ?_⟩
        rw [upd_same, addS_snoc]
      · rintro _ H4 ⟨x6, x7, rfl, s4, ham4⟩
        exact q d u m ch hg hmpos hall H4 ((del_mono s03).trans s4) ham4
def spSideWeight (K : PySem.W.Frag) : Sp := fun vs H Q _ => ∃ v c, vs = [v, c] ∧ ∃ (W : Web) (L : List Nat), Is Any H v (webD W) ∧ WOk W ∧ Is Any H c (natsD L) ∧ L.Nodup ∧ L.length ≤ 100 ∧ GivesI (cost W.ts fun v => decide (v ∈ L)) H Q
-- side_weight: 0=web 1=side 2=there 3=place 4=a 5=b 6=weight
theorem sc_side_weight : FnScope ["web", "side", "there", "place", "a", "b", "weight"] ["web", "side"] (defScope sSideWeight) := ⟨rfl, rfl, rfl, by decide +kernel, rfl, by decide +kernel, by decide +kernel⟩
theorem ok_side_weight (T : Tx K mg) : DefOk P w K mg base "side_weight" 1 ["web", "side"] (spSideWeight K) := by
  refine DefOk.mk' T.g_side_weight (fn_ok T.d_side_weight sc_side_weight (fun _ _ _ _ _ _ us hl => match us, hl with | [_, _], _ => rfl) (fun vs H Q E h => ?_) (fun cdv A outer s H vs Q E hr h => ?_))
  · obtain ⟨_, _, rfl, _⟩ := h
    rfl
  have hu := hu_of hr
  obtain ⟨v0, v1, rfl, h⟩ := h
  refine ⟨_, (pss_cons (ps_set (i := 2) sc_side_weight.nd rfl (.inr rfl) (pe_callTy (call_dictP rfl) (by rfl) T.f_dict (by decide +kernel) (pa_cons (pe_lc (own := [("place", 3)]) (g := (gName 3)) (tt := tYes) (te := (tTup (tCons (tVar 3) (tCons (tC (.bl true)) tNil)))) rfl sc_side_weight.nd (pi_list (pv 1)) (blkOk_by (N := ["web", "side", "there", "place", "a", "b", "weight"]) (sc := defScope sSideWeight) (by decide +kernel)) (fun _ _ _ _ _ => (pg_name (i := 3) sc_side_weight.nd rfl (.inl rfl) (.inr rfl))) (fun _ _ _ _ _ => pts_nil) (fun _ _ _ _ _ => (pe_tup (pa_cons (pv 3) (pa_cons pe_bl pa_nil))))) pa_nil)))
     (pss_one (ps_ret (pe_callB (cr_sum rfl) (by rfl) T.f_sum (by decide +kernel) (pa_cons (pe_lc (own := [("a", 4), ("b", 5), ("weight", 6)]) (g := (gTup K 3 (gCons (gName 4) (gCons (gName 5) (gCons (gName 6) gNil))))) (tt := (tTest (tOp rNe (tDIn (tVar 4) (tVar 2)) (tDIn (tVar 5) (tVar 2))))) (te := (tVar 6)) rfl sc_side_weight.nd (pi_tup (pe_ix ix_tup (pv 0) pe_int (fun _ _ => rfl))) (blkOk_by (N := ["web", "side", "there", "place", "a", "b", "weight"]) (sc := defScope sSideWeight) (by decide +kernel)) (fun _ _ _ _ _ => (pg_tup rfl (pgs_cons (pg_name (i := 4) sc_side_weight.nd rfl (.inl rfl) (.inr rfl)) (pgs_cons (pg_name (i := 5) sc_side_weight.nd rfl (.inl rfl) (.inr rfl)) (pgs_cons (pg_name (i := 6) sc_side_weight.nd rfl (.inl rfl) (.inr rfl)) pgs_nil))))) (fun _ _ _ _ _ => (pts_one (pt_cmpR op_ne (pe_cmp (pc_din hu (pv 4) (pv 2)) rfl) (pe_cmp (pc_din hu (pv 5) (pv 2)) rfl) (nomark _)))) (fun _ _ _ _ _ => (pv 6))) pa_nil))))), ?_⟩
  obtain ⟨W, L, hw, ok, hL, nd, hl, q⟩ := h
  obtain ⟨pw, pq, xs, rfl, hw1, hw2, hx⟩ := is_web hw
  obtain ⟨la, rfl, _, hla⟩ := is_nats hL
  have ln := ok.len
  refine ⟨_, rfl, la, rfl, ⟨_, SqL.of hla⟩, fun D hD => ?_⟩
  refine lc_L L natD (fun v => some (.tuple [natD v, .bool true])) hla (isAll_nats (φ := Any).mpr rfl) hD (by omega) ?_ ?_
  · intro x y H5 _ s5 hy Kont Skip k1 k2
    cases hy
    exact ⟨rfl, _, rfl, sz2, fun p hp => k1 _ _ _ (same_upd hp) rfl (.tup upd_same (.cons (.int _) (.cons (.bl _) .nil)))⟩
  · intro H5 s5 h5
    rw [filterMap_some] at h5
    obtain ⟨a5, ps5, e5, h5a, h5b⟩ := dictP_is (K := K) (key := fun v => v) (fun _ => .bl true) (fun _ => .bool true) h5 (fun a _ x h => by cases h; rfl)
    cases e5
    refine ⟨_, ps5, _, rfl, h5a, h5b, fun th hth => ?_⟩
    rw [mapD_merge0 L (fun _ => .bl true) nd]
    have s6 := s5.trans (same_upd (o := .dK (mapD L fun _ => V.bl true)) hth)
    have ht6 : upd H5 th (.dK (mapD L fun _ => V.bl true)) th = some (.dK (mapD L fun _ => V.bl true)) := upd_same
    generalize upd H5 th (.dK (mapD L fun _ => V.bl true)) = H6 at *
    refine ⟨_, rfl, pw, _, 1, .ref pq, rfl, rfl, SqT.of (s6 _ _ hw1), rfl, pq, rfl, ⟨_, SqT.of (s6 _ _ hw2)⟩, fun D2 hD2 => ?_⟩
    refine lc_T W.ts tieD (fun t => if (decide (t.1 ∈ L) != decide (t.2.1 ∈ L)) = true then some (.int t.2.2) else none) (s6 _ _ hw2) (hx.same s6) hD2 (by omega) ?_ ?_
    · intro x y H7 _ s7 hy Kont Skip k1 k2
      obtain ⟨b, rfl, hb⟩ := is_tie hy
      refine ⟨b, _, rfl, SqT.of hb, rfl, _, _, rfl, _, _, rfl, _, _, rfl, rfl, rfl, ?_⟩
      refine ⟨_, rfl, _, rfl, th, _, rfl, mapD_getO y.1 (s7 _ _ ht6), ?_⟩
      rw [mapD_in]
      refine ⟨_, rfl, _, rfl, th, _, rfl, mapD_getO y.2.1 (s7 _ _ ht6), ?_⟩
      rw [mapD_in]
      refine ⟨rfl, _, rfl, ?_⟩
      have eb : ∀ b1 b2 : Bool, (!decide (V.bl b1 = V.bl b2)) = (b1 != b2) := by decide
      rw [eb]
      exact ifB (fun e => ⟨_, rfl, k1 _ _ _ (Same.refl _) (if_pos e) (.int _)⟩) fun e => k2 _ (Same.refl _) (if_neg (by rw [e]; exact Bool.false_ne_true))
    · intro H7 s7 h7
      rw [filterMap_if, map_int] at h7
      obtain ⟨D', e, _, hD'⟩ := is_ints h7
      cases e
      refine ⟨D2, _, rfl, SqL.of hD', ?_⟩
      have e : ((W.ts.filter fun t => decide (t.1 ∈ L) != decide (t.2.1 ∈ L)).map fun t => t.2.2).sum = cost W.ts fun v => decide (v ∈ L) := sum_filter_map W.ts fun a b => decide (a ∈ L) != decide (b ∈ L)
      rw [e]
      exact q _ (s6.trans s7)
end
end PW
set_option Elab.async false
set_option linter.all false
set_option maxRecDepth 100000
set_option maxHeartbeats 4000000
namespace PW
open PySem PySem.Spec PyProof.Rows L2
/-- a lock taken off -/
theorem same_unlock {H H' : Hp} {c : Addr} {o : HO} {u : HO} (h : H c = some u) (s : Same (upd H c o) H') : Same H (upd H' c u) := fun a v ha => by
  by_cases e : a = c
  · subst e
    rw [h] at ha
    cases ha
    exact upd_same
  · rw [upd_ne e]
    exact s a v (by rw [upd_ne e]; exact ha)
theorem mem_filter_nil {M snk : List Nat} (h : M.filter (fun v => decide (v ∈ snk)) = []) : ∀ q ∈ snk, q ∉ M := fun q hq hm => by
  have : q ∈ M.filter (fun v => decide (v ∈ snk)) := List.mem_filter.mpr ⟨hm, decide_eq_true hq⟩
  rw [h] at this
  cases this
/-- the sinks among what was met -/
theorem reach_go {D : Ends} {v0 v1 v2 : Option V} {x6 : Option V} {th c : Addr} {H : Hp} {M snk : List Nat} {a : Nat → V} (hc : H c = some (.dK (mapD M a))) (ht : H th = some (.dK (mapD snk fun _ => V.bl true))) (ct : th ≠ c) (hl : M.length ≤ 1000)
    (q : ∀ r H', Same H H' → H r = none → H' r = some (.lst ((M.filter fun v => decide (v ∈ snk)).map nv)) → D.nx [v0, v1, v2, some (.ref th), none, some (.ref c), some (.ref r)] H') :
    tLock (tAsg (tLc (iKeys (tVar 5)) (gName 4) (tB (tDIn (tVar 4) (tVar 3))) (tVar 4) [4]) (gName 6)) D [v0, v1, v2, some (.ref th), none, some (.ref c), x6] H := by
  refine ⟨c, _, hc, trivial, fun od => ?_⟩
  have ht1 : upd H c (.frz od (.dK (mapD M a))) th = some (.dK (mapD snk fun _ => V.bl true)) := by rw [upd_ne ct]; exact ht
  refine ⟨_, rfl, c, od, rfl, .inl ⟨mapD M a, upd_same, fun D2 hD2 => ?_⟩⟩
  refine lc_M M (fun v => if decide (v ∈ snk) = true then some (natD v) else none) (by rw [← mapD_len M a]; exact walk_keys) hD2 (by omega) (fun H s => s _ _ upd_same) (fun i H x H' y => by rw [y.1]; exact Same.refl _) ?_ ?_
  · rintro i x y H1 H2 hi s1 ⟨rfl, k, v, e1, rfl⟩ Kont Skip k1 k2
    unfold mapD at e1
    rw [List.getElem?_map, hi] at e1
    cases e1
    refine ⟨rfl, _, rfl, _, rfl, th, _, rfl, mapD_getO y (s1 _ _ ht1), _, rfl, ?_⟩
    rw [mapD_in]
    exact ifB (fun e => ⟨_, rfl, k1 _ _ _ (Same.refl _) (if_pos e) (.int _)⟩) fun e => k2 _ (Same.refl _) (if_neg (by rw [e]; exact Bool.false_ne_true))
  · intro H1 s1 h1
    rw [filterMap_if] at h1
    obtain ⟨r, e, hr0, hr⟩ := is_nats h1
    cases e
    have rc' : D2 ≠ c := hr0.ne upd_same
    refine ⟨s1 _ _ upd_same, q D2 _ (same_unlock hc s1) ?_ (by rw [upd_ne rc']; exact hr)⟩
    rw [← upd_ne (H := H) (o := .frz od (.dK (mapD M a))) rc']
    exact hr0
section
variable {P : Program} {w : World} {K : PySem.W.Frag} {mg : Str → Option Value} {base : Heap}
def spFlowingFill (K : PySem.W.Frag) : Sp := fun vs H Q _ => ∃ s c k, vs = [s, c, k] ∧ ∃ (B : Hp) (x am : Addr) (W : Web) (xs : List Int) (src snk : List Nat) (val : Int), s = .ref x ∧ FlowB K B x am W ∧ Same B H ∧ H am = some (.lst (xs.map V.int)) ∧ Is Any (del H am) c (natsD src) ∧ Is Any (del H am) k (natsD snk) ∧ WOk W ∧
  src.Nodup ∧ (∀ s ∈ src, s < W.n) ∧ snk.Nodup ∧ (∀ s ∈ snk, s < W.n) ∧ (∀ s ∈ src, s ∉ snk) ∧ FlowOk W.ts src snk xs val ∧
  ∀ (L : List Nat) (xs' : List Int), minCut W src snk = cost W.ts (fun v => decide (v ∈ L)) → L.Nodup → L.length ≤ W.n → ∀ (p : Addr) (H' : Hp), Same (del H am) H' → H' am = some (.lst (xs'.map V.int)) → del H am p = none → p ≠ am → H' p = some (.lst (L.map nv)) → Q (.ref p) H'
-- Flowing.fill: 0=self 1=sources 2=sinks 3=ends 4=place 5=came 6=reached
theorem sc_Flowing_fill : FnScope ["self", "sources", "sinks", "ends", "place", "came", "reached"] ["self", "sources", "sinks"] (defScope sFlowingFill) := ⟨rfl, rfl, rfl, by decide +kernel, rfl, by decide +kernel, by decide +kernel⟩
theorem ok_Flowing_fill (T : Tx K mg) : MethOk P w K mg base (He.ga K "Flowing") "fill" 3 ["self", "sources", "sinks"] (spFlowingFill K) := by
  have O_Flowing_bring := ok_Flowing_bring (P := P) (w := w) (base := base) T
  have O_Flowing_ways_on := ok_Flowing_ways_on (P := P) (w := w) (base := base) T
  refine MethOk.mk' T.c_Flowing T.m_Flowing_fill (fn_ok T.d_Flowing_fill sc_Flowing_fill (fun _ _ _ _ _ _ us hl => match us, hl with | [_, _, _], _ => rfl) (fun vs H Q E h => ?_) (fun cdv A outer s H vs Q E hr h => ?_))
  · obtain ⟨_, _, _, rfl, _⟩ := h
    rfl
  have hu := hu_of hr
  obtain ⟨v0, v1, v2, rfl, h⟩ := h
  refine ⟨_, (pss_cons (ps_set (i := 3) sc_Flowing_fill.nd rfl (.inr rfl) (pe_callTy (call_dictP rfl) (by rfl) T.f_dict (by decide +kernel) (pa_cons (pe_lc (own := [("place", 4)]) (g := (gName 4)) (tt := tYes) (te := (tTup (tCons (tVar 4) (tCons (tC (.bl true)) tNil)))) rfl sc_Flowing_fill.nd (pi_list (pv 2)) (blkOk_by (N := ["self", "sources", "sinks", "ends", "place", "came", "reached"]) (sc := defScope sFlowingFill) (by decide +kernel)) (fun _ _ _ _ _ => (pg_name (i := 4) sc_Flowing_fill.nd rfl (.inl rfl) (.inr rfl))) (fun _ _ _ _ _ => pts_nil) (fun _ _ _ _ _ => (pe_tup (pa_cons (pv 4) (pa_cons pe_bl pa_nil))))) pa_nil)))
     (pss_cons (ps_set (i := 5) sc_Flowing_fill.nd rfl (.inl rfl) (pmeth O_Flowing_ways_on (hr.mono (by decide)) (pv 0) (pa_cons (pv 1) pa_nil)))
     (pss_cons (ps_lock (ps_setLc (i := 6) (own := [("place", 4)]) (g := (gName 4)) (tt := (tB (tDIn (tVar 4) (tVar 3)))) (te := (tVar 4)) rfl sc_Flowing_fill.nd rfl rfl (sw_true rfl rfl rfl (by decide +kernel)) (pi_keys (pv 5)) (blkOk_by (N := ["self", "sources", "sinks", "ends", "place", "came", "reached"]) (sc := defScope sFlowingFill) (by decide +kernel)) (fun _ _ _ _ _ => (pg_name (i := 4) sc_Flowing_fill.nd rfl (.inl rfl) (.inr rfl))) (fun _ _ _ _ _ => (pts_one (pt_cmp (pc_din hu (pv 4) (pv 3))))) (fun _ _ _ _ _ => (pv 4))))
     (pss_cons (ps_while PassesOwn.never (pt_cmpR op_gt (pe_callB call_len_seq (by rfl) T.f_len (by decide +kernel) (pa_cons (pv 6) pa_nil)) pe_int (nomark _))
     (pss_cons (ps_expr (pmeth O_Flowing_bring (hr.mono (by decide)) (pv 0) (pa_cons (pv 5) (pa_cons (pe_ix ix_list (pv 6) pe_int (fun _ _ => rfl)) pa_nil))))
     (pss_cons (ps_set (i := 5) sc_Flowing_fill.nd rfl (.inl rfl) (pmeth O_Flowing_ways_on (hr.mono (by decide)) (pv 0) (pa_cons (pv 1) pa_nil)))
     (pss_one (ps_lock (ps_setLc (i := 6) (own := [("place", 4)]) (g := (gName 4)) (tt := (tB (tDIn (tVar 4) (tVar 3)))) (te := (tVar 4)) rfl sc_Flowing_fill.nd rfl rfl (sw_true rfl rfl rfl (by decide +kernel)) (pi_keys (pv 5)) (blkOk_by (N := ["self", "sources", "sinks", "ends", "place", "came", "reached"]) (sc := defScope sFlowingFill) (by decide +kernel)) (fun _ _ _ _ _ => (pg_name (i := 4) sc_Flowing_fill.nd rfl (.inl rfl) (.inr rfl))) (fun _ _ _ _ _ => (pts_one (pt_cmp (pc_din hu (pv 4) (pv 3))))) (fun _ _ _ _ _ => (pv 4))))))))
     (pss_one (ps_ret (pe_callB (call_sortedDI rfl) (by rfl) T.f_sorted (by decide +kernel) (pa_cons (pv 5) pa_nil)))))))), ?_⟩
  obtain ⟨B, x, am, W, xs, src, snk, val, rfl, hB, sB, ham, hsrc, hsnk, ok, nd1, lt1, nd2, lt2, dis, fo, q⟩ := h
  have n1 := ok.n1
  have hne : ∀ t ∈ W.ts, t.1 ≠ t.2.1 := fun t ht => by have := ok.good.1 t ht; omega
  obtain ⟨dx, vt, vn, h0, h1, h2, hamB⟩ := hB.ex
  obtain ⟨sa, rfl, _, hsa⟩ := is_nats hsrc
  obtain ⟨ka, rfl, _, hka⟩ := is_nats hsnk
  have hka1 := del_same _ _ hka
  have sl : snk.length ≤ W.n := by
    have := nodup_length_le nd2 (b := List.range W.n) fun v hv => List.mem_range.mpr (lt2 v hv)
    rw [List.length_range] at this
    exact this
  refine ⟨_, rfl, ka, rfl, ⟨_, SqL.of hka1⟩, fun D hD => ?_⟩
  refine lc_L snk natD (fun v => some (.tuple [natD v, .bool true])) hka1 (isAll_nats (φ := Any).mpr rfl) hD (by omega) ?_ ?_
  · intro z y H5 _ s5 hy Kont Skip k1 k2
    cases hy
    exact ⟨rfl, _, rfl, sz2, fun p hp => k1 _ _ _ (same_upd hp) rfl (.tup upd_same (.cons (.int _) (.cons (.bl _) .nil)))⟩
  intro H5 s5 h5
  rw [filterMap_some] at h5
  obtain ⟨a5, ps5, e5, h5a, h5b⟩ := dictP_is (K := K) (key := fun v => v) (fun _ => .bl true) (fun _ => .bool true) h5 (fun a _ x h => by cases h; rfl)
  cases e5
  refine ⟨_, ps5, _, rfl, h5a, h5b, fun th hth => ?_⟩
  rw [mapD_merge0 snk (fun _ => .bl true) nd2]
  have s6 := s5.trans (same_upd (o := .dK (mapD snk fun _ => V.bl true)) hth)
  have ht6 : upd H5 th (.dK (mapD snk fun _ => V.bl true)) th = some (.dK (mapD snk fun _ => V.bl true)) := upd_same
  have hth0 : H th = none := s5.free hth
  generalize upd H5 th (.dK (mapD snk fun _ => V.bl true)) = H6 at *
  refine ⟨_, rfl, x, dx, _, rfl, s6 _ _ (sB _ _ h0), rfl, _, rfl, _, _, rfl, B, x, am, W, xs, src, rfl, hB, sB.trans s6, s6 _ _ ham, is_nats' trivial (s6 _ _ (del_same _ _ hsa)), ok, fo.cap.len, nd1, lt1, fun M g ce sh c H7 a s7 hc0 hc7 ha7 => ?_⟩
  have tham : th ≠ am := fun e => by rw [e, ham] at hth0; cases hth0
  have s67 := s6.trans s7
  have s0 : Same (del H am) H7 := del_same.trans s67
  have ml7 := ce.len
  have thc : th ≠ c := fun e => by
    rw [← e, ht6] at hc0
    cases hc0
  let WI : Nat → L2.St → Hp → Prop := fun k σ H2 => ∃ (xs : List Int) (val : Int) (M : List Nat) (g : Nat → Option (Nat × Nat)) (a : Nat → V) (c r : Addr), σ = [some (.ref x), some (.ref sa), some (.ref ka), some (.ref th), none, some (.ref c), some (.ref r)] ∧ Same (del H am) H2 ∧ H2 am = some (.lst (xs.map V.int)) ∧ H2 th = some (.dK (mapD snk fun _ => V.bl true)) ∧
    FlowOk W.ts src snk xs val ∧ Came W.ts xs W.n src M g ∧ Shut W.ts xs M ∧ H2 c = some (.dK (mapD M a)) ∧ (∀ v ∈ M, Is (fun _ => False) H2 (a v) (optD (g v))) ∧ H2 r = some (.lst ((M.filter fun v => decide (v ∈ snk)).map nv)) ∧ k = (cost W.ts (fun v => decide (v ∈ src)) - val).toNat
  have hsep : Sep src snk (fun v => decide (v ∈ src)) := ⟨fun p hp => decide_eq_true hp, fun q hq => decide_eq_false fun h => dis q h hq⟩
  refine reach_go hc7 (s7 _ _ ht6) thc (by omega) fun r H8 s8 hr0 hr => ?_
  refine ⟨WI, ⟨_, xs, val, M, g, a, c, r, rfl, s0.trans s8, s8 _ _ (s67 _ _ ham), s8 _ _ (s7 _ _ ht6), fo, ce, sh, s8 _ _ hc7, fun v hv => (ha7 v hv).same s8, hr, rfl⟩, ?_⟩
  clear hr hr0 s8 s0 s67 hc7 ha7 ml7 thc hc0 sh ce s7
  clear fo
  clear H8 H7 r a c g M
  rintro k _ H2 ⟨ys, val', M, g, a, c, r, rfl, s2, ham2, hth2, fo, ce, sh, hc2, ha2, hr2, rfl⟩
  have ml := ce.len
  have sB2 : Same B H2 := (same_del (o := .lst []) sB hamB).trans s2
  refine ⟨_, rfl, r, _, rfl, .inl (SqL.of hr2), _, _, rfl, rfl, _, rfl, ?_⟩
  rw [List.length_map]
  refine ifB (fun e => ?_) fun e => ?_
  · have hpos : 0 < (M.filter fun v => decide (v ∈ snk)).length := by have := of_decide_eq_true e; omega
    obtain ⟨v, l', hv⟩ : ∃ v l', M.filter (fun v => decide (v ∈ snk)) = v :: l' := by
      cases hh : M.filter (fun v => decide (v ∈ snk)) with
      | nil => rw [hh] at hpos; exact absurd hpos (by simp)
      | cons v l' => exact ⟨v, l', rfl⟩
    have hvm : v ∈ M ∧ v ∈ snk := by
      have : v ∈ M.filter (fun v => decide (v ∈ snk)) := by rw [hv]; exact List.mem_cons_self ..
      rw [List.mem_filter] at this
      exact ⟨this.1, of_decide_eq_true this.2⟩
    have hgv : g v ≠ none := fun e => dis v (ce.non v hvm.1 e) hvm.2
    rw [hv] at hr2
    refine ⟨fun σ H3 => ∃ k', k' < _ ∧ WI k' σ H3, fun σ' H' h => h, ?_⟩
    refine ⟨_, rfl, x, dx, _, rfl, sB2 _ _ h0, rfl, _, rfl, _, rfl, r, _, 0, nv v, rfl, rfl, SqL.of hr2, ix_nat (n := 0) rfl, _, _, _, rfl, B, x, am, c, W, ys, src, M, g, a, v, rfl, hB, sB2, ham2, rfl, rfl, ok, fo.cap.len, ce, hc2, ha2, hvm.1, hgv, fun d u m ch hu hm hall H3 s3 ham3 => ?_⟩
    have fo3 := fo.more hne ce hvm.1 hvm.2 ch hu (Int.le_of_lt hm) hall
    have s03 : Same (del H am) H3 := (same_del (o := .lst []) s2 del_self).trans s3
    have sB3 : Same B H3 := (same_del (o := .lst []) sB hamB).trans s03
    have hth3 : H3 th = some (.dK (mapD snk fun _ => V.bl true)) := s3 _ _ (del_get hth2 tham)
    refine ⟨_, rfl, x, dx, _, rfl, sB3 _ _ h0, rfl, _, rfl, _, _, rfl, B, x, am, W, addS W.ts m d ys, src, rfl, hB, sB3, ham3, is_nats' trivial (s03 _ _ hsa), ok, by rw [addS_len]; exact fo.cap.len, nd1, lt1, fun M' g' ce' sh' c' H7 a' s7 hc0 hc7 ha7 => ?_⟩
    have ml' := ce'.len
    have thc' : th ≠ c' := fun e => by rw [← e, hth3] at hc0; cases hc0
    refine reach_go hc7 (s7 _ _ hth3) thc' (by omega) fun r' H8 s8 hr0 hr => ?_
    refine ⟨_, ?_, _, _, M', g', a', c', r', rfl, (s03.trans s7).trans s8, s8 _ _ (s7 _ _ ham3), s8 _ _ (s7 _ _ hth3), fo3, ce', sh', s8 _ _ hc7, fun v hv => (ha7 v hv).same s8, hr, rfl⟩
    have b1 := net_le fo3.cap (fun v => decide (v ∈ src))
    rw [fo3.even _ hsep] at b1
    omega
  · have hnil : M.filter (fun v => decide (v ∈ snk)) = [] := List.eq_nil_of_length_eq_zero (by have := of_decide_eq_false e; omega)
    have hmin := flow_done hne fo ce sh (mem_filter_nil hnil)
    refine ⟨_, rfl, sortedD_of hc2 ce.nd (by omega) fun L p hL hs hp => ?_⟩
    have e1 : (fun v => decide (v ∈ M)) = fun v => decide (v ∈ L) := by
      funext v
      exact decide_eq_decide.mpr hL.mem_iff.symm
    rw [e1] at hmin
    refine q L ys hmin (hL.nodup_iff.mpr ce.nd) (by rw [hL.length_eq]; exact ml) p _ (s2.trans (same_upd hp)) ((same_upd hp) _ _ ham2) (s2.free hp) (fun e => by rw [e, ham2] at hp; cases hp) upd_same
def spFlow (K : PySem.W.Frag) : Sp := fun vs H Q _ => ∃ v c k, vs = [v, c, k] ∧ ∃ (W : Web) (src snk : List Nat), Is Any H v (webD W) ∧ WOk W ∧ Is Any H c (natsD src) ∧ Is Any H k (natsD snk) ∧ src.Nodup ∧ (∀ s ∈ src, s < W.n) ∧ snk.Nodup ∧ (∀ s ∈ snk, s < W.n) ∧ (∀ s ∈ src, s ∉ snk) ∧
  ∀ (L : List Nat) (xs : List Int), Gives (.tuple [.int (minCut W src snk), .list (xs.map PyData.int), natsD L]) H Q
-- flow: 0=web 1=sources 2=sinks 3=flowing 4=side
theorem sc_flow : FnScope ["web", "sources", "sinks", "flowing", "side"] ["web", "sources", "sinks"] (defScope sFlow) := ⟨rfl, rfl, rfl, by decide +kernel, rfl, by decide +kernel, by decide +kernel⟩
theorem ok_flow (T : Tx K mg) : DefOk P w K mg base "flow" 4 ["web", "sources", "sinks"] (spFlow K) := by
  have O_Flowing := ok_Flowing___init__ (P := P) (w := w) (base := base) T
  have O_Flowing_fill := ok_Flowing_fill (P := P) (w := w) (base := base) T
  have O_side_weight := ok_side_weight (P := P) (w := w) (base := base) T
  refine DefOk.mk' T.g_flow (fn_ok T.d_flow sc_flow (fun _ _ _ _ _ _ us hl => match us, hl with | [_, _, _], _ => rfl) (fun vs H Q E h => ?_) (fun cdv A outer s H vs Q E hr h => ?_))
  · obtain ⟨_, _, _, rfl, _⟩ := h
    rfl
  have hu := hu_of hr
  obtain ⟨v0, v1, v2, rfl, h⟩ := h
  refine ⟨_, (pss_cons (ps_set (i := 3) sc_flow.nd rfl (.inl rfl) (pmake O_Flowing (hr.mono (by decide)) (by rfl) (pa_cons (pv 0) pa_nil)))
     (pss_cons (ps_set (i := 4) sc_flow.nd rfl (.inl rfl) (pmeth O_Flowing_fill (hr.mono (by decide)) (pv 3) (pa_cons (pv 1) (pa_cons (pv 2) pa_nil))))
     (pss_one (ps_ret (pe_tup (pa_cons (pcall O_side_weight (hr.mono (by decide)) (by rfl) (pa_cons (pv 0) (pa_cons (pv 4) pa_nil))) (pa_cons (pe_fld (pv 3) rfl) (pa_cons (pv 4) pa_nil)))))))), ?_⟩
  obtain ⟨W, src, snk, hw, ok, hsrc, hsnk, nd1, lt1, nd2, lt2, dis, q⟩ := h
  have n1 := ok.n1
  refine ⟨_, rfl, ?_⟩
  intro x dx hx hdx hxd
  have sx : Same H (upd (upd H dx (.own x)) x (.ins (He.ga K "Flowing") dx [])) := Same.mut (same_upd hdx) hx
  refine ⟨_, _, rfl, x, dx, H, W, rfl, upd_same, sx, hx, hw, ok, fun H2 B am sB hB sB2 ham0 ham => ⟨rfl, ?_⟩⟩
  obtain ⟨dx', vt, vn, h0, h1, h2, hamB⟩ := hB.ex
  have sd : Same H (del H2 am) := same_del (o := .lst []) (sB.trans sB2) ham0
  have cap0 : CapOk W.ts (List.replicate W.ts.length (0 : Int)) := by
    refine ⟨List.length_replicate, fun i t ht => ?_⟩
    have hg := ok.good.1 t (List.mem_of_getElem? ht)
    have : (List.replicate W.ts.length (0 : Int)).getD i 0 = 0 := by
      rw [List.getD_eq_getElem?_getD, List.getElem?_replicate]
      split <;> rfl
    rw [this]
    omega
  have net0 : ∀ (ts : List Tie) (S : Nat → Bool), net ts (List.replicate ts.length (0 : Int)) S = 0 := by
    intro ts S
    induction ts with
    | nil => rfl
    | cons t ts ih =>
      show 0 * _ + net ts (List.replicate ts.length 0) S = 0
      rw [ih]
      omega
  refine ⟨_, rfl, x, dx', _, rfl, sB2 _ _ h0, rfl, _, rfl, _, rfl, _, _, _, rfl, B, x, am, W, _, src, snk, 0, rfl, hB, sB2, ham, hsrc.same sd, hsnk.same sd, ok, nd1, lt1, nd2, lt2, dis, ⟨cap0, fun S _ => net0 _ S⟩, fun L ys hmin ndL lL p H3 s3 ham3 hp0 hpam hp3 => ?_⟩
  have s03 := sd.trans s3
  refine ⟨_, rfl, _, rfl, _, _, rfl, W, L, hw.same s03, ok, is_nats' trivial hp3, ndL, by omega, fun H4 s4 => ?_⟩
  have sB4 : Same B H4 := ((same_del (o := .lst []) sB2 hamB).trans s3).trans s4
  refine ⟨_, rfl, x, _, dx', _, .ref am, rfl, sB4 _ _ h0, T.c_Flowing, T.n_Flowing_amounts, rfl, _, rfl, sz3, fun t ht => ?_⟩
  rw [← hmin]
  have st := same_upd (o := .tup [.int (minCut W src snk), .ref am, .ref p]) ht
  refine q L ys _ _ ((s03.trans s4).trans st) (.tup upd_same (.cons (.int _) (.cons (.lst ham0 (st _ _ (s4 _ _ ham3)) (isAll_ints.mpr rfl)) (.cons (is_nats' (sd.free hp0) (st _ _ (s4 _ _ hp3))) .nil))))
end
end PW
set_option Elab.async false
set_option linter.all false
set_option maxRecDepth 100000
set_option maxHeartbeats 4000000
namespace PW
open PySem PySem.Spec PyProof.Rows L2
/-- places that have owners already -/
structure Given (n : Nat) (posts M : List Nat) (o : Nat → Nat) : Prop where
  nd : M.Nodup
  lt : ∀ v ∈ M, v < n
  own : ∀ v ∈ M, o v ∈ posts
  post : ∀ p ∈ posts, p ∈ M ∧ o p = p
theorem Given.len {n : Nat} {posts M : List Nat} {o : Nat → Nat} (g : Given n posts M o) : M.length ≤ n := by
  have := nodup_length_le g.nd (b := List.range n) fun v hv => List.mem_range.mpr (g.lt v hv)
  rw [List.length_range] at this
  exact this
abbrev giveO (M : List Nat) (o : Nat → Nat) : HO := .dK (mapD M fun v => nv (o v))
def givL (n : Nat) (M : List Nat) (o : Nat → Nat) (p : Nat) : List Nat := (List.range n).filter fun v => decide (v ∈ M) && (o v == p)
theorem mem_givL {n : Nat} {M : List Nat} {o : Nat → Nat} {p v : Nat} (h : ∀ v ∈ M, v < n) : v ∈ givL n M o p ↔ v ∈ M ∧ o v = p := by
  unfold givL
  rw [List.mem_filter, List.mem_range]
  simp only [Bool.and_eq_true, decide_eq_true_eq, beq_iff_eq]
  exact ⟨fun q => q.2, fun q => ⟨h v q.1, q⟩⟩
theorem givL_lt (n : Nat) (M : List Nat) (o : Nat → Nat) (p : Nat) : (givL n M o p).Pairwise (· < ·) := (range_lt n).filter _
theorem frz_get {M : List Nat} {f : Nat → V} {v : Nat} {H : Hp} {a : Addr} {od : Obj} (e : H a = some (.frz od (.dK (mapD M f)))) (h : v ∈ M) : DGet H a (nv v) (some (f v)) := .inl ⟨_, nk v, .inr ⟨od, e⟩, rfl, by rw [mapD_val, if_pos h]⟩
section
variable {P : Program} {w : World} {K : PySem.W.Frag} {mg : Str → Option Value} {base : Heap}
def spGivenTo (K : PySem.W.Frag) : Sp := fun vs H Q _ => ∃ v c, vs = [v, c] ∧ ∃ (n : Nat) (posts M : List Nat) (o : Nat → Nat) (d : Addr), Is Any H v (natsD posts) ∧ posts.length ≤ 100 ∧ n ≤ 100 ∧ c = .ref d ∧ H d = some (giveO M o) ∧ Given n posts M o ∧ Gives (.list (posts.map fun p => natsD (givL n M o p))) H Q
-- given_to: 0=posts 1=given 2=place 3=post
theorem sc_given_to : FnScope ["posts", "given", "place", "post"] ["posts", "given"] (defScope sGivenTo) := ⟨rfl, rfl, rfl, by decide +kernel, rfl, by decide +kernel, by decide +kernel⟩
theorem ok_given_to (T : Tx K mg) : DefOk P w K mg base "given_to" 1 ["posts", "given"] (spGivenTo K) := by
  refine DefOk.mk' T.g_given_to (fn_ok T.d_given_to sc_given_to (fun _ _ _ _ _ _ us hl => match us, hl with | [_, _], _ => rfl) (fun vs H Q E h => ?_) (fun cdv A outer s H vs Q E hr h => ?_))
  · obtain ⟨_, _, rfl, _⟩ := h
    rfl
  have hu := hu_of hr
  obtain ⟨v0, v1, rfl, h⟩ := h
  refine ⟨_, (pss_one (ps_ret (pe_lc (own := [("post", 3)]) (g := (gName 3)) (tt := tYes) (te := (tCB (rSortedI K) (tCons (tLockE (tLc (iKeys (tVar 1)) (gName 2) (tTest (tOp rEq (tDGet (tVar 1) (tVar 2)) (tVar 3))) (tVar 2) [2])) tNil))) rfl sc_given_to.nd (pi_list (pv 0)) (blkOk_by (N := ["posts", "given", "place", "post"]) (sc := defScope sGivenTo) (by decide +kernel)) (fun _ _ _ _ _ => (pg_name (i := 3) sc_given_to.nd rfl (.inr rfl) (.inl rfl))) (fun _ _ _ _ _ => pts_nil) (fun _ _ _ _ _ => (pe_callB cr_sortedI (by rfl) T.f_sorted (by decide +kernel) (pa_cons (pe_lock (pe_lc (own := [("place", 2)]) (g := (gName 2)) (tt := (tTest (tOp rEq (tDGet (tVar 1) (tVar 2)) (tVar 3)))) (te := (tVar 2)) (wi := (iKeys (tVar 1))) rfl sc_given_to.nd (pi_keys (pv 1)) (blkOk_by (by rfl)) (fun _ _ _ _ _ => (pg_name (i := 2) sc_given_to.nd rfl (.inl rfl) (.inr rfl))) (fun _ _ _ _ _ => (pts_one (pt_cmpR op_eq (pe_dget hu (pv 1) (pv 2) (fun _ _ => rfl)) (pv 3) (nomark _)))) (fun _ _ _ _ _ => (pv 2)))) pa_nil)))))), ?_⟩
  obtain ⟨n, posts, M, o, d, hp, pl, nl, rfl, hd, gv, q⟩ := h
  obtain ⟨pa, rfl, _, hpa⟩ := is_nats hp
  have ml := gv.len
  refine ⟨_, rfl, pa, rfl, ⟨_, SqL.of hpa⟩, fun D hD => ?_⟩
  refine lc_L posts natD (fun p => some (natsD (givL n M o p))) hpa (isAll_nats (φ := Any).mpr rfl) hD (by omega) ?_ ?_
  · intro x y H1 _ s1 hy Kont Skip k1 k2
    cases hy
    have hd1 := s1 _ _ hd
    refine ⟨rfl, d, _, hd1, trivial, fun od => ?_⟩
    refine ⟨_, rfl, d, od, rfl, .inl ⟨_, upd_same, fun D2 hD2 => ?_⟩⟩
    refine lc_M M (fun v => if (o v == y) = true then some (natD v) else none) (by rw [← mapD_len M fun v => nv (o v)]; exact walk_keys) hD2 (by omega) (fun H s => s _ _ upd_same) (fun i H x H' y => by rw [y.1]; exact Same.refl _) ?_ ?_
    · rintro i x v H2 H3 hi s2 ⟨rfl, k, z, e1, rfl⟩ Kont2 Skip2 k3 k4
      unfold mapD at e1
      rw [List.getElem?_map, hi] at e1
      cases e1
      refine ⟨rfl, _, rfl, _, rfl, d, _, rfl, frz_get (s2 _ _ upd_same) (List.mem_of_getElem? hi), _, rfl, rfl, _, rfl, ?_⟩
      rw [eq_nats]
      exact ifB (fun e => ⟨_, rfl, k3 _ _ _ (Same.refl _) (if_pos e) (.int _)⟩) fun e => k4 _ (Same.refl _) (if_neg (by rw [e]; exact Bool.false_ne_true))
    · intro H2 s2 h2
      rw [filterMap_if] at h2
      obtain ⟨r, e, hr0, hr⟩ := is_nats h2
      cases e
      have rd : D2 ≠ d := hr0.ne upd_same
      have su := same_unlock hd1 s2
      refine ⟨s2 _ _ upd_same, D2, (M.filter fun v => o v == y).map fun v : Nat => (v : Int), rfl, SqL.of (by rw [nv_int, upd_ne rd]; exact hr), fun ns' p h5 h6 hp => ?_⟩
      obtain ⟨L, rfl, h7, h8⟩ := sortN h5 h6 (gv.nd.filter _)
      have eL : L = givL n M o y := sorted_unique h8 (givL_lt n M o y) fun v => by
        rw [h7.mem_iff, mem_givL gv.lt, List.mem_filter, beq_iff_eq]
      subst eL
      rw [nv_int]
      exact k1 _ _ _ (su.trans (same_upd hp)) rfl (is_nats' (su.free hp) upd_same)
  · intro H1 s1 h1
    rw [filterMap_some] at h1
    exact q _ _ s1 h1
def spWithGiven (K : PySem.W.Frag) : Sp := fun vs H Q _ => ∃ v c k, vs = [v, c, k] ∧ ∃ (M : List Nat) (o : Nat → Nat) (d : Addr) (u p : Nat), v = .ref d ∧ H d = some (giveO M o) ∧ M.length ≤ 100 ∧ u ∉ M ∧ c = nv u ∧ k = nv p ∧
  ∀ c H', Same H H' → H c = none → H' c = some (giveO (M ++ [u]) (fun v => if v = u then p else o v)) → Q (.ref c) H'
-- with_given: 0=given 1=place 2=post 3=made
theorem sc_with_given : FnScope ["given", "place", "post", "made"] ["given", "place", "post"] (defScope sWithGiven) := ⟨rfl, rfl, rfl, by decide +kernel, rfl, by decide +kernel, by decide +kernel⟩
theorem ok_with_given (T : Tx K mg) : DefOk P w K mg base "with_given" 1 ["given", "place", "post"] (spWithGiven K) := by
  refine DefOk.mk' T.g_with_given (fn_ok T.d_with_given sc_with_given (fun _ _ _ _ _ _ us hl => match us, hl with | [_, _, _], _ => rfl) (fun vs H Q E h => ?_) (fun cdv A outer s H vs Q E hr h => ?_))
  · obtain ⟨_, _, _, rfl, _⟩ := h
    rfl
  have hu := hu_of hr
  obtain ⟨v0, v1, v2, rfl, h⟩ := h
  refine ⟨_, (pss_cons (ps_set (i := 3) sc_with_given.nd rfl (.inl rfl) (pe_callTy call_dictD (by rfl) T.f_dict (by decide +kernel) (pa_cons (pv 0) pa_nil)))
     (pss_cons (ps_dput hu (pv 3) (pv 1) (pv 2) rfl)
     (pss_one (ps_ret (pv 3))))), ?_⟩
  obtain ⟨M, o, d, u, p, rfl, hd, hm, hu, rfl, rfl, q⟩ := h
  refine ⟨_, rfl, d, _, rfl, .inl hd, fun c hc => ?_⟩
  refine ⟨_, rfl, _, rfl, _, rfl, c, _, rfl, DPut.k (k := nk u) upd_same (smallLt (by rw [mapD_len]; omega)), _, rfl, q c _ ((same_upd hc).mut hc) hc ?_⟩
  rw [upd_same, mapD_new _ hu]
  congr 2
  refine mapD_congr fun v _ => ?_
  show (if v = u then nv p else nv (o v)) = nv (if v = u then p else o v)
  split <;> rfl
/-- a bound maker as it stands -/
structure BoundAt (K : PySem.W.Frag) (H : Hp) (x : Addr) (W : Web) (posts : List Nat) (wt : Int) : Prop where
  ex : ∃ dx vw vp vl, ∃ ls : List Int, H x = some (.ins (He.ga K "Bounding") dx [("web", vw), ("posts", vp), ("weight", .int wt), ("loads", vl)]) ∧ Is Any H vw (webD W) ∧ Is Any H vp (natsD posts) ∧ ls.length = W.n ∧ Is Any H vl (.list (ls.map PyData.int))
theorem BoundAt.same {H H' : Hp} {x : Addr} {W : Web} {posts : List Nat} {wt : Int} (h : BoundAt K H x W posts wt) (s : Same H H') : BoundAt K H' x W posts wt := by
  obtain ⟨dx, vw, vp, vl, ls, h0, h1, h2, h3, h4⟩ := h.ex
  exact ⟨dx, vw, vp, vl, ls, s _ _ h0, h1.same s, h2.same s, h3, h4.same s⟩
def spBoundingInit (K : PySem.W.Frag) : Sp := fun vs H Q _ => ∃ s v c k, vs = [s, v, c, k] ∧ ∃ (x dx : Addr) (H0 : Hp) (W : Web) (posts : List Nat) (wt : Int), s = .ref x ∧ H x = some (.ins (He.ga K "Bounding") dx []) ∧ Same H0 H ∧ H0 x = none ∧
  Is Any H0 v (webD W) ∧ WOk W ∧ Is Any H0 c (natsD posts) ∧ k = .int wt ∧ ∀ H', Same H0 H' → BoundAt K H' x W posts wt → Q .non H'
-- Bounding.__init__: 0=self 1=web 2=posts 3=weight 4=a 5=b 6=own
theorem sc_Bounding___init__ : FnScope ["self", "web", "posts", "weight", "a", "b", "own"] ["self", "web", "posts", "weight"] (defScope sBoundingInit) := ⟨rfl, rfl, rfl, by decide +kernel, rfl, by decide +kernel, by decide +kernel⟩
theorem ok_Bounding___init__ (T : Tx K mg) : MakeOk P w K mg base "Bounding" (He.ga K "Bounding") 1 ["self", "web", "posts", "weight"] (spBoundingInit K) := by
  refine MakeOk.mk' T.g_Bounding T.k_Bounding (fn_ok T.d_Bounding___init__ sc_Bounding___init__ (fun _ _ _ _ _ _ us hl => match us, hl with | [_, _, _, _], _ => rfl) (fun vs H Q E h => ?_) (fun cdv A outer s H vs Q E hr h => ?_))
  · obtain ⟨_, _, _, _, rfl, _⟩ := h
    rfl
  have hu := hu_of hr
  obtain ⟨v0, v1, v2, v3, rfl, h⟩ := h
  refine ⟨_, (pss_cons (ps_fld (pv 0) (pv 1) rfl)
     (pss_cons (ps_fld (pv 0) (pe_callTy call_list_of (by rfl) T.f_list (by decide +kernel) (pa_cons (pv 2) pa_nil)) rfl)
     (pss_cons (ps_fld (pv 0) (pv 3) rfl)
     (pss_cons (ps_fld (pv 0) (pe_op op_rep (pe_lst (pa_cons pe_int pa_nil)) (pe_ix ix_tup (pv 1) pe_int (fun _ _ => rfl))) rfl)
     (pss_one (ps_for PassesOwn.never rfl (pi_tup (pe_ix ix_tup (pv 1) pe_int (fun _ _ => rfl))) (pg_tup rfl (pgs_cons (pg_name (i := 4) sc_Bounding___init__.nd rfl (.inl rfl) (.inl rfl)) (pgs_cons (pg_name (i := 5) sc_Bounding___init__.nd rfl (.inl rfl) (.inl rfl)) (pgs_cons (pg_name (i := 6) sc_Bounding___init__.nd rfl (.inl rfl) (.inl rfl)) pgs_nil))))
     (pss_cons (ps_asg (pe_op op_add (pe_ix ix_list (pe_fld (pv 0) rfl) (pv 4) (fun _ _ => rfl)) (pv 6)) (pg_sub (pe_fld (pv 0) rfl) (pv 4) set_list))
     (pss_one (ps_asg (pe_op op_add (pe_ix ix_list (pe_fld (pv 0) rfl) (pv 5) (fun _ _ => rfl)) (pv 6)) (pg_sub (pe_fld (pv 0) rfl) (pv 5) set_list)))))))))), ?_⟩
  obtain ⟨x, dx, H0, W, posts, wt, rfl, hx0, s0, hxn, hw, ok, hp, rfl, q⟩ := h
  have n1 := ok.n1
  obtain ⟨pw, pq, xs, rfl, hw1, hw2, hx⟩ := is_web hw
  obtain ⟨pa, rfl, _, hpa⟩ := is_nats hp
  refine ⟨_, rfl, _, rfl, x, _, dx, _, rfl, hx0, T.c_Bounding, T.n_Bounding_web, by decide, ?_⟩
  have hx1 : upd H x (.ins (He.ga K "Bounding") dx (putF "web" (.ref pw) [])) x = some (.ins (He.ga K "Bounding") dx [("web", .ref pw)]) := upd_same
  have s1 := s0.mut (o := .ins (He.ga K "Bounding") dx (putF "web" (.ref pw) [])) hxn
  generalize upd H x (.ins (He.ga K "Bounding") dx (putF "web" (.ref pw) [])) = h1 at *
  refine ⟨_, rfl, pa, _, rfl, .inl (SqL.of (s1 _ _ hpa)), fun l1 hl1 => ?_⟩
  have l1x : x ≠ l1 := fun e => by rw [← e, hx1] at hl1; cases hl1
  have s2 := s1.trans (same_upd (o := .lst (posts.map nv)) hl1)
  have hx2 : upd h1 l1 (.lst (posts.map nv)) x = some (.ins (He.ga K "Bounding") dx [("web", .ref pw)]) := by rw [upd_ne l1x]; exact hx1
  have hl1' : upd h1 l1 (.lst (posts.map nv)) l1 = some (.lst (posts.map nv)) := upd_same
  generalize upd h1 l1 (.lst (posts.map nv)) = h2 at *
  refine ⟨_, rfl, x, _, dx, _, rfl, hx2, T.c_Bounding, T.n_Bounding_posts, by simp, ?_⟩
  have hx3 : upd h2 x (.ins (He.ga K "Bounding") dx (putF "posts" (.ref l1) [("web", .ref pw)])) x = some (.ins (He.ga K "Bounding") dx [("web", .ref pw), ("posts", .ref l1)]) := upd_same
  have s3 := s2.mut (o := .ins (He.ga K "Bounding") dx (putF "posts" (.ref l1) [("web", .ref pw)])) hxn
  have hl13 : upd h2 x (.ins (He.ga K "Bounding") dx (putF "posts" (.ref l1) [("web", .ref pw)])) l1 = some (.lst (posts.map nv)) := by rw [upd_ne (Ne.symm l1x)]; exact hl1'
  generalize upd h2 x (.ins (He.ga K "Bounding") dx (putF "posts" (.ref l1) [("web", .ref pw)])) = h3 at *
  refine ⟨_, rfl, _, rfl, x, _, dx, _, rfl, hx3, T.c_Bounding, T.n_Bounding_weight, by simp, ?_⟩
  have hx4 : upd h3 x (.ins (He.ga K "Bounding") dx (putF "weight" (.int wt) [("web", .ref pw), ("posts", .ref l1)])) x = some (.ins (He.ga K "Bounding") dx [("web", .ref pw), ("posts", .ref l1), ("weight", .int wt)]) := upd_same
  have s4 := s3.mut (o := .ins (He.ga K "Bounding") dx (putF "weight" (.int wt) [("web", .ref pw), ("posts", .ref l1)])) hxn
  have hl14 : upd h3 x (.ins (He.ga K "Bounding") dx (putF "weight" (.int wt) [("web", .ref pw), ("posts", .ref l1)])) l1 = some (.lst (posts.map nv)) := by rw [upd_ne (Ne.symm l1x)]; exact hl13
  generalize upd h3 x (.ins (He.ga K "Bounding") dx (putF "weight" (.int wt) [("web", .ref pw), ("posts", .ref l1)])) = h4 at *
  refine ⟨sz1, fun l0 hl0 => ?_⟩
  have sl := same_upd (o := .lst [.int 0]) hl0
  have hl01 : upd h4 l0 (.lst [.int 0]) l0 = some (.lst [.int 0]) := upd_same
  have hx5 := sl _ _ hx4
  have hl15 := sl _ _ hl14
  have s5 := s4.trans sl
  generalize upd h4 l0 (.lst [.int 0]) = h5 at *
  refine ⟨_, rfl, pw, _, 0, nv W.n, rfl, rfl, SqT.of (s5 _ _ hw1), rfl, l0, W.n, _, rfl, rfl, hl01, by omega, by omega, small (by simp; omega), fun lo hlo => ?_⟩
  rw [Int.toNat_natCast]
  have e0 : (List.replicate W.n [V.int 0]).flatten = (List.replicate W.n (0 : Int)).map V.int := by simp
  rw [e0]
  have sa := same_upd (o := .lst ((List.replicate W.n (0 : Int)).map V.int)) hlo
  have lox : x ≠ lo := fun e => by rw [← e, hx5] at hlo; cases hlo
  have lo1 : l1 ≠ lo := fun e => by rw [← e, hl15] at hlo; cases hlo
  have lo0 : H0 lo = none := s5.free hlo
  have hx6 := sa _ _ hx5
  have hl16 := sa _ _ hl15
  have hlo6 : upd h5 lo (.lst ((List.replicate W.n (0 : Int)).map V.int)) lo = some (.lst ((List.replicate W.n (0 : Int)).map V.int)) := upd_same
  have s6 := s5.trans sa
  generalize upd h5 lo (.lst ((List.replicate W.n (0 : Int)).map V.int)) = h6 at *
  refine ⟨_, rfl, x, _, dx, _, rfl, hx6, T.c_Bounding, T.n_Bounding_loads, by simp, ?_⟩
  have hx7 : upd h6 x (.ins (He.ga K "Bounding") dx (putF "loads" (.ref lo) [("web", .ref pw), ("posts", .ref l1), ("weight", .int wt)])) x = some (.ins (He.ga K "Bounding") dx [("web", .ref pw), ("posts", .ref l1), ("weight", .int wt), ("loads", .ref lo)]) := upd_same
  have s7 := s6.mut (o := .ins (He.ga K "Bounding") dx (putF "loads" (.ref lo) [("web", .ref pw), ("posts", .ref l1), ("weight", .int wt)])) hxn
  have hl17 : upd h6 x (.ins (He.ga K "Bounding") dx (putF "loads" (.ref lo) [("web", .ref pw), ("posts", .ref l1), ("weight", .int wt)])) l1 = some (.lst (posts.map nv)) := by rw [upd_ne (Ne.symm l1x)]; exact hl16
  have hlo7 : upd h6 x (.ins (He.ga K "Bounding") dx (putF "loads" (.ref lo) [("web", .ref pw), ("posts", .ref l1), ("weight", .int wt)])) lo = some (.lst ((List.replicate W.n (0 : Int)).map V.int)) := by rw [upd_ne (Ne.symm lox)]; exact hlo6
  generalize upd h6 x (.ins (He.ga K "Bounding") dx (putF "loads" (.ref lo) [("web", .ref pw), ("posts", .ref l1), ("weight", .int wt)])) = h7 at *
  have s7d : Same H0 (del h7 lo) := same_del (o := .lst []) s7 lo0
  refine ⟨_, rfl, pw, _, 1, .ref pq, rfl, rfl, SqT.of (s7 _ _ hw1), rfl, pq, rfl, ⟨_, SqT.of (s7 _ _ hw2)⟩, ?_⟩
  refine for_T W.ts tieD hw2 hx (fun d σ H2 => ∃ (ls : List Int) (x4 x5 x6 : Option V), σ = [some (.ref x), some (.ref pw), some (.ref pa), some (.int wt), x4, x5, x6] ∧ Same (del h7 lo) H2 ∧ H2 lo = some (.lst (ls.map V.int)) ∧ ls.length = W.n) ⟨_, _, _, _, rfl, del_same, hlo7, by simp⟩ (fun d σ H2 ⟨_, _, _, _, _, p, _⟩ => s7d.trans p) ?_ ?_
  · rintro d y r z _ H2 e ⟨ls, x4, x5, x6, rfl, s2, hlo2, hls⟩ hy
    obtain ⟨b, rfl, hb⟩ := is_tie hy
    have hy0 : y ∈ W.ts := by rw [e]; simp
    have g := ok.good.1 y hy0
    have hx2 := s2 _ _ (del_get hx7 lox)
    refine ⟨b, _, rfl, SqT.of hb, rfl, _, _, rfl, _, _, rfl, _, _, rfl, rfl, ?_⟩
    refine ⟨_, rfl, x, _, dx, _, .ref lo, rfl, hx2, T.c_Bounding, T.n_Bounding_loads, rfl, _, rfl, lo, _, _, _, rfl, rfl, SqL.of hlo2, at_ints (by omega), _, rfl, _, _, rfl, rfl, ?_⟩
    refine ⟨_, rfl, x, _, dx, _, .ref lo, rfl, hx2, T.c_Bounding, T.n_Bounding_loads, rfl, _, rfl, lo, _, _, _, rfl, rfl, hlo2, ixN_at (by rw [List.length_map]; omega), ?_⟩
    rw [← List.map_set]
    have s3 := s2.mut (o := .lst ((ls.set y.1 (ls.getD y.1 0 + y.2.2)).map V.int)) del_self
    have hlo3 : upd H2 lo (.lst ((ls.set y.1 (ls.getD y.1 0 + y.2.2)).map V.int)) lo = some (.lst ((ls.set y.1 (ls.getD y.1 0 + y.2.2)).map V.int)) := upd_same
    have hx3 : upd H2 lo (.lst ((ls.set y.1 (ls.getD y.1 0 + y.2.2)).map V.int)) x = _ := (upd_ne lox).trans hx2
    have hls3 : (ls.set y.1 (ls.getD y.1 0 + y.2.2)).length = W.n := by rw [List.length_set]; exact hls
    generalize ls.set y.1 (ls.getD y.1 0 + y.2.2) = ls2 at *
    refine ⟨_, rfl, x, _, dx, _, .ref lo, rfl, hx3, T.c_Bounding, T.n_Bounding_loads, rfl, _, rfl, lo, _, _, _, rfl, rfl, SqL.of hlo3, at_ints (by omega), _, rfl, _, _, rfl, rfl, ?_⟩
    refine ⟨_, rfl, x, _, dx, _, .ref lo, rfl, hx3, T.c_Bounding, T.n_Bounding_loads, rfl, _, rfl, lo, _, _, _, rfl, rfl, hlo3, ixN_at (by rw [List.length_map]; omega), ?_⟩
    rw [← List.map_set]
    exact ⟨_, _, _, _, rfl, s3.mut del_self, upd_same, by rw [List.length_set]; exact hls3⟩
  · rintro _ H2 ⟨ls, x4, x5, x6, rfl, s2, hlo2, hls⟩
    refine q _ (s7d.trans s2) ⟨dx, _, _, _, ls, s2 _ _ (del_get hx7 lox), hw.same (s7d.trans s2), is_nats' trivial (s2 _ _ (del_get hl17 lo1)), hls, .lst trivial hlo2 (isAll_ints.mpr rfl)⟩
end
end PW
set_option Elab.async false
set_option linter.all false
set_option maxRecDepth 100000
set_option maxHeartbeats 4000000
namespace PW
open PySem PySem.Spec PyProof.Rows L2
abbrev flD (z : Int × List Int × List Nat) : PyData := .tuple [.int z.1, .list (z.2.1.map PyData.int), natsD z.2.2]
section
variable {P : Program} {w : World} {K : PySem.W.Frag} {mg : Str → Option Value} {base : Heap}
def spBoundingFlowsOf (K : PySem.W.Frag) : Sp := fun vs H Q _ => ∃ s c, vs = [s, c] ∧ ∃ (x : Addr) (W : Web) (posts : List Nat) (wt : Int) (M : List Nat) (o : Nat → Nat) (d : Addr), s = .ref x ∧ BoundAt K H x W posts wt ∧ WOk W ∧ POk W posts ∧ c = .ref d ∧ H d = some (giveO M o) ∧ Given W.n posts M o ∧
  ∀ fl : List (Int × List Int × List Nat), fl.length ≤ 100 → Gives (.list (fl.map flD)) H Q
-- Bounding.flows_of: 0=self 1=given 2=found 3=own 4=place
theorem sc_Bounding_flows_of : FnScope ["self", "given", "found", "own", "place"] ["self", "given"] (defScope sBoundingFlowsOf) := ⟨rfl, rfl, rfl, by decide +kernel, rfl, by decide +kernel, by decide +kernel⟩
theorem ok_Bounding_flows_of (T : Tx K mg) : MethOk P w K mg base (He.ga K "Bounding") "flows_of" 5 ["self", "given"] (spBoundingFlowsOf K) := by
  have O_flow := ok_flow (P := P) (w := w) (base := base) T
  have O_given_to := ok_given_to (P := P) (w := w) (base := base) T
  refine MethOk.mk' T.c_Bounding T.m_Bounding_flows_of (fn_ok T.d_Bounding_flows_of sc_Bounding_flows_of (fun _ _ _ _ _ _ us hl => match us, hl with | [_, _], _ => rfl) (fun vs H Q E h => ?_) (fun cdv A outer s H vs Q E hr h => ?_))
  · obtain ⟨_, _, rfl, _⟩ := h
    rfl
  have hu := hu_of hr
  obtain ⟨v0, v1, rfl, h⟩ := h
  refine ⟨_, (pss_cons (ps_set (i := 2) sc_Bounding_flows_of.nd rfl (.inl rfl) (pe_lst pa_nil))
     (pss_cons (ps_for PassesOwn.never rfl (pi_list (pcall O_given_to (hr.mono (by decide)) (by rfl) (pa_cons (pe_fld (pv 0) rfl) (pa_cons (pv 1) pa_nil)))) (pg_name (i := 3) sc_Bounding_flows_of.nd rfl (.inr rfl) (.inl rfl))
     (pss_one (ps_expr (pe_bm PySem.F.plainAttrs_list PySem.F.slot_list_append PySem.F.type_list_append mt_append (pv 2) (pa_cons (pcall O_flow (hr.mono (by decide)) (by rfl) (pa_cons (pe_fld (pv 0) rfl) (pa_cons (pv 3) (pa_cons (pe_callB cr_sortedI (by rfl) T.f_sorted (by decide +kernel) (pa_cons (pe_lock (pe_lc (own := [("place", 4)]) (g := (gName 4)) (tt := (tTest (tOp (rIn K true) (tVar 4) (tVar 3)))) (te := (tVar 4)) rfl sc_Bounding_flows_of.nd (pi_keys (pv 1)) (blkOk_by (N := ["self", "given", "found", "own", "place"]) (sc := defScope sBoundingFlowsOf) (by decide +kernel)) (fun _ _ _ _ _ => (pg_name (i := 4) sc_Bounding_flows_of.nd rfl (.inl rfl) (.inr rfl))) (fun _ _ _ _ _ => (pts_one (pt_cmpR op_notIn_seq (pv 4) (pv 3) (by rfl)))) (fun _ _ _ _ _ => (pv 4)))) pa_nil)) pa_nil)))) pa_nil)))))
     (pss_one (ps_ret (pv 2))))), ?_⟩
  obtain ⟨x, W, posts, wt, M, o, d, rfl, hB, ok, pok, rfl, hd, gv, q⟩ := h
  have n1 := ok.n1
  have pl := pok.len
  have ml := gv.len
  obtain ⟨dx, vw, vp, vl, ls, h0, h1, h2, h3, h4⟩ := hB.ex
  refine ⟨sz0, fun F hF => ?_⟩
  have s1 := same_upd (o := .lst []) hF
  refine ⟨_, rfl, x, _, dx, _, vp, rfl, s1 _ _ h0, T.c_Bounding, T.n_Bounding_posts, rfl, _, rfl, _, _, rfl, W.n, posts, M, o, d, h2.same s1, by omega, by omega, rfl, s1 _ _ hd, gv, fun r H2 s2 hr2 => ?_⟩
  obtain ⟨a, xs, rfl, ha0, ha, hx⟩ := is_list hr2
  have hF2 : H2 F = some (.lst []) := s2 _ _ upd_same
  have nt := not_tup hF2
  have sD : Same H (del H2 F) := same_del (o := .lst []) (s1.trans s2) hF
  refine ⟨a, rfl, ⟨_, SqL.of ha⟩, ?_⟩
  refine for_L (H0 := del H2 F) posts (fun p => natsD (givL W.n M o p)) (del_get ha (ha0.ne upd_same)) (hx.del (fun a q => q.ne upd_same) nt) (fun e σ H3 => ∃ (fs : List V) (fl : List (Int × List Int × List Nat)) (x3 : Option V), σ = [some (.ref x), some (.ref d), some (.ref F), x3, none] ∧ Same (del H2 F) H3 ∧ H3 F = some (.lst fs) ∧ fs.length = e.length ∧ IsAll (fun a => New H a ∧ a ≠ F) H3 fs (fl.map flD))
    ⟨[], [], _, rfl, del_same, hF2, rfl, .nil⟩ (fun d σ H3 ⟨_, _, _, _, p, _⟩ => p) ?_ ?_
  · rintro e p r z _ H3 e3 ⟨fs, fl, x3, rfl, s3, hF3, hfl, hfs⟩ hz
    have s03 := sD.trans s3
    have hel : e.length ≤ 50 := by
      have := congrArg List.length e3
      rw [List.length_append] at this
      omega
    obtain ⟨ob, rfl, hob0, hob⟩ := is_nats hz
    have hd3 := s03 _ _ hd
    refine ⟨_, rfl, list_ty hF3, _, rfl, x, _, dx, _, vw, rfl, s03 _ _ h0, T.c_Bounding, T.n_Bounding_web, rfl, _, rfl, d, _, hd3, trivial, fun od => ?_⟩
    refine ⟨_, rfl, d, od, rfl, .inl ⟨_, upd_same, fun D2 hD2 => ?_⟩⟩
    have obd : ob ≠ d := fun e => by rw [e, hd3] at hob; cases hob
    have hob4 : upd H3 d (.frz od (giveO M o)) ob = some (.lst ((givL W.n M o p).map nv)) := by rw [upd_ne obd]; exact hob
    refine lc_M M (fun v => if decide (v ∉ givL W.n M o p) = true then some (natD v) else none) (by rw [← mapD_len M fun v => nv (o v)]; exact walk_keys) hD2 (by omega) (fun H s => s _ _ upd_same) (fun i H x H' y => by rw [y.1]; exact Same.refl _) ?_ ?_
    · rintro i x v H4 H5 hi s4 ⟨rfl, k, z, e1, rfl⟩ Kont2 Skip2 k3 k4
      unfold mapD at e1
      rw [List.getElem?_map, hi] at e1
      cases e1
      refine ⟨rfl, _, rfl, _, rfl, ob, _, rfl, .inl (SqL.of (s4 _ _ hob4)), rfl, flat_nats _, _, rfl, ?_⟩
      have ekv : kV (nk v) = nv v := rfl
      rw [ekv, inV_natsN]
      exact ifB (fun e => ⟨_, rfl, k3 _ _ _ (Same.refl _) (if_pos e) (.int _)⟩) fun e => k4 _ (Same.refl _) (if_neg (by rw [e]; exact Bool.false_ne_true))
    · intro H4 s4 h4'
      rw [filterMap_if] at h4'
      obtain ⟨r4, e4, hr0, hr⟩ := is_nats h4'
      cases e4
      have rd : D2 ≠ d := hr0.ne upd_same
      have su := same_unlock hd3 s4
      refine ⟨s4 _ _ upd_same, D2, (M.filter fun v => decide (v ∉ givL W.n M o p)).map fun v : Nat => (v : Int), rfl, SqL.of (by rw [nv_int, upd_ne rd]; exact hr), fun ns' sk h5 h6 hsk => ?_⟩
      obtain ⟨L, rfl, h7, h8⟩ := sortN h5 h6 (gv.nd.filter _)
      rw [nv_int]
      have s35 := su.trans (same_upd (o := .lst (L.map nv)) hsk)
      have hsk5 : upd (upd H4 d (giveO M o)) sk (.lst (L.map nv)) sk = some (.lst (L.map nv)) := upd_same
      have memL : ∀ v ∈ L, v ∈ M ∧ v ∉ givL W.n M o p := fun v hv => by
        have := h7.mem_iff.mp hv
        rw [List.mem_filter] at this
        exact ⟨this.1, of_decide_eq_true this.2⟩
      generalize upd (upd H4 d (giveO M o)) sk (.lst (L.map nv)) = H5 at *
      refine ⟨_, _, _, rfl, W, givL W.n M o p, L, (h1.same s03).same s35, ok, is_nats' trivial (s35 _ _ hob), is_nats' trivial hsk5, (givL_lt _ _ _ _).imp (fun h => by omega), fun s hs => gv.lt s ((mem_givL gv.lt).mp hs).1, h8.imp (fun h => by omega), fun s hs => gv.lt s (memL s hs).1, fun s hs hL => (memL s hL).2 hs, fun L2 ys r6 H6 s6 h6 => ?_⟩
      have s36 := s35.trans s6
      have hF6 := s36 _ _ hF3
      refine ⟨F, fs, _, rfl, rfl, hF6, smallLt (by omega), fs ++ [r6], fl ++ [(minCut W (givL W.n M o p) L, ys, L2)], _, rfl, (s3.trans s36).mut del_self, upd_same, by rw [List.length_append, List.length_append, hfl]; rfl, ?_⟩
      rw [List.map_append]
      refine IsAll.upd (fun a h => h.2) (not_tup hF6) ((hfs.same s36).snoc (h6.imp fun a h => ⟨?_, ?_⟩))
      · exact s03.free (s35.free h)
      · exact New.ne h (s35 _ _ hF3)
  · rintro _ H3 ⟨fs, fl, x3, rfl, s3, hF3, hfl, hfs⟩
    exact ⟨_, rfl, q fl (by have := hfs.map_len; omega) _ _ (sD.trans s3) (.lst hF hF3 (hfs.imp fun a h => h.1))⟩
def spBoundingNextPlace (K : PySem.W.Frag) : Sp := fun vs H Q _ => ∃ s c, vs = [s, c] ∧ ∃ (x : Addr) (W : Web) (posts : List Nat) (wt : Int) (M : List Nat) (o : Nat → Nat) (d : Addr), s = .ref x ∧ BoundAt K H x W posts wt ∧ WOk W ∧ c = .ref d ∧ H d = some (giveO M o) ∧ (∃ u, u < W.n ∧ u ∉ M) ∧
  ∀ u : Nat, u < W.n → u ∉ M → GivesI u H Q
-- Bounding.next_place: 0=self 1=given 2=left 3=place 4=most
theorem sc_Bounding_next_place : FnScope ["self", "given", "left", "place", "most"] ["self", "given"] (defScope sBoundingNextPlace) := ⟨rfl, rfl, rfl, by decide +kernel, rfl, by decide +kernel, by decide +kernel⟩
theorem ok_Bounding_next_place (T : Tx K mg) : MethOk P w K mg base (He.ga K "Bounding") "next_place" 1 ["self", "given"] (spBoundingNextPlace K) := by
  refine MethOk.mk' T.c_Bounding T.m_Bounding_next_place (fn_ok T.d_Bounding_next_place sc_Bounding_next_place (fun _ _ _ _ _ _ us hl => match us, hl with | [_, _], _ => rfl) (fun vs H Q E h => ?_) (fun cdv A outer s H vs Q E hr h => ?_))
  · obtain ⟨_, _, rfl, _⟩ := h
    rfl
  have hu := hu_of hr
  obtain ⟨v0, v1, rfl, h⟩ := h
  refine ⟨_, (pss_cons (ps_setLc (i := 2) (own := [("place", 3)]) (g := (gName 3)) (tt := (tB (tDNotIn (tVar 3) (tVar 1)))) (te := (tVar 3)) rfl sc_Bounding_next_place.nd rfl rfl (sw_true rfl rfl rfl (by decide +kernel)) (pi_range1 rfl T.f_range (pa_cons (pe_ix ix_tup (pe_fld (pv 0) rfl) pe_int (fun _ _ => rfl)) pa_nil)) (blkOk_by (N := ["self", "given", "left", "place", "most"]) (sc := defScope sBoundingNextPlace) (by decide +kernel)) (fun _ _ _ _ _ => (pg_name (i := 3) sc_Bounding_next_place.nd rfl (.inl rfl) (.inr rfl))) (fun _ _ _ _ _ => (pts_one (pt_cmp (pc_dnotin hu (pv 3) (pv 1))))) (fun _ _ _ _ _ => (pv 3)))
     (pss_cons (ps_set (i := 4) sc_Bounding_next_place.nd rfl (.inr rfl) (pe_callB (cr_max rfl) (by rfl) T.f_max (by decide +kernel) (pa_cons (pe_lc (own := [("place", 3)]) (g := (gName 3)) (tt := tYes) (te := (tOp (rIxL K) (tFld K (tVar 0) "loads") (tVar 3))) rfl sc_Bounding_next_place.nd (pi_list (pv 2)) (blkOk_by (N := ["self", "given", "left", "place", "most"]) (sc := defScope sBoundingNextPlace) (by decide +kernel)) (fun _ _ _ _ _ => (pg_name (i := 3) sc_Bounding_next_place.nd rfl (.inl rfl) (.inr rfl))) (fun _ _ _ _ _ => pts_nil) (fun _ _ _ _ _ => (pe_ix ix_list (pe_fld (pv 0) rfl) (pv 3) (fun _ _ => rfl)))) pa_nil)))
     (pss_one (ps_ret (pe_ix ix_list (pe_lc (own := [("place", 3)]) (g := (gName 3)) (tt := (tTest (tOp rEq (tOp (rIxL K) (tFld K (tVar 0) "loads") (tVar 3)) (tVar 4)))) (te := (tVar 3)) rfl sc_Bounding_next_place.nd (pi_list (pv 2)) (blkOk_by (N := ["self", "given", "left", "place", "most"]) (sc := defScope sBoundingNextPlace) (by decide +kernel)) (fun _ _ _ _ _ => (pg_name (i := 3) sc_Bounding_next_place.nd rfl (.inl rfl) (.inr rfl))) (fun _ _ _ _ _ => (pts_one (pt_cmpR op_eq (pe_ix ix_list (pe_fld (pv 0) rfl) (pv 3) (fun _ _ => rfl)) (pv 4) (nomark _)))) (fun _ _ _ _ _ => (pv 3))) pe_int (fun _ _ => rfl)))))), ?_⟩
  obtain ⟨x, W, posts, wt, M, o, d, rfl, hB, ok, rfl, hd, ⟨u0, hu1, hu2⟩, q⟩ := h
  have n1 := ok.n1
  obtain ⟨dx, vw, vp, vl, ls, h0, h1, h2, h3, h4⟩ := hB.ex
  obtain ⟨pw, pq, xs, rfl, hw1, hw2, hx⟩ := is_web h1
  obtain ⟨la, rfl, _, hla⟩ := is_ints h4
  refine ⟨_, rfl, x, _, dx, _, .ref pw, rfl, h0, T.c_Bounding, T.n_Bounding_web, rfl, pw, _, 0, nv W.n, rfl, rfl, SqT.of hw1, rfl, _, rfl, by omega, by omega, fun D hD => ?_⟩
  rw [Int.toNat_natCast]
  refine lc_R W.n (fun v => if decide (v ∉ M) = true then some (natD v) else none) hD (by omega) ?_ ?_
  · intro y H1 hy s1 Kont Skip k1 k2
    refine ⟨rfl, _, rfl, _, rfl, d, _, rfl, mapD_getO y (s1 _ _ hd), _, rfl, ?_⟩
    rw [mapD_notin]
    exact ifB (fun e => ⟨_, rfl, k1 _ _ _ (Same.refl _) (if_pos e) (.int _)⟩) fun e => k2 _ (Same.refl _) (if_neg (by rw [e]; exact Bool.false_ne_true))
  · intro H1 s1 hD1
    rw [filterMap_if] at hD1
    have hmem : ∀ v, v ∈ (List.range W.n).filter (fun v => decide (v ∉ M)) ↔ v < W.n ∧ v ∉ M := fun v => by
      rw [List.mem_filter, List.mem_range]
      simp
    generalize hL : (List.range W.n).filter (fun v => decide (v ∉ M)) = L at *
    have ll : L.length ≤ 7 := by
      have := List.length_filter_le (fun v => decide (v ∉ M)) (List.range W.n)
      rw [hL, List.length_range] at this
      omega
    obtain ⟨la', e, _, hD1'⟩ := is_nats hD1
    cases e
    refine ⟨_, rfl, D, rfl, ⟨_, SqL.of hD1'⟩, fun D2 hD2 => ?_⟩
    refine lc_L L natD (fun v => some (.int (ls.getD v 0))) hD1' (isAll_nats (φ := Any).mpr rfl) hD2 (by omega) ?_ ?_
    · intro z y H2 hy0 s2 hz Kont Skip k1 k2
      cases hz
      have hy := (hmem y).mp hy0
      refine ⟨rfl, _, rfl, x, _, dx, _, .ref la, rfl, s2 _ _ (s1 _ _ h0), T.c_Bounding, T.n_Bounding_loads, rfl, _, rfl, la, _, _, _, rfl, rfl, SqL.of (s2 _ _ (s1 _ _ hla)), at_ints (by omega), k1 _ _ _ (Same.refl _) rfl (.int _)⟩
    · intro H2 s2 h2'
      rw [filterMap_some, map_int] at h2'
      obtain ⟨D', e, _, hD'⟩ := is_ints h2'
      cases e
      have hpos : 0 < L.length := List.length_pos_of_mem ((hmem u0).mpr ⟨hu1, hu2⟩)
      refine ⟨D2, _, rfl, SqL.of hD', by rw [List.length_map]; exact hpos, fun m hm hmax => ?_⟩
      have s02 := s1.trans s2
      refine ⟨_, rfl, D, rfl, ⟨_, SqL.of (s2 _ _ hD1')⟩, fun D3 hD3 => ?_⟩
      refine lc_L L natD (fun v => if decide (ls.getD v 0 = m) = true then some (natD v) else none) (s2 _ _ hD1') (isAll_nats (φ := Any).mpr rfl) hD3 (by omega) ?_ ?_
      · intro z y H3 hy0 s3 hz Kont Skip k1 k2
        cases hz
        have hy := (hmem y).mp hy0
        have s03 := s02.trans s3
        refine ⟨rfl, _, rfl, x, _, dx, _, .ref la, rfl, s03 _ _ h0, T.c_Bounding, T.n_Bounding_loads, rfl, _, rfl, la, _, _, _, rfl, rfl, SqL.of (s03 _ _ hla), at_ints (by omega), _, rfl, rfl, _, rfl, ?_⟩
        have ei : decide (V.int (ls.getD y 0) = V.int m) = decide (ls.getD y 0 = m) := by
          rw [decide_eq_decide]
          exact ⟨V.int.inj, congrArg V.int⟩
        rw [ei]
        exact ifB (fun e => ⟨_, rfl, k1 _ _ _ (Same.refl _) (if_pos e) (.int _)⟩) fun e => k2 _ (Same.refl _) (if_neg (by rw [e]; exact Bool.false_ne_true))
      · intro H3 s3 h3'
        rw [filterMap_if] at h3'
        obtain ⟨r, e, _, hr⟩ := is_nats h3'
        cases e
        obtain ⟨v0, hv0, hv1⟩ := List.mem_map.mp hm
        obtain ⟨u, l', hu⟩ : ∃ u l', L.filter (fun v => decide (ls.getD v 0 = m)) = u :: l' := by
          cases hh : L.filter (fun v => decide (ls.getD v 0 = m)) with
          | nil =>
            have : v0 ∈ L.filter (fun v => decide (ls.getD v 0 = m)) := List.mem_filter.mpr ⟨hv0, decide_eq_true hv1⟩
            rw [hh] at this
            cases this
          | cons u l' => exact ⟨u, l', rfl⟩
        have hum : u ∈ L := by
          have : u ∈ L.filter (fun v => decide (ls.getD v 0 = m)) := by rw [hu]; exact List.mem_cons_self ..
          exact (List.mem_filter.mp this).1
        rw [hu] at hr
        refine ⟨D3, _, 0, nv u, rfl, rfl, SqL.of hr, ix_nat (n := 0) rfl, ?_⟩
        exact q u ((hmem u).mp hum).1 ((hmem u).mp hum).2 _ (s02.trans s3)
end
end PW
set_option Elab.async false
set_option linter.all false
set_option maxRecDepth 100000
set_option maxHeartbeats 4000000
namespace PW
open PySem PySem.Spec PyProof.Rows L2
theorem cost_snoc {α : Type} [BEq α] (d : List Tie) (t : Tie) (f : Nat → α) : cost (d ++ [t]) f = cost d f + t.2.2 * (if (f t.1 != f t.2.1) = true then 1 else 0) := by
  unfold cost
  rw [wsum_append, wsum_cons, wsum_nil]
  split <;> omega
abbrev heldO (posts : List Nat) (h : Nat → Nat → Int) (v : Nat) : HO := .dK (mapD posts fun p => .int (h v p))
section
variable {P : Program} {w : World} {K : PySem.W.Frag} {mg : Str → Option Value} {base : Heap}
def spNearWeight (K : PySem.W.Frag) : Sp := fun vs H Q _ => ∃ v c k, vs = [v, c, k] ∧ ∃ (W : Web) (posts M : List Nat) (o : Nat → Nat) (d : Addr), Is Any H v (webD W) ∧ WOk W ∧ Is Any H c (natsD posts) ∧ POk W posts ∧ k = .ref d ∧ H d = some (giveO M o) ∧ Given W.n posts M o ∧
  ∀ i, ((∀ v, v < W.n → v ∈ M) → i = cost W.ts o) → GivesI i H Q
-- near_weight: 0=web 1=posts 2=given 3=weight 4=held 5=post 6=place 7=a 8=b 9=own 10=some
theorem sc_near_weight : FnScope ["web", "posts", "given", "weight", "held", "post", "place", "a", "b", "own", "some"] ["web", "posts", "given"] (defScope sNearWeight) := ⟨rfl, rfl, rfl, by decide +kernel, rfl, by decide +kernel, by decide +kernel⟩
theorem ok_near_weight (T : Tx K mg) : DefOk P w K mg base "near_weight" 1 ["web", "posts", "given"] (spNearWeight K) := by
  refine DefOk.mk' T.g_near_weight (fn_ok T.d_near_weight sc_near_weight (fun _ _ _ _ _ _ us hl => match us, hl with | [_, _, _], _ => rfl) (fun vs H Q E h => ?_) (fun cdv A outer s H vs Q E hr h => ?_))
  · obtain ⟨_, _, _, rfl, _⟩ := h
    rfl
  have hu := hu_of hr
  obtain ⟨v0, v1, v2, rfl, h⟩ := h
  refine ⟨_, (pss_cons (ps_set (i := 3) sc_near_weight.nd rfl (.inl rfl) pe_int)
     (pss_cons (ps_setLc (i := 4) (own := [("place", 6)]) (g := (gName 6)) (tt := tYes) (te := (tCB (qDictP K) (tCons (tLc (iList K (tVar 1)) (gName 5) tYes (tTup (tCons (tVar 5) (tCons (tC (.int 0)) tNil))) [5]) tNil))) rfl sc_near_weight.nd rfl rfl (sw_true rfl rfl rfl (by decide +kernel)) (pi_range1 rfl T.f_range (pa_cons (pe_ix ix_tup (pv 0) pe_int (fun _ _ => rfl)) pa_nil)) (blkOk_by (N := ["web", "posts", "given", "weight", "held", "post", "place", "a", "b", "own", "some"]) (sc := defScope sNearWeight) (by decide +kernel)) (fun _ _ _ _ _ => (pg_name (i := 6) sc_near_weight.nd rfl (.inl rfl) (.inr rfl))) (fun _ _ _ _ _ => pts_nil) (fun _ _ _ _ _ => (pe_callTy (call_dictP rfl) (by rfl) T.f_dict (by decide +kernel) (pa_cons (pe_lc (own := [("post", 5)]) (g := (gName 5)) (tt := tYes) (te := (tTup (tCons (tVar 5) (tCons (tC (.int 0)) tNil)))) (wi := (iList K (tVar 1))) rfl sc_near_weight.nd (pi_list (pv 1)) (blkOk_by (by rfl)) (fun _ _ _ _ _ => (pg_name (i := 5) sc_near_weight.nd rfl (.inl rfl) (.inr rfl))) (fun _ _ _ _ _ => pts_nil) (fun _ _ _ _ _ => (pe_tup (pa_cons (pv 5) (pa_cons pe_int pa_nil))))) pa_nil))))
     (pss_cons (ps_for PassesOwn.never rfl (pi_tup (pe_ix ix_tup (pv 0) pe_int (fun _ _ => rfl))) (pg_tup rfl (pgs_cons (pg_name (i := 7) sc_near_weight.nd rfl (.inl rfl) (.inl rfl)) (pgs_cons (pg_name (i := 8) sc_near_weight.nd rfl (.inl rfl) (.inl rfl)) (pgs_cons (pg_name (i := 9) sc_near_weight.nd rfl (.inl rfl) (.inl rfl)) pgs_nil))))
     (pss_one (ps_if (PW.pt (pw_and (pt_cmp (pc_din hu (pv 7) (pv 2))) (pw_and1 (pt_cmp (pc_din hu (pv 8) (pv 2))))))
     (pss_one (ps_set (i := 3) sc_near_weight.nd rfl (.inl rfl) (pe_op op_add (pv 3) (pe_op op_mul (pv 9) (pe_callTy call_int1 (by rfl) T.f_int (by decide +kernel) (pa_cons (pe_cmpR op_ne (pe_dget hu (pv 2) (pv 7) (fun _ _ => rfl)) (pe_dget hu (pv 2) (pv 8) (fun _ _ => rfl)) (nomark _)) pa_nil))))))
     (pss_one (ps_if (pt_cmp (pc_din hu (pv 7) (pv 2)))
     (pss_one (ps_dput hu (pe_ix ix_list (pv 4) (pv 8) (fun _ _ => rfl)) (pe_dget hu (pv 2) (pv 7) (fun _ _ => rfl)) (pe_op op_add (pe_dget hu (pe_ix ix_list (pv 4) (pv 8) (fun _ _ => rfl)) (pe_dget hu (pv 2) (pv 7) (fun _ _ => rfl)) (fun _ _ => rfl)) (pv 9)) rfl))
     (pss_one (ps_if (pt_cmp (pc_din hu (pv 8) (pv 2)))
     (pss_one (ps_dput hu (pe_ix ix_list (pv 4) (pv 7) (fun _ _ => rfl)) (pe_dget hu (pv 2) (pv 8) (fun _ _ => rfl)) (pe_op op_add (pe_dget hu (pe_ix ix_list (pv 4) (pv 7) (fun _ _ => rfl)) (pe_dget hu (pv 2) (pv 8) (fun _ _ => rfl)) (fun _ _ => rfl)) (pv 9)) rfl))
     pss_nil)))))))
     (pss_cons (ps_for PassesOwn.never rfl (pi_list (pv 4)) (pg_name (i := 10) sc_near_weight.nd rfl (.inl rfl) (.inl rfl))
     (pss_one (ps_set (i := 3) sc_near_weight.nd rfl (.inl rfl) (pe_op op_sub (pe_op op_add (pv 3) (pe_callB (cr_sum rfl) (by rfl) T.f_sum (by decide +kernel) (pa_cons (pe_callTy (call_listV rfl) (by rfl) T.f_list (by decide +kernel) (pa_cons (pe_bm0 PySem.F.plainAttrs_dict PySem.F.slot_dict_values PySem.F.type_dict_values mt_valuesK (pv 10)) pa_nil)) pa_nil))) (pe_callB (cr_max rfl) (by rfl) T.f_max (by decide +kernel) (pa_cons (pe_callTy (call_listV rfl) (by rfl) T.f_list (by decide +kernel) (pa_cons (pe_bm0 PySem.F.plainAttrs_dict PySem.F.slot_dict_values PySem.F.type_dict_values mt_valuesK (pv 10)) pa_nil)) pa_nil))))))
     (pss_one (ps_ret (pv 3))))))), ?_⟩
  obtain ⟨W, posts, M, o, d, hw, ok, hp, pok, rfl, hd, gv, q⟩ := h
  have n1 := ok.n1
  have pl := pok.len
  obtain ⟨pw, pq, xs, rfl, hw1, hw2, hx⟩ := is_web hw
  obtain ⟨pa, rfl, _, hpa⟩ := is_nats hp
  refine ⟨_, rfl, pw, _, 0, nv W.n, rfl, rfl, SqT.of hw1, rfl, _, rfl, by omega, by omega, fun D hD => ?_⟩
  rw [Int.toNat_natCast]
  refine lc_fresh (.dK (mapD posts fun _ => .int 0)) (n := W.n) walk_range hD (by omega) (fun _ _ => trivial) yfn_same (fun i x H1 H2 hi s1 y Kont Skip k1 => ?_) (fun H1 as hl hN s1 hD1 hA => ?_)
  · have s2 := s1.trans (yfn_same _ _ _ _ y)
    refine ⟨rfl, _, rfl, pa, rfl, ⟨_, SqL.of (s2 _ _ hpa)⟩, fun D2 hD2 => ?_⟩
    refine lc_L posts natD (fun p => some (.tuple [natD p, .int 0])) (s2 _ _ hpa) (isAll_nats (φ := Any).mpr rfl) hD2 (by omega) ?_ ?_
    · intro z y H5 _ s5 hy Kont2 Skip2 k3 k4
      cases hy
      exact ⟨rfl, _, rfl, sz2, fun p hp => k3 _ _ _ (same_upd hp) rfl (.tup upd_same (.cons (.int _) (.cons (.int _) .nil)))⟩
    · intro H5 s5 h5
      rw [filterMap_some] at h5
      obtain ⟨a5, ps5, e5, h5a, h5b⟩ := dictP_is (K := K) (key := fun v => v) (fun _ => .int 0) (fun _ => .int 0) h5 (fun a _ x h => by cases h; rfl)
      cases e5
      refine ⟨_, ps5, _, rfl, h5a, h5b, fun p hp => ?_⟩
      rw [mapD_merge0 posts (fun _ => .int 0) pok.nd]
      exact k1 p _ (s5.trans (same_upd hp)) (s5.free hp) upd_same
  have c0 : CellsO H H1 D as (heldO posts fun _ _ => 0) := ⟨hD1, hD, hN, fun a ha => ⟨(hA a ha).1, (hA a ha).2.1⟩, fun v a e => (hA a (List.mem_of_getElem? e)).2.2⟩
  have hpos := pok.ne
  refine ⟨_, rfl, pw, _, 1, .ref pq, rfl, rfl, SqT.of (s1 _ _ hw1), rfl, pq, rfl, ⟨_, SqT.of (s1 _ _ hw2)⟩, ?_⟩
  refine for_T W.ts tieD hw2 hx (fun e σ H2 => ∃ (i : Int) (h : Nat → Nat → Int) (x7 x8 x9 : Option V), σ = [some (.ref pw), some (.ref pa), some (.ref d), some (.int i), some (.ref D), none, none, x7, x8, x9, none] ∧ Same H H2 ∧ CellsO H H2 D as (heldO posts h) ∧ ((∀ v, v < W.n → v ∈ M) → i = cost e o ∧ ∀ v p, h v p = 0))
    ⟨0, _, _, _, _, rfl, s1, c0, fun _ => ⟨rfl, fun _ _ => rfl⟩⟩ (fun d σ H3 ⟨_, _, _, _, _, _, p, _⟩ => p) ?_ ?_
  · rintro e y r z _ H2 e2 ⟨i, h, x7, x8, x9, rfl, s2, c2, hi⟩ hy
    obtain ⟨b, rfl, hb⟩ := is_tie hy
    have hy0 : y ∈ W.ts := by rw [e2]; simp
    have g := ok.good.1 y hy0
    have hd2 := s2 _ _ hd
    refine ⟨b, _, rfl, SqT.of hb, rfl, _, _, rfl, _, _, rfl, _, _, rfl, rfl, ?_⟩
    -- what is held by a place for a post grows
    have grow : ∀ u t : Nat, u < as.length → t ∈ M → ∃ a, as[u]? = some a ∧ H2 a = some (heldO posts h u) ∧ ∀ H3, Same H2 H3 → CellsO H (upd H3 a (.dK (putK (mapD posts fun p => V.int (h u p)) (nk (o t)) (.int (h u (o t) + y.2.2))))) D as (heldO posts fun v p => if v = u ∧ p = o t then h u (o t) + y.2.2 else h v p) ∧ Same H (upd H3 a (.dK (putK (mapD posts fun p => V.int (h u p)) (nk (o t)) (.int (h u (o t) + y.2.2))))) := by
      intro u t hu ht
      obtain ⟨a, e1, k1⟩ := c2.get hu
      refine ⟨a, e1, k1, fun H3 s3 => ⟨?_, (s2.trans s3).mut (c2.off a (List.mem_of_getElem? e1)).1⟩⟩
      rw [mapD_old _ (gv.own t ht)]
      refine ((c2.same s3).put e1).congr fun v hv => ?_
      by_cases ev : v = u
      · subst ev
        rw [if_pos rfl]
        show HO.dK _ = HO.dK _
        congr 1
        refine mapD_congr fun p _ => ?_
        show (if p = o t then V.int _ else V.int _) = V.int (if v = v ∧ p = o t then _ else _)
        by_cases ep : p = o t
        · rw [if_pos ep, if_pos ⟨rfl, ep⟩]
        · rw [if_neg ep, if_neg (fun q => ep q.2)]
      · rw [if_neg ev]
        show HO.dK _ = HO.dK _
        congr 1
        refine mapD_congr fun p _ => ?_
        show V.int _ = V.int (if v = u ∧ p = o t then _ else _)
        rw [if_neg (fun q => ev q.1)]
    refine ⟨_, rfl, _, rfl, d, _, rfl, mapD_getO y.1 hd2, _, rfl, ?_⟩
    rw [mapD_in]
    refine ifB (fun ha => ⟨_, rfl, _, rfl, d, _, rfl, mapD_getO y.2.1 hd2, _, rfl, ?_⟩) (fun ha => ?_)
    · rw [mapD_in]
      have h1 : y.1 ∈ M := of_decide_eq_true ha
      refine ifB (fun hb' => ?_) (fun hb' => ?_)
      · have h2 : y.2.1 ∈ M := of_decide_eq_true hb'
        refine ⟨_, rfl, _, rfl, _, rfl, _, rfl, d, _, rfl, mapD_get hd2 h1, _, rfl, _, rfl, d, _, rfl, mapD_get hd2 h2, rfl, ?_⟩
        rw [ne_nats]
        refine .inr ⟨_, rfl, _, _, rfl, rfl, .inr ⟨by split <;> omega, by split <;> omega⟩, _, _, rfl, rfl, ?_⟩
        refine ⟨_, h, _, _, _, rfl, s2, c2, fun hall => ⟨?_, (hi hall).2⟩⟩
        rw [cost_snoc, (hi hall).1]
      · have h2 : ¬ y.2.1 ∈ M := of_decide_eq_false hb'
        obtain ⟨a, e1, k1, grow⟩ := grow y.2.1 y.1 (by omega) h1
        refine ⟨_, rfl, _, rfl, d, _, rfl, mapD_getO y.1 hd2, _, rfl, ?_⟩
        rw [mapD_in]
        refine ifT (decide_eq_true h1) ?_
        refine ⟨_, rfl, _, rfl, D, _, _, _, rfl, rfl, SqL.of c2.top, at_refs e1, _, rfl, _, rfl, d, _, rfl, mapD_get hd2 h1, a, _, rfl, mapD_get k1 (gv.own _ h1), _, rfl, _, _, rfl, rfl, ?_⟩
        refine ⟨_, rfl, _, rfl, D, _, _, _, rfl, rfl, SqL.of c2.top, at_refs e1, _, rfl, _, rfl, d, _, rfl, mapD_get hd2 h1, a, _, rfl, DPut.k (k := nk (o y.1)) k1 (smallLt (by rw [mapD_len]; omega)), ?_⟩
        obtain ⟨g1, g2⟩ := grow H2 (Same.refl _)
        exact ⟨_, _, _, _, _, rfl, g2, g1, fun hall => absurd (hall _ g.2.1) h2⟩
    · have h1 : ¬ y.1 ∈ M := of_decide_eq_false ha
      refine ⟨_, rfl, _, rfl, d, _, rfl, mapD_getO y.1 hd2, _, rfl, ?_⟩
      rw [mapD_in]
      refine ifF (decide_eq_false h1) ?_
      refine ⟨_, rfl, _, rfl, d, _, rfl, mapD_getO y.2.1 hd2, _, rfl, ?_⟩
      rw [mapD_in]
      refine ifB (fun hb' => ?_) (fun hb' => ?_)
      · have h2 : y.2.1 ∈ M := of_decide_eq_true hb'
        obtain ⟨a, e1, k1, grow⟩ := grow y.1 y.2.1 (by omega) h2
        refine ⟨_, rfl, _, rfl, D, _, _, _, rfl, rfl, SqL.of c2.top, at_refs e1, _, rfl, _, rfl, d, _, rfl, mapD_get hd2 h2, a, _, rfl, mapD_get k1 (gv.own _ h2), _, rfl, _, _, rfl, rfl, ?_⟩
        refine ⟨_, rfl, _, rfl, D, _, _, _, rfl, rfl, SqL.of c2.top, at_refs e1, _, rfl, _, rfl, d, _, rfl, mapD_get hd2 h2, a, _, rfl, DPut.k (k := nk (o y.2.1)) k1 (smallLt (by rw [mapD_len]; omega)), ?_⟩
        obtain ⟨g1, g2⟩ := grow H2 (Same.refl _)
        exact ⟨_, _, _, _, _, rfl, g2, g1, fun hall => absurd (hall _ (by omega)) h1⟩
      · exact ⟨_, _, _, _, _, rfl, s2, c2, fun hall => absurd (hall _ (by omega)) h1⟩
  · rintro _ H2 ⟨i, h, x7, x8, x9, rfl, s2, c2, hi⟩
    refine ⟨_, rfl, D, rfl, ⟨_, SqL.of c2.top⟩, ?_⟩
    refine for_it walk_list (fun k σ H3 => ∃ (i : Int) (x10 : Option V), σ = [some (.ref pw), some (.ref pa), some (.ref d), some (.int i), some (.ref D), none, none, x7, x8, x9, x10] ∧ Same H2 H3 ∧ ((∀ v, v < W.n → v ∈ M) → i = cost W.ts o)) ⟨i, _, rfl, Same.refl _, fun hall => (hi hall).1⟩ (fun k σ H3 _ ⟨_, _, _, p, _⟩ => SqL.of (p _ _ c2.top)) ?_ ?_
    · rintro k z _ H3 H4 hk ⟨i', x10, rfl, s3, hi'⟩ ⟨rfl, e1⟩
      rw [List.length_map] at hk
      rw [List.getElem?_map, List.getElem?_eq_getElem hk] at e1
      cases e1
      have ha := c2.at_ k as[k] (List.getElem?_eq_getElem hk)
      have ha3 := s3 _ _ ha
      have ev : (mapD posts fun p => V.int (h k p)).map Prod.snd = (posts.map (h k)).map V.int := by unfold mapD; rw [List.map_map, List.map_map]; rfl
      refine ⟨_, rfl, _, rfl, dict_ty ha3, _, _, rfl, rfl, ha3, fun p hp => ?_⟩
      have sp := same_upd (o := valsO p as[k]) hp
      refine ⟨p, _, _, rfl, upd_same, sp _ _ ha3, fun l hl' => ?_⟩
      rw [ev]
      have sl := sp.trans (same_upd (o := .lst ((posts.map (h k)).map V.int)) hl')
      have hl1 : upd (upd H4 p (valsO p as[k])) l (.lst ((posts.map (h k)).map V.int)) l = some (.lst ((posts.map (h k)).map V.int)) := upd_same
      generalize upd (upd H4 p (valsO p as[k])) l (.lst ((posts.map (h k)).map V.int)) = H5 at *
      refine ⟨l, _, rfl, SqL.of hl1, _, _, rfl, rfl, ?_⟩
      have ha5 := sl _ _ ha3
      refine ⟨_, rfl, dict_ty ha5, _, _, rfl, rfl, ha5, fun p2 hp2 => ?_⟩
      have sp2 := same_upd (o := valsO p2 as[k]) hp2
      refine ⟨p2, _, _, rfl, upd_same, sp2 _ _ ha5, fun l2 hl2 => ?_⟩
      rw [ev]
      refine ⟨l2, _, rfl, SqL.of upd_same, by rw [List.length_map]; exact pok.ne, fun m hm hmax => ⟨_, _, rfl, rfl, ?_⟩⟩
      refine ⟨_, _, rfl, (s3.trans sl).trans (sp2.trans (same_upd hl2)), fun hall => ?_⟩
      have h0 : posts.map (h k) = posts.map fun _ => (0 : Int) := List.map_congr_left fun p _ => (hi hall).2 k p
      rw [h0] at hm ⊢
      have hm0 : m = 0 := by
        obtain ⟨_, _, e⟩ := List.mem_map.mp hm
        exact e.symm
      have hs0 : (posts.map fun _ => (0 : Int)).sum = 0 := by
        rw [List.map_const', List.sum_replicate_int]
        omega
      rw [hm0, hs0, hi' hall]
      omega
    · rintro _ H3 ⟨i', x10, rfl, s3, hi'⟩
      exact ⟨_, rfl, q i' hi' _ (s2.trans s3)⟩
end
end PW
set_option Elab.async false
set_option linter.all false
set_option maxRecDepth 100000
set_option maxHeartbeats 4000000
namespace PW
open PySem PySem.Spec PyProof.Rows L2
theorem Given.snoc {n : Nat} {posts M : List Nat} {o : Nat → Nat} (g : Given n posts M o) {u p : Nat} (hu : u ∉ M) (hn : u < n) (hp : p ∈ posts) : Given n posts (M ++ [u]) (fun v => if v = u then p else o v) := by
  refine ⟨nd_snoc g.nd hu, fun v hv => ?_, fun v hv => ?_, fun q hq => ?_⟩
  · rcases List.mem_append.mp hv with h | h
    · exact g.lt v h
    · rw [List.mem_singleton] at h; exact h ▸ hn
  · show (if v = u then p else o v) ∈ posts
    split
    · exact hp
    · rename_i e
      exact g.own v ((List.mem_append.mp hv).resolve_right fun q => e (List.mem_singleton.mp q))
  · obtain ⟨h1, h2⟩ := g.post q hq
    refine ⟨List.mem_append_left _ h1, ?_⟩
    show (if q = u then p else o q) = q
    rw [if_neg (fun e : q = u => hu (by rw [← e]; exact h1))]
    exact h2
theorem Given.full {W : Web} {posts M : List Nat} {o : Nat → Nat} (ok : WOk W) (pok : POk W posts) (g : Given W.n posts M o) (h : ∀ v, v < W.n → v ∈ M) : leastW W posts ≤ cost W.ts o := by
  have h1 := leastW_le ok pok (f := fun v => if v ∈ M then o v else posts.getD 0 0) ⟨fun p hp => by
    show (if p ∈ M then o p else _) = p
    rw [if_pos (g.post p hp).1, (g.post p hp).2], fun v => by
    show (if v ∈ M then o v else posts.getD 0 0) ∈ posts
    split
    · rename_i hv; exact g.own v hv
    · exact getD_mem pok.ne⟩
  have h2 : cost W.ts (fun v => if v ∈ M then o v else posts.getD 0 0) = cost W.ts o := by
    unfold cost
    refine wsum_congr fun t ht => ?_
    have := ok.good.1 t ht
    show ((if t.1 ∈ M then o t.1 else posts.getD 0 0) != (if t.2.1 ∈ M then o t.2.1 else posts.getD 0 0)) = _
    rw [if_pos (h t.1 (by omega)), if_pos (h t.2.1 (by omega))]
  omega
section
variable {P : Program} {w : World} {K : PySem.W.Frag} {mg : Str → Option Value} {base : Heap}
def spTree (K : PySem.W.Frag) (k : Nat) : Sp := fun vs H Q _ => ∃ s c, vs = [s, c] ∧ ∃ (x : Addr) (W : Web) (posts M : List Nat) (o : Nat → Nat) (d : Addr), s = .ref x ∧ BoundAt K H x W posts (leastW W posts) ∧ WOk W ∧ POk W posts ∧ c = .ref d ∧ H d = some (giveO M o) ∧ Given W.n posts M o ∧ W.n < M.length + k ∧
  ∀ r H', Same H H' → Q r H'
abbrev spBoundingTreeFor (K : PySem.W.Frag) : Sp := spTree K 50
-- Bounding.tree_for: 0=self 1=given 2=papers 3=paper 4=place 5=trees 6=post
theorem sc_Bounding_tree_for : FnScope ["self", "given", "papers", "paper", "place", "trees", "post"] ["self", "given"] (defScope sBoundingTreeFor) := ⟨rfl, rfl, rfl, by decide +kernel, rfl, by decide +kernel, by decide +kernel⟩
theorem ok_tree (T : Tx K mg) : ∀ k, MethOk P w K mg base (He.ga K "Bounding") "tree_for" (k + 7) ["self", "given"] (spTree K k)
  | 0 => by
    refine MethOk.mk' T.c_Bounding T.m_Bounding_tree_for (fn_ok T.d_Bounding_tree_for sc_Bounding_tree_for (fun _ _ _ _ _ _ us hl => match us, hl with | [_, _], _ => rfl) (fun vs H Q E h => ?_) (fun cdv A outer s H vs Q E hr h => ?_))
    · obtain ⟨_, _, rfl, _⟩ := h
      rfl
    obtain ⟨v0, v1, rfl, x, W, posts, M, o, d, _, _, _, _, _, _, gv, hk, _⟩ := h
    have := gv.len
    omega
  | k + 1 => by
    have O_Bounding_flows_of := ok_Bounding_flows_of (P := P) (w := w) (base := base) T
    have O_Bounding_next_place := ok_Bounding_next_place (P := P) (w := w) (base := base) T
    have O_Bounding_tree_for := ok_tree T k
    have O_near_weight := ok_near_weight (P := P) (w := w) (base := base) T
    have O_with_given := ok_with_given (P := P) (w := w) (base := base) T
    refine MethOk.mk' T.c_Bounding T.m_Bounding_tree_for (fn_ok T.d_Bounding_tree_for sc_Bounding_tree_for (fun _ _ _ _ _ _ us hl => match us, hl with | [_, _], _ => rfl) (fun vs H Q E h => ?_) (fun cdv A outer s H vs Q E hr h => ?_))
    · obtain ⟨_, _, rfl, _⟩ := h
      rfl
    have hu := hu_of hr
    obtain ⟨v0, v1, rfl, h⟩ := h
    refine ⟨_, (pss_cons (ps_if (pt_cmpR op_ge (pcall O_near_weight (hr.mono (by omega)) (by rfl) (pa_cons (pe_fld (pv 0) rfl) (pa_cons (pe_fld (pv 0) rfl) (pa_cons (pv 1) pa_nil)))) (pe_fld (pv 0) rfl) (nomark _))
     (pss_one (ps_ret (pe_tup (pa_cons pe_str pa_nil))))
     pss_nil)
     (pss_cons (ps_set (i := 2) sc_Bounding_tree_for.nd rfl (.inl rfl) (pmeth O_Bounding_flows_of (hr.mono (by omega)) (pv 0) (pa_cons (pv 1) pa_nil)))
     (pss_cons (ps_if (pt_cmpR op_ge (pe_callB (cr_sum rfl) (by rfl) T.f_sum (by decide +kernel) (pa_cons (pe_lc (own := [("paper", 3)]) (g := (gName 3)) (tt := tYes) (te := (tOp (rIxT K) (tVar 3) (tC (.int 0)))) rfl sc_Bounding_tree_for.nd (pi_list (pv 2)) (blkOk_by (N := ["self", "given", "papers", "paper", "place", "trees", "post"]) (sc := defScope sBoundingTreeFor) (by decide +kernel)) (fun _ _ _ _ _ => (pg_name (i := 3) sc_Bounding_tree_for.nd rfl (.inl rfl) (.inr rfl))) (fun _ _ _ _ _ => pts_nil) (fun _ _ _ _ _ => (pe_ix ix_tup (pv 3) pe_int (fun _ _ => rfl)))) pa_nil)) (pe_op op_sub (pe_op op_mul pe_int (pe_fld (pv 0) rfl)) pe_int) (nomark _))
     (pss_one (ps_ret (pe_tup (pa_cons pe_str (pa_cons (pv 2) pa_nil)))))
     pss_nil)
     (pss_cons (ps_set (i := 4) sc_Bounding_tree_for.nd rfl (.inr rfl) (pmeth O_Bounding_next_place (hr.mono (by omega)) (pv 0) (pa_cons (pv 1) pa_nil)))
     (pss_cons (ps_setLc (i := 5) (own := [("post", 6)]) (g := (gName 6)) (tt := tYes) (te := (tMeth (He.ga K "Bounding") "tree_for" (spTree K k) [] E0 (tVar 0) (tCons (tCall (spWithGiven K) [] E0 (tCons (tVar 1) (tCons (tVar 4) (tCons (tVar 6) tNil)))) tNil))) rfl sc_Bounding_tree_for.nd rfl rfl (sw_true rfl rfl rfl (by decide +kernel)) (pi_list (pe_fld (pv 0) rfl)) (blkOk_by (N := ["self", "given", "papers", "paper", "place", "trees", "post"]) (sc := defScope sBoundingTreeFor) (by decide +kernel)) (fun _ _ _ _ _ => (pg_name (i := 6) sc_Bounding_tree_for.nd rfl (.inl rfl) (.inr rfl))) (fun _ _ _ _ _ => pts_nil) (fun _ _ _ _ _ => (pmeth O_Bounding_tree_for (hr.mono (by omega)) (pv 0) (pa_cons (pcall O_with_given (hr.mono (by omega)) (by rfl) (pa_cons (pv 1) (pa_cons (pv 4) (pa_cons (pv 6) pa_nil)))) pa_nil))))
     (pss_one (ps_ret (pe_tup (pa_cons pe_str (pa_cons (pv 4) (pa_cons (pe_callTy call_tuple_of (by rfl) T.f_tuple (by decide +kernel) (pa_cons (pv 5) pa_nil)) pa_nil))))))))))), ?_⟩
    obtain ⟨x, W, posts, M, o, d, rfl, hB, ok, pok, rfl, hd, gv, hk, q⟩ := h
    have n1 := ok.n1
    have pl := pok.len
    have ml := gv.len
    obtain ⟨dx, vw, vp, vl, ls, h0, h1, h2, h3, h4⟩ := hB.ex
    refine ⟨_, rfl, x, _, dx, _, vw, rfl, h0, T.c_Bounding, T.n_Bounding_web, rfl, _, rfl, x, _, dx, _, vp, rfl, h0, T.c_Bounding, T.n_Bounding_posts, rfl, _, rfl, _, _, _, rfl, W, posts, M, o, d, h1, ok, h2, pok, rfl, hd, gv, fun i hi H1 s1 => ?_⟩
    refine ⟨_, rfl, x, _, dx, _, .int (leastW W posts), rfl, s1 _ _ h0, T.c_Bounding, T.n_Bounding_weight, rfl, _, _, rfl, rfl, _, rfl, ?_⟩
    refine ifB (fun e => ?_) fun e => ?_
    · exact ⟨sz1, fun p hp => q _ _ (s1.trans (same_upd hp))⟩
    have hlt : i < leastW W posts := by have := of_decide_eq_false e; omega
    have hex : ∃ u, u < W.n ∧ u ∉ M := by
      refine Classical.byContradiction fun hno => ?_
      have hall : ∀ v, v < W.n → v ∈ M := fun v hv => Classical.byContradiction fun hm => hno ⟨v, hv, hm⟩
      have := hi hall
      have := gv.full ok pok hall
      omega
    refine ⟨_, rfl, x, dx, _, rfl, s1 _ _ h0, rfl, _, rfl, _, _, rfl, x, W, posts, _, M, o, d, rfl, hB.same s1, ok, pok, rfl, s1 _ _ hd, gv, fun fl hfl r H2 s2 hr2 => ?_⟩
    obtain ⟨a, xs, rfl, _, ha, hx⟩ := is_list hr2
    have el := hx.map_len
    have s02 := s1.trans s2
    refine ⟨_, rfl, a, rfl, ⟨_, SqL.of ha⟩, fun D hD => ?_⟩
    refine lc_L fl flD (fun z => some (.int z.1)) ha hx hD (by omega) ?_ ?_
    · intro y z H3 _ s3 hz Kont Skip k1 k2
      obtain ⟨b, ys, rfl, hb, hy⟩ := is_tuple hz
      cases hy with
      | cons b1 b2 =>
        cases b1
        exact ⟨rfl, _, rfl, b, _, 0, _, rfl, rfl, SqT.of hb, ix_nat (n := 0) rfl, k1 _ _ _ (Same.refl _) rfl (.int _)⟩
    intro H3 s3 h3'
    rw [filterMap_some, map_int] at h3'
    obtain ⟨D', e, _, hD'⟩ := is_ints h3'
    cases e
    have s03 := s02.trans s3
    refine ⟨D, _, rfl, SqL.of hD', _, rfl, x, _, dx, _, .int (leastW W posts), rfl, s03 _ _ h0, T.c_Bounding, T.n_Bounding_weight, rfl, _, _, rfl, rfl, .inl ⟨by decide, by decide⟩, _, _, rfl, rfl, _, _, rfl, rfl, _, rfl, ?_⟩
    refine ifB (fun e => ?_) fun e => ?_
    · exact ⟨_, rfl, sz2, fun p hp => q _ _ (s03.trans (same_upd hp))⟩
    refine ⟨_, rfl, x, dx, _, rfl, s03 _ _ h0, rfl, _, rfl, _, _, rfl, x, W, posts, _, M, o, d, rfl, hB.same s03, ok, rfl, s03 _ _ hd, hex, fun u hun huM H4 s4 => ?_⟩
    have s04 := s03.trans s4
    obtain ⟨pa, rfl, _, hpa⟩ := is_nats h2
    refine ⟨_, rfl, x, _, dx, _, .ref pa, rfl, s04 _ _ h0, T.c_Bounding, T.n_Bounding_posts, rfl, pa, rfl, ⟨_, SqL.of (s04 _ _ hpa)⟩, fun D2 hD2 => ?_⟩
    refine lc_V walk_list hD2 (by rw [List.length_map]; omega) (fun H s => SqL.of (s _ _ (s04 _ _ hpa))) yat_same ?_ ?_
    · rintro i z H5 H6 hi s5 ⟨rfl, e1⟩ Kont Skip k1
      rw [List.length_map] at hi
      rw [List.getElem?_map, List.getElem?_eq_getElem hi] at e1
      cases e1
      have s05 := s04.trans s5
      refine ⟨rfl, _, rfl, x, dx, _, rfl, s05 _ _ h0, rfl, _, rfl, _, rfl, _, rfl, _, _, _, rfl, M, o, d, u, posts[i], rfl, s05 _ _ hd, by omega, huM, rfl, rfl, fun c H7 s7 hc0 hc => ?_⟩
      exact ⟨_, _, rfl, x, W, posts, _, _, c, rfl, hB.same (s05.trans s7), ok, pok, rfl, hc, gv.snoc huM hun (List.getElem_mem _), by rw [List.length_append]; show W.n < M.length + 1 + k; omega, fun r H8 s8 => k1 r H8 (s7.trans s8)⟩
    · intro H5 zs s5 hz
      have s05 := s04.trans s5
      refine ⟨_, rfl, _, rfl, D2, _, rfl, .inl ⟨SqL.of hz, fun l hl => ⟨sz3, fun p hp => q _ _ ((s05.trans (same_upd hl)).trans (same_upd hp))⟩⟩⟩
theorem ok_Bounding_tree_for (T : Tx K mg) : MethOk P w K mg base (He.ga K "Bounding") "tree_for" 57 ["self", "given"] (spBoundingTreeFor K) := ok_tree T 50
/-- the cut that a least row tells -/
noncomputable abbrev tellC (W : Web) (posts row : List Nat) : List (Nat × Nat) := cutL W.ts (fnL (tellL W posts row))
def spLeastParting (K : PySem.W.Frag) : Sp := fun vs H Q _ => ∃ v c, vs = [v, c] ∧ ∃ (W : Web) (posts : List Nat), Is Any H v (webD W) ∧ WOk W ∧ Is Any H c (natsD posts) ∧ POk W posts ∧
  ∀ r, r ∈ leastR W posts → ∀ p cb t H', Same H H' → H' p = some (.tup [.int (leastW W posts), cb, t]) → Is (New H) H' cb (.list ((tellC W posts r).map pairD)) → Q (.ref p) H'
-- least_parting: 0=web 1=posts 2=weight 3=owners 4=tree 5=post
theorem sc_least_parting : FnScope ["web", "posts", "weight", "owners", "tree", "post"] ["web", "posts"] (defScope sLeastParting) := ⟨rfl, rfl, rfl, by decide +kernel, rfl, by decide +kernel, by decide +kernel⟩
theorem ok_least_parting (T : Tx K mg) : DefOk P w K mg base "least_parting" 58 ["web", "posts"] (spLeastParting K) := by
  have O_Bounding := ok_Bounding___init__ (P := P) (w := w) (base := base) T
  have O_Bounding_tree_for := ok_Bounding_tree_for (P := P) (w := w) (base := base) T
  have O_cut_by := ok_cut_by (P := P) (w := w) (base := base) T
  have O_least_row := ok_least_row (P := P) (w := w) (base := base) T
  refine DefOk.mk' T.g_least_parting (fn_ok T.d_least_parting sc_least_parting (fun _ _ _ _ _ _ us hl => match us, hl with | [_, _], _ => rfl) (fun vs H Q E h => ?_) (fun cdv A outer s H vs Q E hr h => ?_))
  · obtain ⟨_, _, rfl, _⟩ := h
    rfl
  have hu := hu_of hr
  obtain ⟨v0, v1, rfl, h⟩ := h
  refine ⟨_, (pss_cons (ps_asg (pcall O_least_row (hr.mono (by decide)) (by rfl) (pa_cons (pv 0) (pa_cons (pv 1) pa_nil))) (pg_tup rfl (pgs_cons (pg_name (i := 2) sc_least_parting.nd rfl (.inl rfl) (.inl rfl)) (pgs_cons (pg_name (i := 3) sc_least_parting.nd rfl (.inl rfl) (.inl rfl)) pgs_nil))))
     (pss_cons (ps_set (i := 4) sc_least_parting.nd rfl (.inl rfl) (pmeth O_Bounding_tree_for (hr.mono (by decide)) (pmake O_Bounding (hr.mono (by decide)) (by rfl) (pa_cons (pv 0) (pa_cons (pv 1) (pa_cons (pv 2) pa_nil)))) (pa_cons (pe_callTy (call_dictP rfl) (by rfl) T.f_dict (by decide +kernel) (pa_cons (pe_lc (own := [("post", 5)]) (g := (gName 5)) (tt := tYes) (te := (tTup (tCons (tVar 5) (tCons (tVar 5) tNil)))) rfl sc_least_parting.nd (pi_list (pv 1)) (blkOk_by (N := ["web", "posts", "weight", "owners", "tree", "post"]) (sc := defScope sLeastParting) (by decide +kernel)) (fun _ _ _ _ _ => (pg_name (i := 5) sc_least_parting.nd rfl (.inl rfl) (.inr rfl))) (fun _ _ _ _ _ => pts_nil) (fun _ _ _ _ _ => (pe_tup (pa_cons (pv 5) (pa_cons (pv 5) pa_nil))))) pa_nil)) pa_nil)))
     (pss_one (ps_ret (pe_tup (pa_cons (pv 2) (pa_cons (pcall O_cut_by (hr.mono (by decide)) (by rfl) (pa_cons (pv 0) (pa_cons (pv 3) pa_nil))) (pa_cons (pv 4) pa_nil)))))))), ?_⟩
  obtain ⟨W, posts, hw, ok, hp, pok, q⟩ := h
  have n1 := ok.n1
  have pl := pok.len
  refine ⟨_, rfl, _, rfl, _, _, rfl, W, posts, hw, ok, hp, pok, fun r hr z H1 s1 h1 => ?_⟩
  obtain ⟨a, xs, rfl, ha, hx⟩ := is_tuple h1
  cases hx with
  | cons b1 b2 =>
    cases b2 with
    | cons c1 c2 =>
      cases c2
      cases b1
      obtain ⟨ob, rfl, hob⟩ := is_tnats c1
      refine ⟨a, _, rfl, SqT.of ha, rfl, _, _, rfl, _, _, rfl, rfl, _, rfl, _, rfl, _, rfl, ?_⟩
      intro x dx hx hdx hxd
      have sx : Same H1 (upd (upd H1 dx (.own x)) x (.ins (He.ga K "Bounding") dx [])) := Same.mut (same_upd hdx) hx
      refine ⟨_, _, _, _, rfl, x, dx, H1, W, posts, leastW W posts, rfl, upd_same, sx, hx, hw.same s1, ok, hp.same s1, rfl, fun H2 s2 hB => ⟨rfl, ?_⟩⟩
      obtain ⟨dx', vw, vp, vl, ls, h0, _⟩ := hB.ex
      have s02 := s1.trans s2
      obtain ⟨pa, rfl, _, hpa⟩ := is_nats hp
      refine ⟨x, dx', _, rfl, h0, rfl, _, rfl, pa, rfl, ⟨_, SqL.of (s02 _ _ hpa)⟩, fun D hD => ?_⟩
      refine lc_L posts natD (fun v => some (.tuple [natD v, natD v])) (s02 _ _ hpa) (isAll_nats (φ := Any).mpr rfl) hD (by omega) ?_ ?_
      · intro y u H5 _ s5 hy Kont Skip k1 k2
        cases hy
        exact ⟨rfl, _, rfl, _, rfl, sz2, fun p hp => k1 _ _ _ (same_upd hp) rfl (.tup upd_same (.cons (.int _) (.cons (.int _) .nil)))⟩
      · intro H5 s5 h5
        rw [filterMap_some] at h5
        obtain ⟨a5, ps5, e5, h5a, h5b⟩ := dictP_is (K := K) (key := fun v => v) (fun v => nv v) (fun v => natD v) h5 (fun a _ x h => by cases h; rfl)
        cases e5
        refine ⟨_, ps5, _, rfl, h5a, h5b, fun c hc => ?_⟩
        rw [mapD_merge0 posts (fun v => nv v) pok.nd]
        have sc := s5.trans (same_upd (o := .dK (mapD posts fun v => nv v)) hc)
        refine ⟨_, _, rfl, x, W, posts, posts, fun v => v, c, rfl, hB.same sc, ok, pok, rfl, upd_same, ⟨pok.nd, pok.lt, fun v h => h, fun p h => ⟨h, rfl⟩⟩, by omega, fun t H6 s6 => ?_⟩
        have s06 := (s02.trans sc).trans s6
        have s16 := (s2.trans sc).trans s6
        refine ⟨_, rfl, _, rfl, _, rfl, _, _, rfl, W, tellL W posts r, hw.same s06, ok, is_tnats' (s16 _ _ hob), tell_len _ _ _, fun cb H7 s7 h7 => ⟨_, rfl, sz3, fun p hp => ?_⟩⟩
        exact q r hr p cb t _ ((s06.trans s7).trans (same_upd hp)) upd_same ((h7.back s06).same (same_upd hp))
def spSingles (K : PySem.W.Frag) : Sp := fun vs H Q _ => ∃ v c, vs = [v, c] ∧ ∃ (W : Web) (posts : List Nat), Is Any H v (webD W) ∧ WOk W ∧ Is Any H c (natsD posts) ∧ POk W posts ∧
  ∀ fl : List (Int × List Int × List Nat), fl.map Prod.fst = posts.map (fun p => minCut W [p] (posts.filter fun o => o != p)) → Gives (.list (fl.map flD)) H Q
-- singles: 0=web 1=posts 2=post
theorem sc_singles : FnScope ["web", "posts", "post"] ["web", "posts"] (defScope sSingles) := ⟨rfl, rfl, rfl, by decide +kernel, rfl, by decide +kernel, by decide +kernel⟩
theorem ok_singles (T : Tx K mg) : DefOk P w K mg base "singles" 5 ["web", "posts"] (spSingles K) := by
  have O_flow := ok_flow (P := P) (w := w) (base := base) T
  have O_others_of := ok_others_of (P := P) (w := w) (base := base) T
  refine DefOk.mk' T.g_singles (fn_ok T.d_singles sc_singles (fun _ _ _ _ _ _ us hl => match us, hl with | [_, _], _ => rfl) (fun vs H Q E h => ?_) (fun cdv A outer s H vs Q E hr h => ?_))
  · obtain ⟨_, _, rfl, _⟩ := h
    rfl
  have hu := hu_of hr
  obtain ⟨v0, v1, rfl, h⟩ := h
  refine ⟨_, (pss_one (ps_ret (pe_lc (own := [("post", 2)]) (g := (gName 2)) (tt := tYes) (te := (tCall (spFlow K) [] E0 (tCons (tVar 0) (tCons (tLst (tCons (tVar 2) tNil)) (tCons (tCall (spOthersOf K) [] E0 (tCons (tVar 1) (tCons (tVar 2) tNil))) tNil))))) rfl sc_singles.nd (pi_list (pv 1)) (blkOk_by (N := ["web", "posts", "post"]) (sc := defScope sSingles) (by decide +kernel)) (fun _ _ _ _ _ => (pg_name (i := 2) sc_singles.nd rfl (.inl rfl) (.inr rfl))) (fun _ _ _ _ _ => pts_nil) (fun _ _ _ _ _ => (pcall O_flow (hr.mono (by decide)) (by rfl) (pa_cons (pv 0) (pa_cons (pe_lst (pa_cons (pv 2) pa_nil)) (pa_cons (pcall O_others_of (hr.mono (by decide)) (by rfl) (pa_cons (pv 1) (pa_cons (pv 2) pa_nil))) pa_nil)))))))), ?_⟩
  obtain ⟨W, posts, hw, ok, hp, pok, q⟩ := h
  have n1 := ok.n1
  have pl := pok.len
  obtain ⟨pa, rfl, _, hpa⟩ := is_nats hp
  refine ⟨_, rfl, pa, rfl, ⟨_, SqL.of hpa⟩, fun D hD => ?_⟩
  refine lc_X posts (fun p d => ∃ L ys, d = flD (minCut W [p] (posts.filter fun o => o != p), ys, L)) (by rw [← List.length_map (f := nv) (as := posts)]; exact walk_list) hD (by omega) (fun H s => SqL.of (s _ _ hpa)) yat_same ?_ ?_
  · rintro i z y H1 H2 hi s1 ⟨rfl, e1⟩ Kont Skip k1
    rw [List.getElem?_map, hi] at e1
    cases e1
    have hy := List.mem_of_getElem? hi
    refine ⟨rfl, _, rfl, _, rfl, sz1, fun l hl => ?_⟩
    have s2 := s1.trans (same_upd (o := .lst [nv y]) hl)
    refine ⟨_, rfl, _, rfl, _, _, rfl, posts, y, hp.same s2, rfl, by omega, fun r H3 s3 h3 => ?_⟩
    have s03 := s2.trans s3
    refine ⟨_, _, _, rfl, W, [y], posts.filter (fun o => o != y), hw.same s03, ok, is_nats' trivial (s3 _ _ upd_same), h3.any, by simp, fun s hs => ?_, pok.nd.filter _, fun s hs => pok.lt s (List.mem_filter.mp hs).1, fun s hs hq => ?_, fun L ys r4 H4 s4 h4 => k1 r4 H4 _ (((same_upd hl).trans s3).trans s4) ⟨L, ys, rfl⟩ (h4.back ((same_upd hl).trans s3))⟩
    · rw [List.mem_singleton] at hs
      exact hs ▸ pok.lt y hy
    · rw [List.mem_singleton] at hs
      subst hs
      have := (List.mem_filter.mp hq).2
      simp at this
  · intro H1 zs s1 e1 rel h1
    have : ∀ (zs : List (Nat × PyData)), (∀ z ∈ zs, ∃ L ys, z.2 = flD (minCut W [z.1] (posts.filter fun o => o != z.1), ys, L)) → ∃ fl : List (Int × List Int × List Nat), zs.map Prod.snd = fl.map flD ∧ fl.map Prod.fst = (zs.map Prod.fst).map (fun p => minCut W [p] (posts.filter fun o => o != p)) := by
      intro zs
      induction zs with
      | nil => intro _; exact ⟨[], rfl, rfl⟩
      | cons z zs ih =>
        intro h
        obtain ⟨fl, a1, a2⟩ := ih fun y hy => h y (List.mem_cons_of_mem _ hy)
        obtain ⟨L, ys, e⟩ := h z (List.mem_cons_self ..)
        exact ⟨(_, ys, L) :: fl, by rw [List.map_cons, List.map_cons, a1, e], by rw [List.map_cons, List.map_cons, List.map_cons, a2]⟩
    obtain ⟨fl, a1, a2⟩ := this zs rel
    rw [a1] at h1
    rw [e1] at a2
    exact q fl a2 _ _ s1 h1
end
end PW
set_option Elab.async false
set_option linter.all false
set_option maxRecDepth 100000
set_option maxHeartbeats 4000000
namespace PW
open PySem PySem.Spec PyProof.Rows L2
/-! dicts with pairs for keys -/
def mapT (M : List (Nat × Nat)) (f : Nat × Nat → Int) : List (List Key × V) := M.map fun q => (keyP q, V.int (f q))
theorem mapT_len (M : List (Nat × Nat)) (f : Nat × Nat → Int) : (mapT M f).length = M.length := List.length_map _
theorem mapT_val (M : List (Nat × Nat)) (f : Nat × Nat → Int) (q : Nat × Nat) : valV (mapT M f) (keyP q) = if q ∈ M then some (.int (f q)) else none := by
  induction M with
  | nil => rfl
  | cons x M ih =>
    show valV ((keyP x, V.int (f x)) :: mapT M f) (keyP q) = _
    by_cases e : x = q
    · subst e
      rw [valV_pos rfl, if_pos (List.mem_cons_self ..)]
    · rw [valV_neg (fun h => e (keyP_inj h)), ih]
      have : q ∈ x :: M ↔ q ∈ M := by
        rw [List.mem_cons]
        exact ⟨fun h => h.resolve_left fun z => e z.symm, .inr⟩
      by_cases h : q ∈ M
      · rw [if_pos h, if_pos (this.mpr h)]
      · rw [if_neg h, if_neg (fun z => h (this.mp z))]
theorem mapT_congr {M : List (Nat × Nat)} {f g : Nat × Nat → Int} (h : ∀ q ∈ M, f q = g q) : mapT M f = mapT M g := by
  unfold mapT
  exact List.map_congr_left fun v hv => by rw [h v hv]
theorem mapT_new {M : List (Nat × Nat)} {f : Nat × Nat → Int} {q : Nat × Nat} (x : Int) (h : q ∉ M) : putK (mapT M f) (keyP q) (.int x) = mapT (M ++ [q]) fun u => if u = q then x else f u := by
  rw [putK_new _ (by rw [mapT_val, if_neg h])]
  unfold mapT
  have e0 : (fun u => if u = q then x else f u) q = x := if_pos rfl
  rw [List.map_append, List.map_singleton, e0]
  congr 1
  exact List.map_congr_left fun u hu => by
    show _ = (keyP u, V.int (if u = q then x else f u))
    rw [if_neg (fun e : u = q => h (by rw [← e]; exact hu))]
theorem mapT_old {M : List (Nat × Nat)} {f : Nat × Nat → Int} {q : Nat × Nat} (x : Int) (h : q ∈ M) : putK (mapT M f) (keyP q) (.int x) = mapT M fun u => if u = q then x else f u := by
  unfold putK
  rw [if_pos (by rw [valV_any, mapT_val, if_pos h]; rfl)]
  unfold mapT
  rw [List.map_map]
  refine List.map_congr_left fun u _ => ?_
  show (if keyP u = keyP q then (keyP u, V.int x) else (keyP u, V.int (f u))) = (keyP u, V.int (if u = q then x else f u))
  by_cases e : u = q
  · rw [if_pos (by rw [e]), if_pos e]
  · rw [if_neg (fun z => e (keyP_inj z)), if_neg e]
theorem mapT_keys (M : List (Nat × Nat)) (f : Nat × Nat → Int) : (mapT M f).map Prod.fst = M.map keyP := by unfold mapT; rw [List.map_map]; rfl
/-- the ties that a dict of pairs tells -/
def tiesT (M : List (Nat × Nat)) (f : Nat × Nat → Int) : List Tie := M.map fun q => (q.1, q.2, f q)
theorem wsum_old {M : List (Nat × Nat)} {f : Nat × Nat → Int} {q : Nat × Nat} (w : Int) (nd : M.Nodup) (h : q ∈ M) (dd : Nat → Nat → Bool) : wsum (tiesT M fun u => if u = q then f q + w else f u) dd = wsum (tiesT M f) dd + if dd q.1 q.2 = true then w else 0 := by
  induction M with
  | nil => cases h
  | cons u M ih =>
    rw [List.nodup_cons] at nd
    show (if dd u.1 u.2 = true then (if u = q then f q + w else f u) else 0) + wsum (tiesT M fun u => if u = q then f q + w else f u) dd = (if dd u.1 u.2 = true then f u else 0) + wsum (tiesT M f) dd + _
    by_cases e : u = q
    · subst e
      have : tiesT M (fun v => if v = u then f u + w else f v) = tiesT M f := by
        unfold tiesT
        refine List.map_congr_left fun v hv => ?_
        show (v.1, v.2, if v = u then f u + w else f v) = _
        rw [if_neg (fun z : v = u => nd.1 (by rw [← z]; exact hv))]
      rw [this, if_pos rfl]
      split <;> omega
    · have hm : q ∈ M := (List.mem_cons.mp h).resolve_left fun z => e z.symm
      rw [ih nd.2 hm, if_neg e]
      omega
theorem wsum_new {M : List (Nat × Nat)} {f : Nat × Nat → Int} {q : Nat × Nat} (w : Int) (h : q ∉ M) (dd : Nat → Nat → Bool) : wsum (tiesT (M ++ [q]) fun u => if u = q then w else f u) dd = wsum (tiesT M f) dd + if dd q.1 q.2 = true then w else 0 := by
  unfold tiesT
  rw [List.map_append, wsum_append]
  have : (M.map fun u => (u.1, u.2, if u = q then w else f u)) = M.map fun u => (u.1, u.2, f u) := by
    refine List.map_congr_left fun v hv => ?_
    rw [if_neg (fun z : v = q => h (by rw [← z]; exact hv))]
  rw [this]
  congr 1
  show (if dd q.1 q.2 = true then (if q = q then w else f q) else 0) + 0 = _
  rw [if_pos rfl, Int.add_zero]
theorem tiesT_good {n : Nat} {M : List (Nat × Nat)} {f : Nat × Nat → Int} (nd : M.Nodup) (h : ∀ q ∈ M, q.1 < q.2 ∧ q.2 < n ∧ 1 ≤ f q) : GoodTs n (tiesT M f) := by
  refine ⟨fun t ht => ?_, ?_⟩
  · obtain ⟨q, hq, rfl⟩ := List.mem_map.mp ht
    exact h q hq
  · unfold tiesT
    rw [List.map_map]
    have : (pr ∘ fun q : Nat × Nat => (q.1, q.2, f q)) = id := rfl
    rw [this, List.map_id]
    exact nd
/-- the two places of a tie under new names, the lesser first -/
abbrev lo2 (nm : Nat → Nat) (a b : Nat) : Nat := min (nm a) (nm b)
abbrev hi2 (nm : Nat → Nat) (a b : Nat) : Nat := max (nm a) (nm b)
section
variable {P : Program} {w : World} {K : PySem.W.Frag} {mg : Str → Option Value} {base : Heap}
def spMerged (K : PySem.W.Frag) : Sp := fun vs H Q _ => ∃ v c, vs = [v, c] ∧ ∃ (W : Web) (nm : List Nat), Is Any H v (webD W) ∧ WOk W ∧ Is Any H c (tupD nm) ∧ nm.length = W.n ∧
  ∀ W' : Web, W'.n ∈ nm.map (· + 1) → (∀ x ∈ nm, x < W'.n) → GoodTs W'.n W'.ts → W'.ts.length ≤ W.ts.length → (∀ dd, wsum W'.ts dd = wsum W.ts fun a b => fnL nm a != fnL nm b && dd (lo2 (fnL nm) a b) (hi2 (fnL nm) a b)) → Gives (webD W') H Q
-- merged: 0=web 1=names 2=weights 3=a 4=b 5=weight 6=pair
theorem sc_merged : FnScope ["web", "names", "weights", "a", "b", "weight", "pair"] ["web", "names"] (defScope sMerged) := ⟨rfl, rfl, rfl, by decide +kernel, rfl, by decide +kernel, by decide +kernel⟩
theorem ok_merged (T : Tx K mg) : DefOk P w K mg base "merged" 1 ["web", "names"] (spMerged K) := by
  refine DefOk.mk' T.g_merged (fn_ok T.d_merged sc_merged (fun _ _ _ _ _ _ us hl => match us, hl with | [_, _], _ => rfl) (fun vs H Q E h => ?_) (fun cdv A outer s H vs Q E hr h => ?_))
  · obtain ⟨_, _, rfl, _⟩ := h
    rfl
  have hu := hu_of hr
  obtain ⟨v0, v1, rfl, h⟩ := h
  refine ⟨_, (pss_cons (ps_set (i := 2) sc_merged.nd rfl (.inr rfl) pe_dnewT)
     (pss_cons (ps_for PassesOwn.never rfl (pi_tup (pe_ix ix_tup (pv 0) pe_int (fun _ _ => rfl))) (pg_tup rfl (pgs_cons (pg_name (i := 3) sc_merged.nd rfl (.inl rfl) (.inl rfl)) (pgs_cons (pg_name (i := 4) sc_merged.nd rfl (.inl rfl) (.inl rfl)) (pgs_cons (pg_name (i := 5) sc_merged.nd rfl (.inl rfl) (.inl rfl)) pgs_nil))))
     (pss_cons (ps_set (i := 6) sc_merged.nd rfl (.inl rfl) (pe_tup (pa_cons (pe_callB (call_min2 rfl) (by rfl) T.f_min (by decide +kernel) (pa_cons (pe_ix ix_tup (pv 1) (pv 3) (fun _ _ => rfl)) (pa_cons (pe_ix ix_tup (pv 1) (pv 4) (fun _ _ => rfl)) pa_nil))) (pa_cons (pe_callB (call_max2 rfl) (by rfl) T.f_max (by decide +kernel) (pa_cons (pe_ix ix_tup (pv 1) (pv 3) (fun _ _ => rfl)) (pa_cons (pe_ix ix_tup (pv 1) (pv 4) (fun _ _ => rfl)) pa_nil))) pa_nil))))
     (pss_one (ps_if (pt_cmpR op_lt (pe_ix ix_tup (pv 6) pe_int (fun _ _ => rfl)) (pe_ix ix_tup (pv 6) pe_int (fun _ _ => rfl)) (nomark _))
     (pss_one (ps_dput hu (pv 2) (pv 6) (pe_op op_add (pe_dget2 hu (pv 2) (pv 6) pe_int ⟨rfl, rfl, rfl, rfl⟩) (pv 5)) rfl))
     pss_nil))))
     (pss_one (ps_ret (pe_tup (pa_cons (pe_op op_add (pe_callB (cr_maxT rfl hr.units) (by rfl) T.f_max (by decide +kernel) (pa_cons (pv 1) pa_nil)) pe_int) (pa_cons (pe_callTy call_tuple_of (by rfl) T.f_tuple (by decide +kernel) (pa_cons (pe_lc (own := [("pair", 6)]) (g := (gName 6)) (tt := tYes) (te := (tOp (rCatA K) (tVar 6) (tTup (tCons (tDGet (tVar 2) (tVar 6)) tNil)))) rfl sc_merged.nd (pi_list (pe_callB (cr_sortDT rfl hr.units) (by rfl) T.f_sorted (by decide +kernel) (pa_cons (pv 2) pa_nil))) (blkOk_by (N := ["web", "names", "weights", "a", "b", "weight", "pair"]) (sc := defScope sMerged) (by decide +kernel)) (fun _ _ _ _ _ => (pg_name (i := 6) sc_merged.nd rfl (.inl rfl) (.inr rfl))) (fun _ _ _ _ _ => pts_nil) (fun _ _ _ _ _ => (pe_op op_catA (pv 6) (pe_tup (pa_cons (pe_dget hu (pv 2) (pv 6) (fun _ _ => rfl)) pa_nil))))) pa_nil)) pa_nil))))))), ?_⟩
  obtain ⟨W, nm, hw, ok, hc, hnl, q⟩ := h
  have n1 := ok.n1
  have n0 := ok.n0
  have ts1 := ok.len
  obtain ⟨pw, pq, xs, rfl, hw1, hw2, hx⟩ := is_web hw
  obtain ⟨b, rfl, hb⟩ := is_tnats hc
  intro wd hwd
  have s1 := same_upd (o := .dT []) hwd
  refine ⟨_, rfl, pw, _, 1, .ref pq, rfl, rfl, SqT.of (s1 _ _ hw1), rfl, pq, rfl, ⟨_, SqT.of (s1 _ _ hw2)⟩, ?_⟩
  refine for_T W.ts tieD hw2 hx (fun d σ H2 => ∃ (M : List (Nat × Nat)) (f : Nat × Nat → Int) (x3 x4 x5 x6 : Option V), σ = [some (.ref pw), some (.ref b), some (.ref wd), x3, x4, x5, x6] ∧ Same H H2 ∧ H2 wd = some (.dT (mapT M f)) ∧ M.Nodup ∧ M.length ≤ d.length ∧
    (∀ q ∈ M, q.1 < q.2 ∧ q.2 ∈ nm ∧ 1 ≤ f q) ∧ ∀ dd, wsum (tiesT M f) dd = wsum d fun a b => fnL nm a != fnL nm b && dd (lo2 (fnL nm) a b) (hi2 (fnL nm) a b))
    ⟨[], fun _ => 0, _, _, _, _, rfl, s1, upd_same, by simp, Nat.le_refl _, by simp, fun dd => rfl⟩ (fun d σ H3 ⟨_, _, _, _, _, _, _, p, _⟩ => p) ?_ ?_
  · rintro d y r z _ H2 e ⟨M, f, x3, x4, x5, x6, rfl, s2, hM, ndM, lM, gM, sM⟩ hy
    obtain ⟨c, rfl, hc'⟩ := is_tie hy
    have hy0 : y ∈ W.ts := by rw [e]; simp
    have g := ok.good.1 y hy0
    have hdl : d.length ≤ 200 := by
      have := congrArg List.length e
      rw [List.length_append] at this
      omega
    have hb2 := s2 _ _ hb
    have a1 : atI (nm.map nv) (y.1 : Int) = some (nv (fnL nm y.1)) := at_nats (by omega)
    have a2 : atI (nm.map nv) (y.2.1 : Int) = some (nv (fnL nm y.2.1)) := at_nats (by omega)
    have m1 : fnL nm y.1 ∈ nm := getD_mem (by omega)
    have m2 : fnL nm y.2.1 ∈ nm := getD_mem (by omega)
    have em : (if ((fnL nm y.2.1 : Nat) : Int) > ((fnL nm y.1 : Nat) : Int) then ((fnL nm y.2.1 : Nat) : Int) else ((fnL nm y.1 : Nat) : Int)) = ((hi2 (fnL nm) y.1 y.2.1 : Nat) : Int) := by unfold hi2; split <;> omega
    have en : (if ((fnL nm y.2.1 : Nat) : Int) < ((fnL nm y.1 : Nat) : Int) then ((fnL nm y.2.1 : Nat) : Int) else ((fnL nm y.1 : Nat) : Int)) = ((lo2 (fnL nm) y.1 y.2.1 : Nat) : Int) := by unfold lo2; split <;> omega
    refine ⟨c, _, rfl, SqT.of hc', rfl, _, _, rfl, _, _, rfl, _, _, rfl, rfl, ?_⟩
    refine ⟨_, rfl, _, rfl, b, _, _, _, rfl, rfl, SqT.of hb2, a1, _, rfl, _, rfl, b, _, _, _, rfl, rfl, SqT.of hb2, a2, _, _, rfl, ?_⟩
    rw [en]
    refine ⟨_, rfl, _, rfl, b, _, _, _, rfl, rfl, SqT.of hb2, a1, _, rfl, _, rfl, b, _, _, _, rfl, rfl, SqT.of hb2, a2, _, _, rfl, ?_⟩
    rw [em]
    refine ⟨sz2, fun p hp => ?_⟩
    have sp := same_upd (o := .tup [nv (lo2 (fnL nm) y.1 y.2.1), nv (hi2 (fnL nm) y.1 y.2.1)]) hp
    have hp3 : upd H2 p (.tup [nv (lo2 (fnL nm) y.1 y.2.1), nv (hi2 (fnL nm) y.1 y.2.1)]) p = some (.tup ((keyP (lo2 (fnL nm) y.1 y.2.1, hi2 (fnL nm) y.1 y.2.1)).map kV)) := upd_same
    have hM3 := sp _ _ hM
    have s3 := s2.trans sp
    generalize upd H2 p (.tup [nv (lo2 (fnL nm) y.1 y.2.1), nv (hi2 (fnL nm) y.1 y.2.1)]) = H3 at *
    refine ⟨_, rfl, p, _, 0, nv (lo2 (fnL nm) y.1 y.2.1), rfl, rfl, SqT.of hp3, rfl, _, rfl, p, _, 1, nv (hi2 (fnL nm) y.1 y.2.1), rfl, rfl, SqT.of hp3, rfl, _, _, rfl, rfl, _, rfl, ?_⟩
    have hsnoc : ∀ dd : Nat → Nat → Bool, (wsum (d ++ [y]) fun a b => fnL nm a != fnL nm b && dd (lo2 (fnL nm) a b) (hi2 (fnL nm) a b)) = (wsum d fun a b => fnL nm a != fnL nm b && dd (lo2 (fnL nm) a b) (hi2 (fnL nm) a b)) + if (fnL nm y.1 != fnL nm y.2.1 && dd (lo2 (fnL nm) y.1 y.2.1) (hi2 (fnL nm) y.1 y.2.1)) = true then y.2.2 else 0 := fun dd => by
      rw [wsum_append, wsum_cons, wsum_nil, Int.add_zero]
    refine ifB (fun e5 => ?_) fun e5 => ?_
    · have hlt : lo2 (fnL nm) y.1 y.2.1 < hi2 (fnL nm) y.1 y.2.1 := by have := of_decide_eq_true e5; omega
      have hne : fnL nm y.1 ≠ fnL nm y.2.1 := fun q => by
        have h : min (fnL nm y.1) (fnL nm y.2.1) < max (fnL nm y.1) (fnL nm y.2.1) := hlt
        omega
      have hbn : (fnL nm y.1 != fnL nm y.2.1) = true := bne_iff_ne.mpr hne
      have hhi : hi2 (fnL nm) y.1 y.2.1 ∈ nm := by
        have : hi2 (fnL nm) y.1 y.2.1 = fnL nm y.1 ∨ hi2 (fnL nm) y.1 y.2.1 = fnL nm y.2.1 := by
          show max (fnL nm y.1) (fnL nm y.2.1) = _ ∨ max (fnL nm y.1) (fnL nm y.2.1) = _
          omega
        rcases this with h | h <;> rw [h] <;> assumption
      refine ⟨_, rfl, wd, rfl, .inr ⟨_, .inl hM3⟩, _, rfl, _, DGet.t hM3 hp3, _, rfl, ?_⟩
      rw [mapT_val]
      by_cases hq : (lo2 (fnL nm) y.1 y.2.1, hi2 (fnL nm) y.1 y.2.1) ∈ M
      · rw [if_pos hq]
        refine ⟨_, _, rfl, rfl, _, rfl, _, rfl, wd, _, rfl, DPut.t hM3 hp3 (smallLt (by rw [mapT_len]; omega)), ?_⟩
        refine ⟨M, fun u => if u = (lo2 (fnL nm) y.1 y.2.1, hi2 (fnL nm) y.1 y.2.1) then f (lo2 (fnL nm) y.1 y.2.1, hi2 (fnL nm) y.1 y.2.1) + y.2.2 else f u, _, _, _, _, rfl, s3.mut hwd, by rw [upd_same, mapT_old _ hq], ndM, by rw [List.length_append]; omega, fun u hu => ?_, fun dd => ?_⟩
        · have := gM u hu
          refine ⟨this.1, this.2.1, ?_⟩
          show 1 ≤ if u = _ then _ else _
          split
          · rename_i h
            have := (gM _ hq).2.2
            omega
          · exact this.2.2
        · rw [wsum_old y.2.2 ndM hq, hsnoc, sM, hbn, Bool.true_and]
      · rw [if_neg hq]
        refine ⟨_, _, rfl, rfl, _, rfl, _, rfl, wd, _, rfl, DPut.t hM3 hp3 (smallLt (by rw [mapT_len]; omega)), ?_⟩
        refine ⟨M ++ [(lo2 (fnL nm) y.1 y.2.1, hi2 (fnL nm) y.1 y.2.1)], fun u => if u = (lo2 (fnL nm) y.1 y.2.1, hi2 (fnL nm) y.1 y.2.1) then 0 + y.2.2 else f u, _, _, _, _, rfl, s3.mut hwd, by rw [upd_same, mapT_new _ hq], nd_snoc ndM hq, by rw [List.length_append, List.length_append]; show M.length + 1 ≤ d.length + 1; omega, fun u hu => ?_, fun dd => ?_⟩
        · show u.1 < u.2 ∧ u.2 ∈ nm ∧ 1 ≤ if u = (lo2 (fnL nm) y.1 y.2.1, hi2 (fnL nm) y.1 y.2.1) then 0 + y.2.2 else f u
          by_cases h : u = (lo2 (fnL nm) y.1 y.2.1, hi2 (fnL nm) y.1 y.2.1)
          · rw [if_pos h, h]
            exact ⟨hlt, hhi, by omega⟩
          · rw [if_neg h]
            exact gM u ((List.mem_append.mp hu).resolve_right fun z => h (List.mem_singleton.mp z))
        · rw [wsum_new _ hq, hsnoc, sM, hbn, Bool.true_and, Int.zero_add]
    · have hlt : ¬ lo2 (fnL nm) y.1 y.2.1 < hi2 (fnL nm) y.1 y.2.1 := by have := of_decide_eq_false e5; omega
      have heq : fnL nm y.1 = fnL nm y.2.1 := by
        have h : ¬ min (fnL nm y.1) (fnL nm y.2.1) < max (fnL nm y.1) (fnL nm y.2.1) := hlt
        omega
      refine ⟨M, f, _, _, _, _, rfl, s3, hM3, ndM, by rw [List.length_append]; omega, gM, fun dd => ?_⟩
      rw [hsnoc, sM, heq]
      simp
  · rintro _ H2 ⟨M, f, x3, x4, x5, x6, rfl, s2, hM, ndM, lM, gM, sM⟩
    have hb2 := s2 _ _ hb
    refine ⟨_, rfl, b, nm.map fun v : Nat => (v : Int), rfl, SqT.of (by rw [nv_int]; exact hb2), by rw [List.length_map]; omega, fun m hm hmax => ?_⟩
    obtain ⟨m0, hm0, rfl⟩ := List.mem_map.mp hm
    refine ⟨_, _, rfl, rfl, _, rfl, wd, _, M, rfl, hM, mapT_keys M f, fun zs l hz hz2 hl => ?_⟩
    have zl : zs.length ≤ 200 := by
      have := hz.length_eq
      rw [List.length_map] at this
      omega
    have sl := same_upd (o := .lst (zs.map fun z => V.ref z.1)) hl
    refine ⟨l, rfl, ⟨_, SqL.of upd_same⟩, fun D hD => ?_⟩
    have iz : IsAll Any (upd H2 l (.lst (zs.map fun z => V.ref z.1))) (zs.map fun z => V.ref z.1) (zs.map fun z => pairD z.2) := by
      have : ∀ ys : List (Addr × (Nat × Nat)), (∀ z ∈ ys, H2 z.1 = some (.tup [nv z.2.1, nv z.2.2])) → IsAll Any (upd H2 l (.lst (zs.map fun z => V.ref z.1))) (ys.map fun z => V.ref z.1) (ys.map fun z => pairD z.2) := by
        intro ys
        induction ys with
        | nil => intro _; exact .nil
        | cons y ys ih => exact fun h => .cons (is_pair' (sl _ _ (h y (List.mem_cons_self ..)))) (ih fun z hz => h z (List.mem_cons_of_mem _ hz))
      exact this zs hz2
    refine lc_L zs (fun z => pairD z.2) (fun z => some (tieD (z.2.1, z.2.2, f z.2))) upd_same iz hD (by omega) ?_ ?_
    · intro x y H3 hy0 s3 hy Kont Skip k1 k2
      obtain ⟨c, rfl, hc'⟩ := is_pair hy
      have hyM : y.2 ∈ M := hz.mem_iff.mp (List.mem_map.mpr ⟨y, hy0, rfl⟩)
      have hM3 := s3 _ _ (sl _ _ hM)
      have hg : DGet H3 wd (.ref c) (some (.int (f y.2))) := by
        have := DGet.t hM3 (k := keyP y.2) hc'
        rw [mapT_val, if_pos hyM] at this
        exact this
      refine ⟨rfl, _, rfl, _, rfl, _, rfl, wd, _, rfl, hg, sz1, fun p hp => ?_⟩
      have sp := same_upd (o := .tup [.int (f y.2)]) hp
      refine ⟨c, p, _, _, rfl, rfl, SqT.of (sp _ _ hc'), SqT.of upd_same, small (by simp), fun e => by (cases e), fun _ e => by (cases e), fun _ _ p2 hp2 => ?_⟩
      exact k1 _ _ _ (sp.trans (same_upd hp2)) rfl (is_tie' (t := (y.2.1, y.2.2, f y.2)) upd_same)
    · intro H3 s3 h3
      rw [filterMap_some] at h3
      obtain ⟨D', ys, e, _, hD', hy⟩ := is_list h3
      cases e
      refine ⟨D, ys, rfl, .inl ⟨SqL.of hD', fun l2 hl2 => ⟨sz2, fun p' hp' => ?_⟩⟩⟩
      have s03 := (s2.trans sl).trans s3
      have s5 := (same_upd (o := .tup ys) hl2).trans (same_upd (o := .tup [nv (m0 + 1), .ref l2]) hp')
      have ez : (zs.map fun z => tieD (z.2.1, z.2.2, f z.2)) = (tiesT (zs.map Prod.snd) f).map tieD := by
        unfold tiesT
        rw [List.map_map, List.map_map]
        rfl
      have ndz : (zs.map Prod.snd).Nodup := hz.nodup_iff.mpr ndM
      refine q ⟨m0 + 1, tiesT (zs.map Prod.snd) f⟩ (List.mem_map.mpr ⟨m0, hm0, rfl⟩) (fun x hx => ?_) (tiesT_good ndz fun u hu => ?_) ?_ (fun dd => ?_) _ _ (s03.trans s5) (is_web' upd_same (same_upd hp' _ _ upd_same) ?_)
      · have := hmax (x : Int) (List.mem_map.mpr ⟨x, hx, rfl⟩)
        show x < m0 + 1
        omega
      · have := gM u (hz.mem_iff.mp hu)
        have h2 := hmax (u.2 : Int) (List.mem_map.mpr ⟨u.2, this.2.1, rfl⟩)
        exact ⟨this.1, by show u.2 < m0 + 1; omega, this.2.2⟩
      · show (tiesT (zs.map Prod.snd) f).length ≤ _
        unfold tiesT
        rw [List.length_map, List.length_map]
        have := hz.length_eq
        rw [List.length_map] at this
        omega
      · rw [← sM]
        refine wsum_perm ?_ dd
        unfold tiesT
        exact hz.map _
      · show IsAll _ _ ys ((tiesT (zs.map Prod.snd) f).map tieD)
        rw [← ez]
        exact ((hy.back (s2.trans sl)).same (same_upd hl2)).same (same_upd hp')
end
end PW
set_option Elab.async false
set_option linter.all false
set_option maxRecDepth 100000
set_option maxHeartbeats 4000000
namespace PW
open PySem PySem.Spec PyProof.Rows L2
theorem sql_same {K : PySem.W.Frag} {H H' : Hp} {a : Addr} {xs : List V} (h : SqL K H a xs) (s : Same H H') : SqL K H' a xs := by
  rcases h with h | h
  · rcases h with h | ⟨o, h⟩
    · exact .inl (.inl (s _ _ h))
    · exact .inl (.inr ⟨o, s _ _ h⟩)
  · exact .inr h
/-- the box that chance is drawn from -/
def BoxAt (H : Hp) (a : Addr) (c : Nat) : Prop := ∃ b0 b1 c0 : Int, H a = some (.lst [.int b0, .int b1, .int c0]) ∧ 0 ≤ b0 ∧ 0 ≤ b1 ∧ 0 ≤ c0 ∧ c0 ≤ c
theorem BoxAt.same {H H' : Hp} {a : Addr} {c : Nat} (h : BoxAt H a c) (s : Same H H') : BoxAt H' a c := by
  obtain ⟨b0, b1, c0, h1, h2⟩ := h
  exact ⟨b0, b1, c0, s _ _ h1, h2⟩
theorem BoxAt.mono {H : Hp} {a : Addr} {c c' : Nat} (h : BoxAt H a c) (l : c ≤ c') : BoxAt H a c' := by
  obtain ⟨b0, b1, c0, h1, h2, h3, h4, h5⟩ := h
  exact ⟨b0, b1, c0, h1, h2, h3, h4, by omega⟩
theorem BoxAt.some {H : Hp} {a : Addr} {c : Nat} (h : BoxAt H a c) : ∃ o, H a = Option.some o := by
  obtain ⟨b0, b1, c0, h1, _⟩ := h
  exact ⟨_, h1⟩
theorem BoxAt.ne {H : Hp} {a p : Addr} {c : Nat} (h : BoxAt H a c) (hp : H p = none) : p ≠ a := fun e => by
  obtain ⟨o, ho⟩ := h.some
  rw [e, ho] at hp
  cases hp
theorem same_box {H0 H H' : Hp} {a : Addr} (h0 : Same (del H0 a) H) (s : Same (del H a) H') : Same (del H0 a) H' := (same_del (o := .lst []) h0 del_self).trans s
theorem pick3 {r : Nat} (h : r < 3) : ∃ m : Nat, atI [V.int 10, .int 100, .int (10 ^ (9 : Int).toNat)] (r : Int) = some (nv m) ∧ 1 ≤ m ∧ m ≤ 1000000000 := by
  have : r = 0 ∨ r = 1 ∨ r = 2 := by omega
  rcases this with rfl | rfl | rfl
  · exact ⟨10, rfl, by decide, by decide⟩
  · exact ⟨100, rfl, by decide, by decide⟩
  · exact ⟨1000000000, rfl, by decide, by decide⟩
theorem pick4 {r : Nat} (h : r < 4) (m3 : Nat) (h1 : 1 ≤ m3) (h2 : m3 ≤ 1000000000) : ∃ m : Nat, atI [V.int 1, .int 3, .int 9, nv m3] (r : Int) = some (nv m) ∧ 1 ≤ m ∧ m ≤ 1000000000 := by
  have : r = 0 ∨ r = 1 ∨ r = 2 ∨ r = 3 := by omega
  rcases this with rfl | rfl | rfl | rfl
  · exact ⟨1, rfl, by decide, by decide⟩
  · exact ⟨3, rfl, by decide, by decide⟩
  · exact ⟨9, rfl, by decide, by decide⟩
  · exact ⟨m3, rfl, h1, h2⟩
section
variable {P : Program} {w : World} {K : PySem.W.Frag} {mg : Str → Option Value} {base : Heap}
def spLawCellAt (K : PySem.W.Frag) : Sp := fun vs H Q _ => ∃ v c, vs = [v, c] ∧ ∃ (a : Addr) (ns : List Int) (k : Nat), v = .ref a ∧ SqL K H a (ns.map V.int) ∧ c = nv k ∧ ∀ i, GivesI i H Q
-- _law_cell_at: 0=_law_script 1=_law_k
theorem sc_law_cell_at : FnScope ["_law_script", "_law_k"] ["_law_script", "_law_k"] (defScope sLawCellAt) := ⟨rfl, rfl, rfl, by decide +kernel, rfl, by decide +kernel, by decide +kernel⟩
theorem ok_law_cell_at (T : Tx K mg) : DefOk P w K mg base "_law_cell_at" 1 ["_law_script", "_law_k"] (spLawCellAt K) := by
  refine DefOk.mk' T.g__law_cell_at (fn_ok T.d__law_cell_at sc_law_cell_at (fun _ _ _ _ _ _ us hl => match us, hl with | [_, _], _ => rfl) (fun vs H Q E h => ?_) (fun cdv A outer s H vs Q E hr h => ?_))
  · obtain ⟨_, _, rfl, _⟩ := h
    rfl
  have hu := hu_of hr
  obtain ⟨v0, v1, rfl, h⟩ := h
  refine ⟨_, (pss_cons (ps_if (pt_cmpR op_lt (pv 1) (pe_callB call_len_seq (by rfl) T.f_len (by decide +kernel) (pa_cons (pv 0) pa_nil)) (nomark _))
     (pss_one (ps_ret (pe_ix ix_list (pv 0) (pv 1) (fun _ _ => rfl))))
     pss_nil)
     (pss_one (ps_ret pe_int))), ?_⟩
  obtain ⟨a, ns, k, rfl, ha, rfl, q⟩ := h
  refine ⟨_, rfl, _, rfl, a, _, rfl, .inl ha, _, _, rfl, rfl, _, rfl, ?_⟩
  rw [List.length_map]
  refine ifB (fun e => ?_) fun e => ?_
  · have hk : k < ns.length := by have := of_decide_eq_true e; omega
    exact ⟨_, rfl, _, rfl, a, _, _, _, rfl, rfl, ha, at_ints hk, q _ H (Same.refl _)⟩
  · exact q 0 H (Same.refl _)
def spLawBox (K : PySem.W.Frag) : Sp := fun vs H Q _ => ∃ v c, vs = [v, c] ∧ ∃ (a : Addr) (ns : List Int) (k : Nat), v = .ref a ∧ SqL K H a (ns.map V.int) ∧ c = nv k ∧ k ≤ 10 ∧ ∀ b H', Same H H' → H b = none → BoxAt H' b 0 → Q (.ref b) H'
-- _law_box: 0=_law_script 1=_law_k 2=_law_cell
theorem sc_law_box : FnScope ["_law_script", "_law_k", "_law_cell"] ["_law_script", "_law_k"] (defScope sLawBox) := ⟨rfl, rfl, rfl, by decide +kernel, rfl, by decide +kernel, by decide +kernel⟩
theorem ok_law_box (T : Tx K mg) : DefOk P w K mg base "_law_box" 2 ["_law_script", "_law_k"] (spLawBox K) := by
  have O_law_cell_at := ok_law_cell_at (P := P) (w := w) (base := base) T
  refine DefOk.mk' T.g__law_box (fn_ok T.d__law_box sc_law_box (fun _ _ _ _ _ _ us hl => match us, hl with | [_, _], _ => rfl) (fun vs H Q E h => ?_) (fun cdv A outer s H vs Q E hr h => ?_))
  · obtain ⟨_, _, rfl, _⟩ := h
    rfl
  have hu := hu_of hr
  obtain ⟨v0, v1, rfl, h⟩ := h
  refine ⟨_, (pss_cons (ps_set (i := 2) sc_law_box.nd rfl (.inl rfl) (pcall O_law_cell_at (hr.mono (by decide)) (by rfl) (pa_cons (pv 0) (pa_cons (pv 1) pa_nil))))
     (pss_one (ps_ret (pe_lst (pa_cons (pe_op op_mul (pe_callB call_abs (by rfl) T.f_abs (by decide +kernel) (pa_cons (pv 2) pa_nil)) (pe_callTy call_int1 (by rfl) T.f_int (by decide +kernel) (pa_cons (pe_cmpR op_ge (pe_callB call_abs (by rfl) T.f_abs (by decide +kernel) (pa_cons (pv 2) pa_nil)) (pe_op op_pow pe_int pe_int) (nomark _)) pa_nil))) (pa_cons (pe_op op_add (pe_op op_add (pe_op op_mod (pv 2) pe_int) (pe_op op_mul pe_int (pv 1))) pe_int) (pa_cons pe_int pa_nil))))))), ?_⟩
  obtain ⟨a, ns, k, rfl, ha, rfl, hk, q⟩ := h
  refine ⟨_, rfl, _, rfl, _, _, rfl, a, ns, k, rfl, ha, rfl, fun i H1 s1 => ?_⟩
  refine ⟨_, rfl, _, rfl, _, rfl, _, rfl, _, _, rfl, rfl, ⟨by decide, by decide, by decide⟩, _, _, rfl, rfl, .inr ⟨_, rfl, ?_⟩⟩
  have b01 : ∀ c : Bool, -(2 ^ 64) < (if c = true then (1 : Int) else 0) ∧ (if c = true then (1 : Int) else 0) < 2 ^ 64 := by decide
  refine ⟨_, _, rfl, rfl, .inr (b01 _), ?_⟩
  refine ⟨_, rfl, _, _, rfl, rfl, (show (0 : Int) < 2305843009213693951 by decide), _, rfl, _, _, rfl, rfl, .inl ⟨by decide, by decide⟩, _, _, rfl, rfl, _, _, rfl, rfl, sz3, fun p hp => ?_⟩
  refine q p _ (s1.trans (same_upd hp)) (s1.free hp) ⟨_, _, _, upd_same, ?_, ?_, Int.le_refl _, Int.le_refl _⟩
  · refine Int.mul_nonneg ?_ ?_
    · split <;> omega
    · split <;> omega
  · have := Int.emod_nonneg i (show (2305843009213693951 : Int) ≠ 0 by decide)
    omega
def spLawTake (K : PySem.W.Frag) : Sp := fun vs H Q _ => ∃ v m, vs = [v, m] ∧ ∃ (a : Addr) (c many : Nat), v = .ref a ∧ BoxAt H a c ∧ c ≤ 1000000 ∧ m = nv many ∧ 1 ≤ many ∧ many ≤ 1000000000 ∧
  ∀ r : Nat, r < many → ∀ H', Same (del H a) H' → BoxAt H' a (c + 1) → Q (nv r) H'
-- _law_take: 0=_law_box_here 1=_law_many 2=_law_found 3=_law_once 4=_law_twice
theorem sc_law_take : FnScope ["_law_box_here", "_law_many", "_law_found", "_law_once", "_law_twice"] ["_law_box_here", "_law_many"] (defScope sLawTake) := ⟨rfl, rfl, rfl, by decide +kernel, rfl, by decide +kernel, by decide +kernel⟩
theorem ok_law_take (T : Tx K mg) : DefOk P w K mg base "_law_take" 1 ["_law_box_here", "_law_many"] (spLawTake K) := by
  refine DefOk.mk' T.g__law_take (fn_ok T.d__law_take sc_law_take (fun _ _ _ _ _ _ us hl => match us, hl with | [_, _], _ => rfl) (fun vs H Q E h => ?_) (fun cdv A outer s H vs Q E hr h => ?_))
  · obtain ⟨_, _, rfl, _⟩ := h
    rfl
  have hu := hu_of hr
  obtain ⟨v0, v1, rfl, h⟩ := h
  refine ⟨_, (pss_cons (ps_if (pt_cmpR op_gt (pe_ix ix_list (pv 0) pe_int (fun _ _ => rfl)) pe_int (nomark _))
     (pss_cons (ps_set (i := 2) sc_law_take.nd rfl (.inl rfl) (pe_op op_mod (pe_ix ix_list (pv 0) pe_int (fun _ _ => rfl)) (pv 1)))
     (pss_cons (ps_asg (pe_op op_fdiv (pe_ix ix_list (pv 0) pe_int (fun _ _ => rfl)) (pv 1)) (pg_sub (pv 0) pe_int set_list))
     (pss_one (ps_ret (pv 2)))))
     pss_nil)
     (pss_cons (ps_asg (pe_op op_add (pe_ix ix_list (pv 0) pe_int (fun _ _ => rfl)) pe_int) (pg_sub (pv 0) pe_int set_list))
     (pss_cons (ps_set (i := 3) sc_law_take.nd rfl (.inl rfl) (pe_op op_mod (pe_op op_mul (pe_op op_add (pe_ix ix_list (pv 0) pe_int (fun _ _ => rfl)) (pe_op op_mul pe_int (pe_ix ix_list (pv 0) pe_int (fun _ _ => rfl)))) (pe_op op_add pe_int (pe_ix ix_list (pv 0) pe_int (fun _ _ => rfl)))) pe_int))
     (pss_cons (ps_set (i := 4) sc_law_take.nd rfl (.inl rfl) (pe_op op_mod (pe_op op_mul (pe_op op_add (pv 3) (pe_ix ix_list (pv 0) pe_int (fun _ _ => rfl))) (pe_op op_add (pe_op op_mod (pv 3) pe_int) pe_int)) pe_int))
     (pss_one (ps_ret (pe_op op_mod (pe_op op_fdiv (pe_op op_mod (pe_op op_add (pe_op op_mul (pv 4) pe_int) (pv 3)) pe_int) pe_int) (pv 1)))))))), ?_⟩
  obtain ⟨a, c, many, rfl, hbox, hc, rfl, hm1, hm2, q⟩ := h
  obtain ⟨b0, b1, c0, ha, hb0, hb1, hc0, hc1⟩ := hbox
  have gt : ∀ x : Int, ∃ r : Nat, x % (many : Int) = (r : Int) ∧ r < many := fun x => by
    have h1 := Int.emod_nonneg x (show (many : Int) ≠ 0 by omega)
    have h2 := Int.emod_lt_of_pos x (show (0 : Int) < many by omega)
    exact ⟨(x % many).toNat, by omega, by omega⟩
  refine ⟨_, rfl, a, _, 0, .int b0, rfl, rfl, SqL.of ha, rfl, _, _, rfl, rfl, _, rfl, ?_⟩
  refine ifB (fun e => ?_) fun e => ?_
  · obtain ⟨r, er, hr⟩ := gt b0
    refine ⟨_, rfl, a, _, 0, .int b0, rfl, rfl, SqL.of ha, rfl, _, rfl, _, _, rfl, rfl, by show (0 : Int) < many; omega, ?_⟩
    refine ⟨_, rfl, a, _, 0, .int b0, rfl, rfl, SqL.of ha, rfl, _, rfl, _, _, rfl, rfl, ⟨by omega, by omega⟩, _, rfl, a, _, 0, 0, rfl, rfl, ha, rfl, _, rfl, ?_⟩
    show Q (.int (b0 % (many : Int))) _
    rw [er]
    exact q r hr _ del_upd ⟨_, _, _, upd_same, Int.ediv_nonneg hb0 (by omega), hb1, hc0, by omega⟩
  · refine ⟨_, rfl, a, _, 2, .int c0, rfl, rfl, SqL.of ha, rfl, _, _, rfl, rfl, _, rfl, a, _, 2, 2, rfl, rfl, ha, rfl, ?_⟩
    have ha2 : upd H a (.lst ([V.int b0, .int b1, .int c0].set 2 (.int (c0 + 1)))) a = some (.lst [.int b0, .int b1, .int (c0 + 1)]) := upd_same
    have sd : Same (del H a) (upd H a (.lst ([V.int b0, .int b1, .int c0].set 2 (.int (c0 + 1))))) := del_upd
    generalize upd H a (.lst ([V.int b0, .int b1, .int c0].set 2 (.int (c0 + 1)))) = H2 at *
    have ix1 : atI [V.int b0, .int b1, .int (c0 + 1)] 1 = some (.int b1) := rfl
    have ix2 : atI [V.int b0, .int b1, .int (c0 + 1)] 2 = some (.int (c0 + 1)) := rfl
    refine ⟨_, rfl, a, _, 1, _, rfl, rfl, SqL.of ha2, ix1, _, rfl, a, _, 2, _, rfl, rfl, SqL.of ha2, ix2, _, _, rfl, rfl, .inl ⟨by decide, by decide⟩, _, _, rfl, rfl, _, rfl, a, _, 2, _, rfl, rfl, SqL.of ha2, ix2, _, _, rfl, rfl, _, _, rfl, rfl, .inr ⟨by omega, by omega⟩, _, _, rfl, rfl, (show (0 : Int) < 2147483647 by decide), ?_⟩
    refine ⟨_, rfl, _, rfl, a, _, 2, _, rfl, rfl, SqL.of ha2, ix2, _, _, rfl, rfl, _, rfl, _, _, rfl, rfl, (show (0 : Int) < 40009 by decide), _, _, rfl, rfl, _, _, rfl, rfl, .inr ⟨by omega, by omega⟩, _, _, rfl, rfl, (show (0 : Int) < 2147483629 by decide), ?_⟩
    refine ⟨_, rfl, _, _, rfl, rfl, .inr ⟨by decide, by decide⟩, _, rfl, _, _, rfl, rfl, _, _, rfl, rfl, (show (0 : Int) < 2147483587 by decide), _, _, rfl, rfl, ⟨by decide, by decide⟩, _, rfl, _, _, rfl, rfl, by show (0 : Int) < many; omega, ?_⟩
    have fin : ∀ X : Int, Q (.int (X % (many : Int))) H2 := fun X => by
      obtain ⟨r, er, hr⟩ := gt X
      rw [er]
      exact q r hr H2 sd ⟨_, _, _, ha2, hb0, hb1, by omega, by omega⟩
    exact fin _
def spLawWeight (K : PySem.W.Frag) : Sp := fun vs H Q _ => ∃ v m, vs = [v, m] ∧ ∃ (a : Addr) (c hv : Nat), v = .ref a ∧ BoxAt H a c ∧ c ≤ 900000 ∧ m = nv hv ∧ hv < 4 ∧
  ∀ i : Int, 1 ≤ i → i ≤ 1000000000 → ∀ H', Same (del H a) H' → BoxAt H' a (c + 2) → Q (.int i) H'
-- _law_weight: 0=_law_box_here 1=_law_heavy
theorem sc_law_weight : FnScope ["_law_box_here", "_law_heavy"] ["_law_box_here", "_law_heavy"] (defScope sLawWeight) := ⟨rfl, rfl, rfl, by decide +kernel, rfl, by decide +kernel, by decide +kernel⟩
theorem ok_law_weight (T : Tx K mg) : DefOk P w K mg base "_law_weight" 2 ["_law_box_here", "_law_heavy"] (spLawWeight K) := by
  have O_law_take := ok_law_take (P := P) (w := w) (base := base) T
  refine DefOk.mk' T.g__law_weight (fn_ok T.d__law_weight sc_law_weight (fun _ _ _ _ _ _ us hl => match us, hl with | [_, _], _ => rfl) (fun vs H Q E h => ?_) (fun cdv A outer s H vs Q E hr h => ?_))
  · obtain ⟨_, _, rfl, _⟩ := h
    rfl
  have hu := hu_of hr
  obtain ⟨v0, v1, rfl, h⟩ := h
  refine ⟨_, (pss_one (ps_ret (pe_op op_add pe_int (pcall O_law_take (hr.mono (by decide)) (by rfl) (pa_cons (pv 0) (pa_cons (pe_ix ix_list (pe_lst (pa_cons pe_int (pa_cons pe_int (pa_cons pe_int (pa_cons (pe_ix ix_list (pe_lst (pa_cons pe_int (pa_cons pe_int (pa_cons (pe_op op_pow pe_int pe_int) pa_nil)))) (pcall O_law_take (hr.mono (by decide)) (by rfl) (pa_cons (pv 0) (pa_cons pe_int pa_nil))) (fun _ _ => rfl)) pa_nil))))) (pv 1) (fun _ _ => rfl)) pa_nil)))))), ?_⟩
  obtain ⟨a, c, hv, rfl, hbox, hc, rfl, hh, q⟩ := h
  obtain ⟨o, ho⟩ := hbox.some
  refine ⟨_, rfl, _, _, rfl, rfl, ⟨by decide, by decide, by decide⟩, sz3, fun p hp => ?_⟩
  have sp := same_upd (o := .lst [.int 10, .int 100, .int (10 ^ (9 : Int).toNat)]) hp
  have pa : p ≠ a := hbox.ne hp
  refine ⟨_, rfl, _, _, rfl, a, c, 3, rfl, hbox.same sp, by omega, rfl, by decide, by decide, fun r hr H2 s2 hb2 => ?_⟩
  obtain ⟨m3, e3, h3a, h3b⟩ := pick3 hr
  have hp2 : H2 p = some (.lst [.int 10, .int 100, .int (10 ^ (9 : Int).toNat)]) := s2 _ _ (del_get upd_same pa)
  have s02 : Same (del H a) H2 := (del_mono sp).trans s2
  refine ⟨p, _, _, _, rfl, rfl, SqL.of hp2, e3, small (by simp), fun p2 hp2 => ?_⟩
  obtain ⟨many, e4, h4a, h4b⟩ := pick4 hh m3 h3a h3b
  have sp2 := same_upd (o := .lst [.int 1, .int 3, .int 9, nv m3]) hp2
  refine ⟨_, rfl, p2, _, _, _, rfl, rfl, SqL.of upd_same, e4, _, _, rfl, a, c + 1, many, rfl, hb2.same sp2, by omega, rfl, h4a, h4b, fun r2 hr2 H3 s3 hb3 => ⟨_, _, rfl, rfl, ?_⟩⟩
  refine q (1 + r2) (by omega) (by omega) H3 (same_box (s02.trans sp2) s3) hb3
end
end PW
set_option Elab.async false
set_option linter.all false
set_option maxRecDepth 100000
set_option maxHeartbeats 4000000
namespace PW
open PySem PySem.Spec PyProof.Rows L2
/-- a dict of ties under way -/
structure LW (H : Hp) (a wd : Addr) (n c k : Nat) (H2 : Hp) : Prop where
  ex : ∃ M f, H2 wd = some (.dT (mapT M f)) ∧ M.Nodup ∧ M.length ≤ k ∧ ∀ q ∈ M, q.1 < q.2 ∧ q.2 < n ∧ 1 ≤ f q ∧ f q ≤ 1000000000
  box : BoxAt H2 a c
  same : Same (del H a) H2
  new : del H a wd = none
  ne : wd ≠ a
section
variable {H : Hp} {a wd : Addr} {n c k : Nat} {H2 H3 : Hp}
theorem LW.go (l : LW H a wd n c k H2) (s : Same H2 H3) : LW H a wd n c k H3 := by
  obtain ⟨M, f, h1, h2⟩ := l.ex
  exact ⟨⟨M, f, s _ _ h1, h2⟩, l.box.same s, l.same.trans s, l.new, l.ne⟩
theorem LW.take {c' : Nat} (l : LW H a wd n c k H2) (s : Same (del H2 a) H3) (b : BoxAt H3 a c') : LW H a wd n c' k H3 := by
  obtain ⟨M, f, h1, h2⟩ := l.ex
  exact ⟨⟨M, f, s _ _ (del_get h1 l.ne), h2⟩, b, same_box l.same s, l.new, l.ne⟩
theorem LW.put (l : LW H a wd n c k H2) {q : Nat × Nat} {w : Int} (hq : q.1 < q.2 ∧ q.2 < n) (hw : 1 ≤ w ∧ w ≤ 1000000000) : ∃ kvs, H2 wd = some (.dT kvs) ∧ kvs.length ≤ k ∧ LW H a wd n c (k + 1) (upd H2 wd (.dT (putK kvs (keyP q) (.int w)))) := by
  obtain ⟨M, f, h1, nd, hl, hM⟩ := l.ex
  have bx : BoxAt (upd H2 wd (.dT (putK (mapT M f) (keyP q) (.int w)))) a c := by
    obtain ⟨b0, b1, c0, e, r⟩ := l.box
    exact ⟨b0, b1, c0, by rw [upd_ne (Ne.symm l.ne)]; exact e, r⟩
  refine ⟨mapT M f, h1, by rw [mapT_len]; exact hl, ?_, bx, l.same.mut l.new, l.new, l.ne⟩
  by_cases hm : q ∈ M
  · refine ⟨M, fun u => if u = q then w else f u, by rw [upd_same, mapT_old _ hm], nd, by omega, fun u hu => ?_⟩
    have := hM u hu
    show u.1 < u.2 ∧ u.2 < n ∧ 1 ≤ (if u = q then w else f u) ∧ (if u = q then w else f u) ≤ 1000000000
    split
    · exact ⟨this.1, this.2.1, hw⟩
    · exact this
  · refine ⟨M ++ [q], fun u => if u = q then w else f u, by rw [upd_same, mapT_new _ hm], nd_snoc nd hm, by rw [List.length_append]; show M.length + 1 ≤ _; omega, fun u hu => ?_⟩
    show u.1 < u.2 ∧ u.2 < n ∧ 1 ≤ (if u = q then w else f u) ∧ (if u = q then w else f u) ≤ 1000000000
    by_cases e : u = q
    · rw [if_pos e, e]
      exact ⟨hq.1, hq.2, hw⟩
    · rw [if_neg e]
      exact hM u ((List.mem_append.mp hu).resolve_right fun z => e (List.mem_singleton.mp z))
end
theorem pairs_all {H2 H3 : Hp} (sl : Same H2 H3) : ∀ ys : List (Addr × (Nat × Nat)), (∀ z ∈ ys, H2 z.1 = some (.tup [nv z.2.1, nv z.2.2])) → IsAll Any H3 (ys.map fun z => V.ref z.1) (ys.map fun z => pairD z.2)
  | [], _ => .nil
  | y :: ys, h => .cons (is_pair' (sl _ _ (h y (List.mem_cons_self ..)))) (pairs_all sl ys fun z hz => h z (List.mem_cons_of_mem _ hz))
theorem ties_ez (zs : List (Addr × (Nat × Nat))) (f : Nat × Nat → Int) : (zs.map fun z => tieD (z.2.1, z.2.2, f z.2)) = (tiesT (zs.map Prod.snd) f).map tieD := by
  unfold tiesT
  rw [List.map_map, List.map_map]
  rfl
section
variable {P : Program} {w : World} {K : PySem.W.Frag} {mg : Str → Option Value} {base : Heap}
def spLawWeb (K : PySem.W.Frag) : Sp := fun vs H Q _ => ∃ v m, vs = [v, m] ∧ ∃ (a : Addr) (c n : Nat), v = .ref a ∧ BoxAt H a c ∧ c ≤ 800000 ∧ m = nv n ∧ 2 ≤ n ∧ n ≤ 6 ∧
  ∀ W : Web, W.n = n → WOk W → (∀ t ∈ W.ts, t.2.2 ≤ 1000000000) → ∀ r H', Same (del H a) H' → Is Any H' r (webD W) → BoxAt H' a (c + 100) → Q r H'
-- _law_web: 0=_law_box_here 1=_law_many 2=_law_heavy 3=_law_ties 4=_law_place 5=_law_turn 6=_law_one 7=_law_other 8=_law_pair
theorem sc_law_web : FnScope ["_law_box_here", "_law_many", "_law_heavy", "_law_ties", "_law_place", "_law_turn", "_law_one", "_law_other", "_law_pair"] ["_law_box_here", "_law_many"] (defScope sLawWeb) := ⟨rfl, rfl, rfl, by decide +kernel, rfl, by decide +kernel, by decide +kernel⟩
theorem ok_law_web (T : Tx K mg) : DefOk P w K mg base "_law_web" 3 ["_law_box_here", "_law_many"] (spLawWeb K) := by
  have O_law_take := ok_law_take (P := P) (w := w) (base := base) T
  have O_law_weight := ok_law_weight (P := P) (w := w) (base := base) T
  refine DefOk.mk' T.g__law_web (fn_ok T.d__law_web sc_law_web (fun _ _ _ _ _ _ us hl => match us, hl with | [_, _], _ => rfl) (fun vs H Q E h => ?_) (fun cdv A outer s H vs Q E hr h => ?_))
  · obtain ⟨_, _, rfl, _⟩ := h
    rfl
  have hu := hu_of hr
  obtain ⟨v0, v1, rfl, h⟩ := h
  refine ⟨_, (pss_cons (ps_set (i := 2) sc_law_web.nd rfl (.inl rfl) (pcall O_law_take (hr.mono (by decide)) (by rfl) (pa_cons (pv 0) (pa_cons pe_int pa_nil))))
     (pss_cons (ps_set (i := 3) sc_law_web.nd rfl (.inr rfl) pe_dnewT)
     (pss_cons (ps_for PassesOwn.never rfl (pi_range2 rfl T.f_range (pa_cons pe_int (pa_cons (pv 1) pa_nil))) (pg_name (i := 4) sc_law_web.nd rfl (.inl rfl) (.inl rfl))
     (pss_one (ps_if (pt_cmpR op_gt (pcall O_law_take (hr.mono (by decide)) (by rfl) (pa_cons (pv 0) (pa_cons pe_int pa_nil))) pe_int (nomark _))
     (pss_one (ps_dput hu (pv 3) (pe_tup (pa_cons (pcall O_law_take (hr.mono (by decide)) (by rfl) (pa_cons (pv 0) (pa_cons (pv 4) pa_nil))) (pa_cons (pv 4) pa_nil))) (pcall O_law_weight (hr.mono (by decide)) (by rfl) (pa_cons (pv 0) (pa_cons (pv 2) pa_nil))) rfl))
     pss_nil)))
     (pss_cons (ps_for PassesOwn.never rfl (pi_range1 rfl T.f_range (pa_cons (pe_callB (call_min2 rfl) (by rfl) T.f_min (by decide +kernel) (pa_cons (pcall O_law_take (hr.mono (by decide)) (by rfl) (pa_cons (pv 0) (pa_cons (pe_op op_add (pe_op op_mul pe_int (pv 1)) pe_int) pa_nil))) (pa_cons (pe_op op_sub pe_int (pv 1)) pa_nil))) pa_nil)) (pg_name (i := 5) sc_law_web.nd rfl (.inl rfl) (.inl rfl))
     (pss_cons (ps_par (i := 6) (j := 7) (by rfl) sc_law_web.nd rfl rfl (by decide) rfl rfl (pa_cons (pcall O_law_take (hr.mono (by decide)) (by rfl) (pa_cons (pv 0) (pa_cons (pv 1) pa_nil))) (pa_cons (pcall O_law_take (hr.mono (by decide)) (by rfl) (pa_cons (pv 0) (pa_cons (pv 1) pa_nil))) pa_nil)) (by rfl))
     (pss_one (ps_if (pt_cmpR op_ne (pv 6) (pv 7) (nomark _))
     (pss_one (ps_dput hu (pv 3) (pe_tup (pa_cons (pe_callB (call_min2 rfl) (by rfl) T.f_min (by decide +kernel) (pa_cons (pv 6) (pa_cons (pv 7) pa_nil))) (pa_cons (pe_callB (call_max2 rfl) (by rfl) T.f_max (by decide +kernel) (pa_cons (pv 6) (pa_cons (pv 7) pa_nil))) pa_nil))) (pcall O_law_weight (hr.mono (by decide)) (by rfl) (pa_cons (pv 0) (pa_cons (pv 2) pa_nil))) rfl))
     pss_nil))))
     (pss_one (ps_ret (pe_tup (pa_cons (pv 1) (pa_cons (pe_callTy call_tuple_of (by rfl) T.f_tuple (by decide +kernel) (pa_cons (pe_lc (own := [("_law_pair", 8)]) (g := (gName 8)) (tt := tYes) (te := (tOp (rCatA K) (tVar 8) (tTup (tCons (tDGet (tVar 3) (tVar 8)) tNil)))) rfl sc_law_web.nd (pi_list (pe_callB (cr_sortDT rfl hr.units) (by rfl) T.f_sorted (by decide +kernel) (pa_cons (pv 3) pa_nil))) (blkOk_by (N := ["_law_box_here", "_law_many", "_law_heavy", "_law_ties", "_law_place", "_law_turn", "_law_one", "_law_other", "_law_pair"]) (sc := defScope sLawWeb) (by decide +kernel)) (fun _ _ _ _ _ => (pg_name (i := 8) sc_law_web.nd rfl (.inl rfl) (.inr rfl))) (fun _ _ _ _ _ => pts_nil) (fun _ _ _ _ _ => (pe_op op_catA (pv 8) (pe_tup (pa_cons (pe_dget hu (pv 3) (pv 8) (fun _ _ => rfl)) pa_nil))))) pa_nil)) pa_nil))))))))), ?_⟩
  obtain ⟨a, c, n, rfl, hbox, hc, rfl, hn2, hn6, q⟩ := h
  obtain ⟨oa, hoa⟩ := hbox.some
  refine ⟨_, rfl, _, _, rfl, a, c, 4, rfl, hbox, by omega, rfl, by decide, by decide, fun hv hhv H1 s1 hb1 => ?_⟩
  intro wd hwd
  have wda : wd ≠ a := hb1.ne hwd
  have lw0 : LW H a wd n (c + 1 + 4 * 0) 0 (upd H1 wd (.dT [])) := ⟨⟨[], fun _ => 0, upd_same, by simp, Nat.le_refl _, by simp⟩, hb1.same (same_upd hwd), s1.trans (same_upd hwd), s1.free hwd, wda⟩
  generalize upd H1 wd (.dT []) = H2 at *
  refine ⟨_, rfl, _, _, rfl, ⟨by decide, by decide, by omega, by omega⟩, ?_⟩
  have en : ((n : Int) - 1).toNat = n - 1 := by omega
  rw [en]
  refine for_range (fun i σ H3 => ∃ x4 x5 x6 x7 : Option V, σ = [some (.ref a), some (nv n), some (nv hv), some (.ref wd), x4, x5, x6, x7, none] ∧ LW H a wd n (c + 1 + 4 * i) i H3) ⟨_, _, _, _, rfl, lw0⟩ ?_ ?_
  · rintro i _ H3 hi ⟨x4, x5, x6, x7, rfl, lw⟩
    have ei : (1 : Int) + (i : Int) = ((i + 1 : Nat) : Int) := by omega
    rw [ei]
    refine ⟨_, rfl, _, _, rfl, a, _, 9, rfl, lw.box, by omega, rfl, by decide, by decide, fun r hr H4 s4 hb4 => ⟨_, _, rfl, rfl, _, rfl, ?_⟩⟩
    have lw4 := lw.take s4 hb4
    refine ifB (fun e => ?_) fun e => ?_
    · refine ⟨_, rfl, _, rfl, _, _, rfl, a, _, hv, rfl, lw4.box, by omega, rfl, hhv, fun w hw1 hw2 H5 s5 hb5 => ?_⟩
      have lw5 := lw4.take s5 hb5
      refine ⟨_, rfl, _, rfl, _, rfl, _, _, rfl, a, _, i + 1, rfl, lw5.box, by omega, rfl, by omega, by omega, fun r2 hr2 H6 s6 hb6 => ?_⟩
      have lw6 := lw5.take s6 hb6
      refine ⟨_, rfl, sz2, fun p hp => ?_⟩
      have sp := same_upd (o := .tup [nv r2, nv (i + 1)]) hp
      have lw7 := lw6.go sp
      obtain ⟨kvs, hk1, hk2, hk3⟩ := lw7.put (q := (r2, i + 1)) (w := w) ⟨hr2, by show i + 1 < n; omega⟩ ⟨hw1, hw2⟩
      refine ⟨wd, _, rfl, DPut.t (k := keyP (r2, i + 1)) hk1 (by exact upd_same) (smallLt (by omega)), ⟨_, _, _, _, rfl, ?_⟩⟩
      exact ⟨hk3.ex, hk3.box.mono (by omega), hk3.same, hk3.new, hk3.ne⟩
    · obtain ⟨M, f, h1, h2, h3, h4⟩ := lw4.ex
      exact ⟨_, _, _, _, rfl, ⟨M, f, h1, h2, by omega, h4⟩, lw4.box.mono (by omega), lw4.same, lw4.new, lw4.ne⟩
  rintro _ H3 ⟨x4, x5, x6, x7, rfl, lw⟩
  refine ⟨_, rfl, _, rfl, _, _, rfl, rfl, .inl ⟨by decide, by decide⟩, _, _, rfl, rfl, _, _, rfl, a, _, 2 * n + 1, rfl, lw.box, by omega, by show V.int (2 * (n : Int) + 1) = V.int ((2 * n + 1 : Nat) : Int); congr 1, by omega, by omega, fun tr htr H4 s4 hb4 => ?_⟩
  have lw4 := lw.take s4 hb4
  refine ⟨_, rfl, _, _, rfl, rfl, _, _, rfl, _, rfl, by split <;> omega, by split <;> omega, ?_⟩
  generalize htn : (if (91 : Int) - (n : Int) < (tr : Int) then (91 : Int) - (n : Int) else (tr : Int)).toNat = tn
  have htn2 : tn ≤ 2 * n := by subst htn; split <;> omega
  refine for_R (fun i σ H3 => ∃ x4 x5 x6 x7 : Option V, σ = [some (.ref a), some (nv n), some (nv hv), some (.ref wd), x4, x5, x6, x7, none] ∧ LW H a wd n (c + 1 + 4 * (n - 1) + 1 + 4 * i) (n - 1 + i) H3) ⟨_, _, _, _, rfl, lw4⟩ ?_ ?_
  · rintro i _ H3 hi ⟨x4, x5, x6, x7, rfl, lw⟩
    refine ⟨_, rfl, _, rfl, _, _, rfl, a, _, n, rfl, lw.box, by omega, rfl, by omega, by omega, fun r1 hr1 H4 s4 hb4 => ?_⟩
    have lw4 := lw.take s4 hb4
    refine ⟨_, rfl, _, rfl, _, _, rfl, a, _, n, rfl, lw4.box, by omega, rfl, by omega, by omega, fun r2 hr2 H5 s5 hb5 => ?_⟩
    have lw5 := lw4.take s5 hb5
    refine ⟨_, _, rfl, ?_⟩
    refine ⟨_, rfl, _, rfl, rfl, _, rfl, ?_⟩
    rw [ne_nats]
    refine ifB (fun e => ?_) fun e => ?_
    · have hne : r1 ≠ r2 := bne_iff_ne.mp e
      refine ⟨_, rfl, _, rfl, _, _, rfl, a, _, hv, rfl, lw5.box, by omega, rfl, hhv, fun w hw1 hw2 H6 s6 hb6 => ?_⟩
      have lw6 := lw5.take s6 hb6
      refine ⟨_, rfl, _, rfl, _, rfl, _, _, rfl, ?_⟩
      have e1 : (if ((r2 : Nat) : Int) < ((r1 : Nat) : Int) then ((r2 : Nat) : Int) else ((r1 : Nat) : Int)) = ((min r1 r2 : Nat) : Int) := by split <;> omega
      have e2 : (if ((r2 : Nat) : Int) > ((r1 : Nat) : Int) then ((r2 : Nat) : Int) else ((r1 : Nat) : Int)) = ((max r1 r2 : Nat) : Int) := by split <;> omega
      rw [e1]
      refine ⟨_, rfl, _, rfl, _, _, rfl, ?_⟩
      rw [e2]
      refine ⟨sz2, fun p hp => ?_⟩
      have sp := same_upd (o := .tup [nv (min r1 r2), nv (max r1 r2)]) hp
      have lw7 := lw6.go sp
      obtain ⟨kvs, hk1, hk2, hk3⟩ := lw7.put (q := (min r1 r2, max r1 r2)) (w := w) ⟨by show min r1 r2 < max r1 r2; omega, by show max r1 r2 < n; omega⟩ ⟨hw1, hw2⟩
      refine ⟨wd, _, rfl, DPut.t (k := keyP (min r1 r2, max r1 r2)) hk1 (by exact upd_same) (smallLt (by omega)), ⟨_, _, _, _, rfl, ?_⟩⟩
      exact ⟨hk3.ex, hk3.box.mono (by omega), hk3.same, hk3.new, hk3.ne⟩
    · obtain ⟨M, f, h1, h2, h3, h4⟩ := lw5.ex
      exact ⟨_, _, _, _, rfl, ⟨M, f, h1, h2, by omega, h4⟩, lw5.box.mono (by omega), lw5.same, lw5.new, lw5.ne⟩
  rintro _ H5 ⟨x4, x5, x6, x7, rfl, lw5⟩
  obtain ⟨M, f, hM, ndM, lM, gM⟩ := lw5.ex
  refine ⟨_, rfl, _, rfl, wd, _, M, rfl, hM, mapT_keys M f, fun zs l hz hz2 hl => ?_⟩
  have zl : zs.length ≤ 200 := by
    have := hz.length_eq
    rw [List.length_map] at this
    omega
  have sl := same_upd (o := .lst (zs.map fun z => V.ref z.1)) hl
  refine ⟨l, rfl, ⟨_, SqL.of upd_same⟩, fun D hD => ?_⟩
  refine lc_L zs (fun z => pairD z.2) (fun z => some (tieD (z.2.1, z.2.2, f z.2))) upd_same (pairs_all sl zs hz2) hD (by omega) ?_ ?_
  · intro x y H6 hy0 s6 hy Kont Skip k1 k2
    obtain ⟨c, rfl, hc'⟩ := is_pair hy
    have hyM : y.2 ∈ M := hz.mem_iff.mp (List.mem_map.mpr ⟨y, hy0, rfl⟩)
    have hM3 := s6 _ _ (sl _ _ hM)
    have hg : DGet H6 wd (.ref c) (some (.int (f y.2))) := by
      have := DGet.t hM3 (k := keyP y.2) hc'
      rw [mapT_val, if_pos hyM] at this
      exact this
    refine ⟨rfl, _, rfl, _, rfl, _, rfl, wd, _, rfl, hg, sz1, fun p hp => ?_⟩
    have sp := same_upd (o := .tup [.int (f y.2)]) hp
    refine ⟨c, p, _, _, rfl, rfl, SqT.of (sp _ _ hc'), SqT.of upd_same, small (by simp), fun e => by (cases e), fun _ e => by (cases e), fun _ _ p2 hp2 => ?_⟩
    exact k1 _ _ _ (sp.trans (same_upd hp2)) rfl (is_tie' (t := (y.2.1, y.2.2, f y.2)) upd_same)
  · intro H6 s6 h6
    rw [filterMap_some, ties_ez] at h6
    obtain ⟨D', ys, e, _, hD', hy⟩ := is_list h6
    cases e
    refine ⟨D, ys, rfl, .inl ⟨SqL.of hD', fun l2 hl2 => ⟨sz2, fun p' hp' => ?_⟩⟩⟩
    have s5 := (same_upd (o := .tup ys) hl2).trans (same_upd (o := .tup [nv n, .ref l2]) hp')
    have ndz : (zs.map Prod.snd).Nodup := hz.nodup_iff.mpr ndM
    have lw8 := ((lw5.go sl).go s6).go s5
    have tl : (tiesT (zs.map Prod.snd) f).length = M.length := by
      unfold tiesT
      rw [List.length_map]
      exact hz.length_eq
    refine q ⟨n, tiesT (zs.map Prod.snd) f⟩ rfl ⟨tiesT_good ndz fun u hu => ?_, by show 1 ≤ n; omega, by show n ≤ 7; omega, by show (tiesT (zs.map Prod.snd) f).length ≤ 200; omega⟩ (fun t ht => ?_) _ _ lw8.same (is_web' upd_same (same_upd hp' _ _ upd_same) ((hy.any.same (same_upd hl2)).same (same_upd hp'))) (lw8.box.mono (by omega))
    · have := gM u (hz.mem_iff.mp hu)
      exact ⟨this.1, this.2.1, this.2.2.1⟩
    · obtain ⟨u, hu, rfl⟩ := List.mem_map.mp ht
      exact (gM u (hz.mem_iff.mp hu)).2.2.2
end
end PW
set_option Elab.async false
set_option linter.all false
set_option maxRecDepth 100000
set_option maxHeartbeats 4000000
namespace PW
open PySem PySem.Spec PyProof.Rows L2
theorem valV_fresh {kvs : List (List Key × V)} {k : List Key} (h : k ∉ kvs.map Prod.fst) : valV kvs k = none := by
  cases e : valV kvs k with
  | none => rfl
  | some v => exact absurd (valV_in e) h
theorem mergeT_nd : ∀ (l acc : List (List Key × V)), ((acc ++ l).map Prod.fst).Nodup → mergeT acc l = acc ++ l
  | [], acc, _ => by rw [List.append_nil]; rfl
  | p :: l, acc, h => by
    show mergeT (putK acc p.1 p.2) l = _
    have hp : p.1 ∉ acc.map Prod.fst := by
      rw [List.map_append, List.nodup_append] at h
      intro q
      exact h.2.2 _ q p.1 (List.mem_map.mpr ⟨p, List.mem_cons_self .., rfl⟩) rfl
    rw [putK_new p.2 (valV_fresh hp)]
    have e : acc ++ p :: l = (acc ++ [(p.1, p.2)]) ++ l := by simp
    rw [e] at h ⊢
    exact mergeT_nd l _ h
/-- what a tie weighs, naught where there is none -/
def curW (ts : List Tie) (q : Nat × Nat) : Int := wsum ts fun x y => x == q.1 && y == q.2
theorem curW_at : ∀ {ts : List Tie}, (ts.map pr).Nodup → ∀ t ∈ ts, curW ts (pr t) = t.2.2
  | [], _, t, h => nomatch h
  | s :: ts, nd, t, h => by
    rw [List.map_cons, List.nodup_cons] at nd
    unfold curW
    rw [wsum_cons]
    have hz : ∀ u : Tie, pr u ∉ ts.map pr → (wsum ts fun x y => x == (pr u).1 && y == (pr u).2) = 0 := fun u hu => by
      refine wsum_zero fun v hv => ?_
      cases e : (v.1 == (pr u).1 && v.2.1 == (pr u).2) with
      | false => rfl
      | true =>
        rw [Bool.and_eq_true, beq_iff_eq, beq_iff_eq] at e
        exact absurd (List.mem_map.mpr ⟨v, hv, Prod.ext e.1 e.2⟩) hu
    rcases List.mem_cons.mp h with rfl | h
    · rw [hz t nd.1]
      simp
    · have hne : ¬ (s.1 == (pr t).1 && s.2.1 == (pr t).2) = true := fun e => by
        rw [Bool.and_eq_true, beq_iff_eq, beq_iff_eq] at e
        exact nd.1 (List.mem_map.mpr ⟨t, h, Prod.ext e.1.symm e.2.symm⟩)
      rw [if_neg hne, Int.zero_add]
      exact curW_at nd.2 t h
theorem curW_not {ts : List Tie} {q : Nat × Nat} (h : q ∉ ts.map pr) : curW ts q = 0 := by
  unfold curW
  refine wsum_zero fun v hv => ?_
  cases e : (v.1 == q.1 && v.2.1 == q.2) with
  | false => rfl
  | true =>
    rw [Bool.and_eq_true, beq_iff_eq, beq_iff_eq] at e
    exact absurd (List.mem_map.mpr ⟨v, hv, Prod.ext e.1 e.2⟩) h
theorem mapT_ties {ts : List Tie} (nd : (ts.map pr).Nodup) : mapT (ts.map pr) (curW ts) = ts.map fun t => (keyP (pr t), V.int t.2.2) := by
  unfold mapT
  rw [List.map_map]
  exact List.map_congr_left fun t ht => by
    show (keyP (pr t), V.int (curW ts (pr t))) = _
    rw [curW_at nd t ht]
theorem tiesT_ties {ts : List Tie} (nd : (ts.map pr).Nodup) : tiesT (ts.map pr) (curW ts) = ts := by
  unfold tiesT
  rw [List.map_map]
  have : ts.map ((fun q : Nat × Nat => (q.1, q.2, curW ts q)) ∘ pr) = ts.map id := List.map_congr_left fun t ht => by
    show (t.1, t.2.1, curW ts (pr t)) = t
    rw [curW_at nd t ht]
  rw [this, List.map_id]
theorem wsum_pos {f : Nat × Nat → Int} (dd : Nat → Nat → Bool) : ∀ {M : List (Nat × Nat)}, (∀ u ∈ M, 0 ≤ f u) → wsum (tiesT (M.filter fun u => decide (0 < f u)) f) dd = wsum (tiesT M f) dd
  | [], _ => rfl
  | u :: M, h => by
    have ih := wsum_pos dd (M := M) fun v hv => h v (List.mem_cons_of_mem _ hv)
    have h0 := h u (List.mem_cons_self ..)
    rw [List.filter_cons]
    show _ = (if dd u.1 u.2 = true then f u else 0) + wsum (tiesT M f) dd
    by_cases e : 0 < f u
    · rw [if_pos (decide_eq_true e)]
      show (if dd u.1 u.2 = true then f u else 0) + wsum (tiesT (M.filter fun u => decide (0 < f u)) f) dd = _
      rw [ih]
    · rw [if_neg (by simp [e]), ih]
      have : f u = 0 := by omega
      rw [this]
      split <;> omega
theorem good_len {n : Nat} {ts : List Tie} (g : GoodTs n ts) : ts.length ≤ n * n := by
  have h := nodup_length_le g.2 (b := (List.range n).flatMap fun a => (List.range n).map fun b => (a, b)) fun q hq => by
    obtain ⟨t, ht, rfl⟩ := List.mem_map.mp hq
    have := g.1 t ht
    exact List.mem_flatMap.mpr ⟨t.1, List.mem_range.mpr (by omega), List.mem_map.mpr ⟨t.2.1, List.mem_range.mpr (by omega), rfl⟩⟩
  rw [List.length_map, List.length_flatMap] at h
  have e : ((List.range n).map fun a => ((List.range n).map fun b => (a, b)).length) = (List.range n).map fun _ => n := List.map_congr_left fun a _ => by rw [List.length_map, List.length_range]
  rw [e, List.map_const', List.sum_replicate_nat, List.length_range] at h
  exact h
theorem rg_ok {n : Nat} (h : n ≤ 1000) : RgOk 0 (n : Int) := RgOk.of_le (by decide) (by omega) (by decide) (by omega)
theorem rg_val (n : Nat) : rgV 0 (n : Int) = (List.range n).map nv := by
  unfold rgV
  have : ((n : Int) - 0).toNat = n := by omega
  rw [this]
  refine List.map_congr_left fun i _ => ?_
  show V.int (0 + (i : Int)) = V.int (i : Int)
  rw [Int.zero_add]
theorem seqIx {n r : Nat} (h : r < n) : seqIndex? (r : Int) n = some r := (ixN_seq (ixN_at h)).1
theorem map_erase {l : List Nat} {r : Nat} : (l.map nv).eraseIdx r = (l.eraseIdx r).map nv := by
  induction l generalizing r with
  | nil => rfl
  | cons x l ih =>
    cases r with
    | zero => rfl
    | succ r => show nv x :: (l.map nv).eraseIdx r = nv x :: (l.eraseIdx r).map nv; rw [ih]
theorem perm_erase {l : List Nat} {r : Nat} (h : r < l.length) : ([l[r]] ++ l.eraseIdx r).Perm l := by
  induction l generalizing r with
  | nil => simp at h
  | cons x l ih =>
    cases r with
    | zero => exact List.Perm.refl _
    | succ r =>
      have h' : r < l.length := by simpa using h
      have := ih h'
      show (l[r] :: x :: l.eraseIdx r).Perm (x :: l)
      exact (List.Perm.swap _ _ _).trans (List.Perm.cons x this)
theorem keyP_nd {M : List (Nat × Nat)} (h : M.Nodup) : (M.map keyP).Nodup := by
  rw [List.nodup_iff_pairwise_ne, List.pairwise_map]
  exact (List.nodup_iff_pairwise_ne.mp h).imp fun {a b} hne e => hne (keyP_inj e)
section
variable {P : Program} {w : World} {K : PySem.W.Frag} {mg : Str → Option Value} {base : Heap}
def spLawPosts (K : PySem.W.Frag) : Sp := fun vs H Q _ => ∃ v m k, vs = [v, m, k] ∧ ∃ (a : Addr) (c n : Nat), v = .ref a ∧ BoxAt H a c ∧ c ≤ 800000 ∧ m = nv n ∧ k = .int 4 ∧ 1 ≤ n ∧ n ≤ 7 ∧
  ∀ posts : List Nat, posts.Nodup → 1 ≤ posts.length → (∀ p ∈ posts, p < n) → ∀ r H', Same (del H a) H' → Is (fun x => x ≠ a) H' r (natsD posts) → BoxAt H' a (c + 100) → Q r H'
-- _law_posts: 0=_law_box_here 1=_law_many 2=_law_most 3=_law_some 4=_law_found 5=_law_turn
theorem sc_law_posts : FnScope ["_law_box_here", "_law_many", "_law_most", "_law_some", "_law_found", "_law_turn"] ["_law_box_here", "_law_many", "_law_most"] (defScope sLawPosts) := ⟨rfl, rfl, rfl, by decide +kernel, rfl, by decide +kernel, by decide +kernel⟩
theorem ok_law_posts (T : Tx K mg) : DefOk P w K mg base "_law_posts" 2 ["_law_box_here", "_law_many", "_law_most"] (spLawPosts K) := by
  have O_law_take := ok_law_take (P := P) (w := w) (base := base) T
  refine DefOk.mk' T.g__law_posts (fn_ok T.d__law_posts sc_law_posts (fun _ _ _ _ _ _ us hl => match us, hl with | [_, _, _], _ => rfl) (fun vs H Q E h => ?_) (fun cdv A outer s H vs Q E hr h => ?_))
  · obtain ⟨_, _, _, rfl, _⟩ := h
    rfl
  have hu := hu_of hr
  obtain ⟨v0, v1, v2, rfl, h⟩ := h
  refine ⟨_, (pss_cons (ps_set (i := 3) sc_law_posts.nd rfl (.inr rfl) (pe_listRg rfl (by rfl) T.f_list (prg_1 (by rfl) T.f_range (pv 1))))
     (pss_cons (ps_setLc (i := 4) (own := [("_law_turn", 5)]) (g := (gName 5)) (tt := tYes) (te := (tBM K "list" rPopAt (tVar 3) (tCons (tCall (spLawTake K) [] E0 (tCons (tVar 0) (tCons (tCB (qLen K) (tCons (tVar 3) tNil)) tNil))) tNil))) rfl sc_law_posts.nd rfl rfl (sw_true rfl rfl rfl (by decide +kernel)) (pi_range1 rfl T.f_range (pa_cons (pe_callB (call_min2 rfl) (by rfl) T.f_min (by decide +kernel) (pa_cons (pv 1) (pa_cons (pe_op op_add pe_int (pcall O_law_take (hr.mono (by decide)) (by rfl) (pa_cons (pv 0) (pa_cons (pe_op op_sub (pv 2) pe_int) pa_nil)))) pa_nil))) pa_nil)) (blkOk_by (N := ["_law_box_here", "_law_many", "_law_most", "_law_some", "_law_found", "_law_turn"]) (sc := defScope sLawPosts) (by decide +kernel)) (fun _ _ _ _ _ => (pg_name (i := 5) sc_law_posts.nd rfl (.inl rfl) (.inr rfl))) (fun _ _ _ _ _ => pts_nil) (fun _ _ _ _ _ => (pe_bm PySem.F.plainAttrs_list PySem.F.slot_list_pop PySem.F.type_list_pop mt_popAt (pv 3) (pa_cons (pcall O_law_take (hr.mono (by decide)) (by rfl) (pa_cons (pv 0) (pa_cons (pe_callB call_len_seq (by rfl) T.f_len (by decide +kernel) (pa_cons (pv 3) pa_nil)) pa_nil))) pa_nil))))
     (pss_one (ps_ret (pe_callB cr_sortedI (by rfl) T.f_sorted (by decide +kernel) (pa_cons (pv 4) pa_nil)))))), ?_⟩
  obtain ⟨a, c, n, rfl, hbox, hc, rfl, rfl, hn1, hn7, q⟩ := h
  obtain ⟨oa, hoa⟩ := hbox.some
  refine ⟨_, rfl, _, rfl, rg_ok (by omega), fun so hso => ?_⟩
  rw [rg_val]
  have soa : so ≠ a := hbox.ne hso
  have ss := same_upd (o := .lst ((List.range n).map nv)) hso
  have hso1 : upd H so (.lst ((List.range n).map nv)) so = some (.lst ((List.range n).map nv)) := upd_same
  have hbx := hbox.same ss
  have sH : Same (del H a) (upd H so (.lst ((List.range n).map nv))) := del_same.trans ss
  have so0 : del H a so = none := by rw [del_ne soa]; exact hso
  generalize upd H so (.lst ((List.range n).map nv)) = H1 at *
  refine ⟨_, rfl, _, rfl, _, rfl, _, _, rfl, rfl, _, _, rfl, a, c, 3, rfl, hbx, by omega, rfl, by decide, by decide, fun r hr H2 s2 hb2 => ⟨_, _, rfl, rfl, _, _, rfl, ?_⟩⟩
  have hmn : ∃ m : Nat, (if (2 : Int) + (r : Int) < (n : Int) then (2 : Int) + (r : Int) else (n : Int)) = (m : Int) ∧ 1 ≤ m ∧ m ≤ n := by
    split
    · exact ⟨2 + r, by omega, by omega, by omega⟩
    · exact ⟨n, rfl, hn1, Nat.le_refl _⟩
  obtain ⟨m, em, hm1, hm2⟩ := hmn
  rw [em]
  have hso2 : H2 so = some (.lst ((List.range n).map nv)) := s2 _ _ (del_get hso1 soa)
  have sH2 : Same (del H a) H2 := same_box sH s2
  refine ⟨_, rfl, by omega, by omega, fun D hD => ?_⟩
  rw [Int.toNat_natCast]
  have Dso : D ≠ so := fun e => by rw [e, hso2] at hD; cases hD
  have Da : D ≠ a := hb2.ne hD
  have D0 : del H a D = none := sH2.free hD
  refine lc_it walk_range (fun i H3 => ∃ (acc rest : List Nat), H3 D = some (.lst (acc.map nv)) ∧ H3 so = some (.lst (rest.map nv)) ∧ BoxAt H3 a (c + 1 + i) ∧ acc.length = i ∧ (acc ++ rest).Perm (List.range n) ∧ Same (del H a) H3)
    ⟨[], List.range n, upd_same, by rw [upd_ne (Ne.symm Dso)]; exact hso2, hb2.same (same_upd hD), rfl, List.Perm.refl _, sH2.trans (same_upd hD)⟩ (fun _ _ _ _ => trivial) ?_ ?_
  · rintro i z H3 _ hi ⟨acc, rest, h1, h2, hb3, hl, hp, s3⟩ ⟨rfl, rfl⟩
    have hlen := hp.length_eq
    rw [List.length_append, List.length_range] at hlen
    refine ⟨rfl, _, rfl, list_ty h2, _, rfl, _, rfl, so, _, rfl, .inl (SqL.of h2), ?_⟩
    refine ⟨_, _, rfl, a, _, rest.length, rfl, hb3, by omega, by rw [List.length_map], by omega, by omega, fun r hr H4 s4 hb4 => ?_⟩
    have hr4 : (rest.map nv)[r]? = some (nv rest[r]) := by rw [List.getElem?_map, List.getElem?_eq_getElem hr]; rfl
    have h24 := s4 _ _ (del_get h2 soa)
    have h14 := s4 _ _ (del_get h1 Da)
    have s34 := same_box s3 s4
    refine ⟨so, _, _, r, _, rfl, rfl, h24, by omega, by omega, seqIx (by rw [List.length_map]; exact hr), hr4, ?_⟩
    have bx : ∀ (o1 o2 : HO), BoxAt (upd (upd H4 so o1) D o2) a (c + 1 + (i + 1)) := fun o1 o2 => by
      obtain ⟨b0, b1, c0, e, r⟩ := hb4
      exact ⟨b0, b1, c0, by rw [upd_ne (Ne.symm Da), upd_ne (Ne.symm soa)]; exact e, r⟩
    refine ⟨acc.map nv, by rw [upd_ne Dso]; exact h14, smallLt (by rw [List.length_map]; omega), acc ++ [rest[r]], rest.eraseIdx r, by rw [upd_same, List.map_append]; rfl, by rw [upd_ne (Ne.symm Dso), upd_same, map_erase], bx _ _, by rw [List.length_append, hl]; rfl, ?_, (s34.mut so0).mut D0⟩
    refine List.Perm.trans ?_ hp
    rw [List.append_assoc]
    exact List.Perm.append_left _ (perm_erase hr)
  · rintro H3 ⟨acc, rest, h1, h2, hb3, hl, hp, s3⟩
    have ndA : acc.Nodup := by
      have := hp.nodup_iff.mpr List.nodup_range
      rw [List.nodup_append] at this
      exact this.1
    refine ⟨_, rfl, D, acc.map fun v : Nat => (v : Int), rfl, SqL.of (by rw [nv_int]; exact h1), fun ns' p h5 h6 hp2 => ?_⟩
    obtain ⟨L, rfl, h7, h8⟩ := sortN h5 h6 ndA
    rw [nv_int]
    refine q L (h7.nodup_iff.mpr ndA) (by have := h7.length_eq; omega) (fun v hv => ?_) _ _ (s3.trans (same_upd hp2)) (is_nats' (hb3.ne hp2) upd_same) ((hb3.mono (by omega)).same (same_upd hp2))
    have : v ∈ List.range n := hp.mem_iff.mp (List.mem_append_left _ (h7.mem_iff.mp hv))
    exact List.mem_range.mp this
def spLawLeast (K : PySem.W.Frag) : Sp := fun vs H Q _ => ∃ v c, vs = [v, c] ∧ ∃ (W : Web) (posts : List Nat), Is Any H v (webD W) ∧ WOk W ∧ Is Any H c (natsD posts) ∧ POk W posts ∧ GivesI (leastW W posts) H Q
-- _law_least: 0=_law_web_here 1=_law_posts_here
theorem sc_law_least : FnScope ["_law_web_here", "_law_posts_here"] ["_law_web_here", "_law_posts_here"] (defScope sLawLeast) := ⟨rfl, rfl, rfl, by decide +kernel, rfl, by decide +kernel, by decide +kernel⟩
theorem ok_law_least (T : Tx K mg) : DefOk P w K mg base "_law_least" 59 ["_law_web_here", "_law_posts_here"] (spLawLeast K) := by
  have O_least_parting := ok_least_parting (P := P) (w := w) (base := base) T
  refine DefOk.mk' T.g__law_least (fn_ok T.d__law_least sc_law_least (fun _ _ _ _ _ _ us hl => match us, hl with | [_, _], _ => rfl) (fun vs H Q E h => ?_) (fun cdv A outer s H vs Q E hr h => ?_))
  · obtain ⟨_, _, rfl, _⟩ := h
    rfl
  have hu := hu_of hr
  obtain ⟨v0, v1, rfl, h⟩ := h
  refine ⟨_, (pss_one (ps_ret (pe_ix ix_tup (pcall O_least_parting (hr.mono (by decide)) (by rfl) (pa_cons (pv 0) (pa_cons (pv 1) pa_nil))) pe_int (fun _ _ => rfl)))), ?_⟩
  obtain ⟨W, posts, hw, ok, hp, pok, q⟩ := h
  obtain ⟨r0, hr0⟩ : ∃ r, r ∈ leastR W posts := by
    cases e : leastR W posts with
    | nil => exact absurd e (leastR_ne ok pok)
    | cons r l => exact ⟨r, List.mem_cons_self ..⟩
  refine ⟨_, rfl, _, rfl, _, _, rfl, W, posts, hw, ok, hp, pok, fun r hr p cb t H1 s1 h1 hcb => ?_⟩
  exact ⟨p, _, 0, .int (leastW W posts), rfl, rfl, SqT.of h1, rfl, q H1 s1⟩
def spLawWeighed (K : PySem.W.Frag) : Sp := fun vs H Q _ => ∃ v x y m, vs = [v, x, y, m] ∧ ∃ (W : Web) (a b : Nat) (mo : Int), Is Any H v (webD W) ∧ WOk W ∧ x = nv a ∧ y = nv b ∧ m = .int mo ∧ a < b ∧ b < W.n ∧ 0 ≤ curW W.ts (a, b) + mo ∧
  ∀ W' : Web, W'.n = W.n → WOk W' → (∀ dd : Nat → Nat → Bool, wsum W'.ts dd = wsum W.ts dd + if dd a b = true then min 1000000000 (curW W.ts (a, b) + mo) - curW W.ts (a, b) else 0) → Gives (webD W') H Q
-- _law_weighed: 0=_law_web_here 1=_law_a 2=_law_b 3=_law_more_here 4=_law_ties 5=_law_tie 6=_law_pair
theorem sc_law_weighed : FnScope ["_law_web_here", "_law_a", "_law_b", "_law_more_here", "_law_ties", "_law_tie", "_law_pair"] ["_law_web_here", "_law_a", "_law_b", "_law_more_here"] (defScope sLawWeighed) := ⟨rfl, rfl, rfl, by decide +kernel, rfl, by decide +kernel, by decide +kernel⟩
theorem ok_law_weighed (T : Tx K mg) : DefOk P w K mg base "_law_weighed" 1 ["_law_web_here", "_law_a", "_law_b", "_law_more_here"] (spLawWeighed K) := by
  refine DefOk.mk' T.g__law_weighed (fn_ok T.d__law_weighed sc_law_weighed (fun _ _ _ _ _ _ us hl => match us, hl with | [_, _, _, _], _ => rfl) (fun vs H Q E h => ?_) (fun cdv A outer s H vs Q E hr h => ?_))
  · obtain ⟨_, _, _, _, rfl, _⟩ := h
    rfl
  have hu := hu_of hr
  obtain ⟨v0, v1, v2, v3, rfl, h⟩ := h
  refine ⟨_, (pss_cons (ps_set (i := 4) sc_law_weighed.nd rfl (.inr rfl) (pe_callTy (call_dictPT rfl hr.units) (by rfl) T.f_dict (by decide +kernel) (pa_cons (pe_lc (own := [("_law_tie", 5)]) (g := (gName 5)) (tt := tYes) (te := (tTup (tCons (tSl (rSlT K) (tVar 5) tNoPart (tPart (tC (.int 2)))) (tCons (tOp (rIxT K) (tVar 5) (tC (.int 2))) tNil)))) rfl sc_law_weighed.nd (pi_tup (pe_ix ix_tup (pv 0) pe_int (fun _ _ => rfl))) (blkOk_by (N := ["_law_web_here", "_law_a", "_law_b", "_law_more_here", "_law_ties", "_law_tie", "_law_pair"]) (sc := defScope sLawWeighed) (by decide +kernel)) (fun _ _ _ _ _ => (pg_name (i := 5) sc_law_weighed.nd rfl (.inl rfl) (.inr rfl))) (fun _ _ _ _ _ => pts_nil) (fun _ _ _ _ _ => (pe_tup (pa_cons (pe_slice sl_tup (pv 5) po_none (po_some pe_int)) (pa_cons (pe_ix ix_tup (pv 5) pe_int (fun _ _ => rfl)) pa_nil))))) pa_nil)))
     (pss_cons (ps_dput hu (pv 4) (pe_tup (pa_cons (pv 1) (pa_cons (pv 2) pa_nil))) (pe_callB (call_min2 rfl) (by rfl) T.f_min (by decide +kernel) (pa_cons (pe_op op_pow pe_int pe_int) (pa_cons (pe_op op_add (pe_dget2 hu (pv 4) (pe_tup (pa_cons (pv 1) (pa_cons (pv 2) pa_nil))) pe_int ⟨rfl, rfl, rfl, rfl⟩) (pv 3)) pa_nil))) rfl)
     (pss_one (ps_ret (pe_tup (pa_cons (pe_ix ix_tup (pv 0) pe_int (fun _ _ => rfl)) (pa_cons (pe_callTy call_tuple_of (by rfl) T.f_tuple (by decide +kernel) (pa_cons (pe_lc (own := [("_law_pair", 6)]) (g := (gName 6)) (tt := (tTest (tOp qGt (tDGet (tVar 4) (tVar 6)) (tC (.int 0))))) (te := (tOp (rCatA K) (tVar 6) (tTup (tCons (tDGet (tVar 4) (tVar 6)) tNil)))) rfl sc_law_weighed.nd (pi_list (pe_callB (cr_sortDT rfl hr.units) (by rfl) T.f_sorted (by decide +kernel) (pa_cons (pv 4) pa_nil))) (blkOk_by (N := ["_law_web_here", "_law_a", "_law_b", "_law_more_here", "_law_ties", "_law_tie", "_law_pair"]) (sc := defScope sLawWeighed) (by decide +kernel)) (fun _ _ _ _ _ => (pg_name (i := 6) sc_law_weighed.nd rfl (.inl rfl) (.inr rfl))) (fun _ _ _ _ _ => (pts_one (pt_cmpR op_gt (pe_dget hu (pv 4) (pv 6) (fun _ _ => rfl)) pe_int (nomark _)))) (fun _ _ _ _ _ => (pe_op op_catA (pv 6) (pe_tup (pa_cons (pe_dget hu (pv 4) (pv 6) (fun _ _ => rfl)) pa_nil))))) pa_nil)) pa_nil))))))), ?_⟩
  obtain ⟨W, a, b, mo, hw, ok, rfl, rfl, rfl, hab, hbn, hcur, q⟩ := h
  have n1 := ok.n1
  have ts1 := ok.len
  have nd := ok.good.2
  obtain ⟨pw, pq, xs, rfl, hw1, hw2, hx⟩ := is_web hw
  refine ⟨_, rfl, pw, _, 1, .ref pq, rfl, rfl, SqT.of hw1, rfl, pq, rfl, ⟨_, SqT.of hw2⟩, fun D hD => ?_⟩
  refine lc_T W.ts tieD (fun t => some (.tuple [pairD (pr t), .int t.2.2])) hw2 hx hD (by omega) ?_ ?_
  · intro z y H1 _ s1 hy Kont Skip k1 k2
    obtain ⟨c, rfl, hc⟩ := is_tie hy
    refine ⟨rfl, _, rfl, 2, rfl, c, _, rfl, SqT.of hc, cut2n, fun p hp => ?_⟩
    have sp := same_upd (o := .tup (cutV [nv y.1, nv y.2.1, .int y.2.2] none (some 2))) hp
    refine ⟨_, rfl, c, _, 2, .int y.2.2, rfl, rfl, SqT.of (sp _ _ hc), rfl, sz2, fun p2 hp2 => ?_⟩
    exact k1 _ _ _ (sp.trans (same_upd hp2)) rfl (.tup upd_same (.cons (is_pair' (p := pr y) ((same_upd hp2) _ _ upd_same)) (.cons (.int _) .nil)))
  intro H1 s1 h1
  rw [filterMap_some] at h1
  obtain ⟨D', ys, e, _, hys, hyy⟩ := is_list h1
  cases e
  obtain ⟨ps, e1, e2⟩ := pairsT_is pr (fun t => .int t.2.2) (fun t => .int t.2.2) (fun _ x h => by cases h; rfl) hyy
  subst e1
  refine ⟨D, ps, _, rfl, hys, e2, fun wd hwd => ?_⟩
  have em : mergeT [] (W.ts.map fun t => (keyP (pr t), V.int t.2.2)) = mapT (W.ts.map pr) (curW W.ts) := by
    rw [mergeT_nd, List.nil_append, mapT_ties nd]
    rw [List.nil_append, List.map_map]
    have : (W.ts.map (Prod.fst ∘ fun t : Tie => (keyP (pr t), V.int t.2.2))) = (W.ts.map pr).map keyP := by rw [List.map_map]; rfl
    rw [this]
    exact keyP_nd nd
  rw [em]
  have s2 := s1.trans (same_upd (o := .dT (mapT (W.ts.map pr) (curW W.ts))) hwd)
  have hM : upd H1 wd (.dT (mapT (W.ts.map pr) (curW W.ts))) wd = some (.dT (mapT (W.ts.map pr) (curW W.ts))) := upd_same
  have wd0 : H wd = none := s1.free hwd
  generalize upd H1 wd (.dT (mapT (W.ts.map pr) (curW W.ts))) = H2 at *
  refine ⟨_, _, rfl, rfl, ⟨by decide, by decide, by decide⟩, _, rfl, wd, rfl, .inr ⟨_, .inl hM⟩, _, rfl, _, rfl, sz2, fun p hp => ?_⟩
  have sp := same_upd (o := .tup [nv a, nv b]) hp
  have hp3 : upd H2 p (.tup [nv a, nv b]) p = some (.tup ((keyP (a, b)).map kV)) := upd_same
  have hM3 := sp _ _ hM
  have s3 := s2.trans sp
  generalize upd H2 p (.tup [nv a, nv b]) = H3 at *
  refine ⟨_, DGet.t hM3 hp3, _, rfl, ?_⟩
  rw [mapT_val]
  have ecur : (if (a, b) ∈ W.ts.map pr then some (V.int (curW W.ts (a, b))) else none).getD (.int 0) = .int (curW W.ts (a, b)) := by
    by_cases h : (a, b) ∈ W.ts.map pr
    · rw [if_pos h]; rfl
    · rw [if_neg h, curW_not h]; rfl
  rw [ecur]
  refine ⟨_, _, rfl, rfl, _, _, rfl, ?_⟩
  have emin : (if curW W.ts (a, b) + mo < (10 : Int) ^ (9 : Int).toNat then curW W.ts (a, b) + mo else (10 : Int) ^ (9 : Int).toNat) = min 1000000000 (curW W.ts (a, b) + mo) := by
    have : (10 : Int) ^ (9 : Int).toNat = 1000000000 := by decide
    rw [this]
    split <;> omega
  rw [emin]
  have hnew : 0 ≤ min 1000000000 (curW W.ts (a, b) + mo) := by omega
  generalize hnw : min 1000000000 (curW W.ts (a, b) + mo) = nw at *
  refine ⟨_, rfl, _, rfl, _, rfl, sz2, fun p2 hp2 => ?_⟩
  have sp2 := same_upd (o := .tup [nv a, nv b]) hp2
  have hp4 : upd H3 p2 (.tup [nv a, nv b]) p2 = some (.tup ((keyP (a, b)).map kV)) := upd_same
  have hM4 := sp2 _ _ hM3
  have s4 := s3.trans sp2
  generalize upd H3 p2 (.tup [nv a, nv b]) = H4 at *
  refine ⟨wd, _, rfl, DPut.t hM4 hp4 (smallLt (by rw [mapT_len, List.length_map]; omega)), ?_⟩
  obtain ⟨M, f, ef, ndM, lM, gM, sM⟩ : ∃ M f, putK (mapT (W.ts.map pr) (curW W.ts)) (keyP (a, b)) (.int nw) = mapT M f ∧ M.Nodup ∧ M.length ≤ W.ts.length + 1 ∧ (∀ u ∈ M, u.1 < u.2 ∧ u.2 < W.n ∧ 0 ≤ f u) ∧ ∀ dd : Nat → Nat → Bool, wsum (tiesT M f) dd = wsum W.ts dd + if dd a b = true then nw - curW W.ts (a, b) else 0 := by
    have gs : ∀ u ∈ W.ts.map pr, u.1 < u.2 ∧ u.2 < W.n ∧ 0 ≤ curW W.ts u := fun u hu => by
      obtain ⟨t, ht, rfl⟩ := List.mem_map.mp hu
      have := ok.good.1 t ht
      rw [curW_at nd t ht]
      exact ⟨this.1, this.2.1, by omega⟩
    by_cases h : (a, b) ∈ W.ts.map pr
    · refine ⟨_, _, mapT_old _ h, nd, by rw [List.length_map]; omega, fun u hu => ?_, fun dd => ?_⟩
      · have := gs u hu
        show u.1 < u.2 ∧ u.2 < W.n ∧ 0 ≤ if u = (a, b) then nw else curW W.ts u
        split
        · exact ⟨this.1, this.2.1, hnew⟩
        · exact this
      · have e5 := wsum_old (f := curW W.ts) (nw - curW W.ts (a, b)) nd h dd
        have e6 : curW W.ts (a, b) + (nw - curW W.ts (a, b)) = nw := by omega
        rw [e6, tiesT_ties nd] at e5
        exact e5
    · refine ⟨_, _, mapT_new _ h, nd_snoc nd h, by rw [List.length_append, List.length_map]; exact Nat.le_refl _, fun u hu => ?_, fun dd => ?_⟩
      · show u.1 < u.2 ∧ u.2 < W.n ∧ 0 ≤ if u = (a, b) then nw else curW W.ts u
        by_cases e : u = (a, b)
        · rw [if_pos e, e]
          exact ⟨hab, hbn, hnew⟩
        · rw [if_neg e]
          exact gs u ((List.mem_append.mp hu).resolve_right fun z => e (List.mem_singleton.mp z))
      · have e5 := wsum_new (f := curW W.ts) nw h dd
        rw [tiesT_ties nd] at e5
        rw [curW_not h, Int.sub_zero]
        exact e5
  rw [ef]
  have s5 := s4.mut (o := .dT (mapT M f)) wd0
  have hM5 : upd H4 wd (.dT (mapT M f)) wd = some (.dT (mapT M f)) := upd_same
  generalize upd H4 wd (.dT (mapT M f)) = H5 at *
  refine ⟨_, rfl, pw, _, 0, nv W.n, rfl, rfl, SqT.of (s5 _ _ hw1), rfl, ?_⟩
  refine ⟨_, rfl, wd, _, M, rfl, hM5, mapT_keys M f, fun zs l hz hz2 hl => ?_⟩
  have zl : zs.length ≤ 201 := by
    have := hz.length_eq
    rw [List.length_map] at this
    omega
  have sl := same_upd (o := .lst (zs.map fun z => V.ref z.1)) hl
  refine ⟨l, rfl, ⟨_, SqL.of upd_same⟩, fun D2 hD2 => ?_⟩
  refine lc_L zs (fun z => pairD z.2) (fun z => if decide (0 < f z.2) = true then some (tieD (z.2.1, z.2.2, f z.2)) else none) upd_same (pairs_all sl zs hz2) hD2 (by omega) ?_ ?_
  · intro x y H6 hy0 s6 hy Kont Skip k1 k2
    obtain ⟨c, rfl, hc'⟩ := is_pair hy
    have hyM : y.2 ∈ M := hz.mem_iff.mp (List.mem_map.mpr ⟨y, hy0, rfl⟩)
    have hM6 := s6 _ _ (sl _ _ hM5)
    have hg : DGet H6 wd (.ref c) (some (.int (f y.2))) := by
      have := DGet.t hM6 (k := keyP y.2) hc'
      rw [mapT_val, if_pos hyM] at this
      exact this
    refine ⟨rfl, _, rfl, _, rfl, wd, _, rfl, hg, _, _, rfl, rfl, _, rfl, ?_⟩
    refine ifB (fun e => ?_) fun e => k2 _ (Same.refl _) (if_neg (by rw [e]; exact Bool.false_ne_true))
    refine ⟨_, rfl, _, rfl, _, rfl, wd, _, rfl, hg, sz1, fun p hp => ?_⟩
    have sp := same_upd (o := .tup [.int (f y.2)]) hp
    refine ⟨c, p, _, _, rfl, rfl, SqT.of (sp _ _ hc'), SqT.of upd_same, small (by simp), fun e => by (cases e), fun _ e => by (cases e), fun _ _ p2 hp2 => ?_⟩
    exact k1 _ _ _ (sp.trans (same_upd hp2)) (if_pos e) (is_tie' (t := (y.2.1, y.2.2, f y.2)) upd_same)
  · intro H6 s6 h6
    rw [filterMap_if, ties_ez] at h6
    have ez : (zs.filter fun z => decide (0 < f z.2)).map Prod.snd = (zs.map Prod.snd).filter fun u => decide (0 < f u) := by rw [List.filter_map]; rfl
    rw [ez] at h6
    obtain ⟨D', ys, e, _, hD', hy⟩ := is_list h6
    cases e
    refine ⟨D2, ys, rfl, .inl ⟨SqL.of hD', fun l2 hl2 => ⟨sz2, fun p' hp' => ?_⟩⟩⟩
    have s7 := (same_upd (o := .tup ys) hl2).trans (same_upd (o := .tup [nv W.n, .ref l2]) hp')
    have ndz : ((zs.map Prod.snd).filter fun u => decide (0 < f u)).Nodup := (hz.nodup_iff.mpr ndM).filter _
    have mz : ∀ u ∈ (zs.map Prod.snd).filter (fun u => decide (0 < f u)), u ∈ M ∧ 0 < f u := fun u hu => by
      rw [List.mem_filter] at hu
      exact ⟨hz.mem_iff.mp hu.1, of_decide_eq_true hu.2⟩
    have gt : GoodTs W.n (tiesT ((zs.map Prod.snd).filter fun u => decide (0 < f u)) f) := tiesT_good ndz fun u hu => by
      obtain ⟨h1, h2⟩ := mz u hu
      have := gM u h1
      exact ⟨this.1, this.2.1, by omega⟩
    refine q ⟨W.n, tiesT ((zs.map Prod.snd).filter fun u => decide (0 < f u)) f⟩ rfl ⟨gt, ok.n0, ok.n1, ?_⟩ (fun dd => ?_) _ _ (((s5.trans sl).trans s6).trans s7) (is_web' upd_same (same_upd hp' _ _ upd_same) (((hy.back (s5.trans sl)).same (same_upd hl2)).same (same_upd hp')))
    · have h1 := good_len gt
      have h2 : W.n * W.n ≤ 7 * 7 := Nat.mul_le_mul n1 n1
      show (tiesT ((zs.map Prod.snd).filter fun u => decide (0 < f u)) f).length ≤ 200
      omega
    · show wsum (tiesT ((zs.map Prod.snd).filter fun u => decide (0 < f u)) f) dd = _
      rw [wsum_pos dd (fun u hu => (gM u (hz.mem_iff.mp hu)).2.2), ← sM]
      refine wsum_perm ?_ dd
      unfold tiesT
      exact hz.map _
end
end PW
set_option Elab.async false
set_option linter.all false
set_option maxRecDepth 100000
set_option maxHeartbeats 4000000
namespace PW
open PySem PySem.Spec PyProof.Rows L2
theorem canAll {ds : List PyData} (h : ∀ d ∈ ds, d.canLay0 = true) : PyData.canLayAll0 ds = true := by
  induction ds with
  | nil => rfl
  | cons d ds ih =>
    show (d.canLay0 && PyData.canLayAll0 ds) = true
    rw [h d (List.mem_cons_self ..), ih fun e he => h e (List.mem_cons_of_mem _ he)]
    rfl
theorem depAll {ds : List PyData} {n : Nat} (h : ∀ d ∈ ds, d.depth ≤ n) : PyData.depthAll ds ≤ n := by
  induction ds with
  | nil => exact Nat.zero_le _
  | cons d ds ih =>
    show max d.depth (PyData.depthAll ds) ≤ n
    have := h d (List.mem_cons_self ..)
    have := ih fun e he => h e (List.mem_cons_of_mem _ he)
    omega
theorem shaped_list {ds : List PyData} (h : ∀ d ∈ ds, d.canLay0 = true ∧ d.depth ≤ 5) : SeqAt.shaped (.list ds) = true := by
  unfold SeqAt.shaped
  have h1 : (PyData.list ds).canLay0 = true := canAll fun d hd => (h d hd).1
  have h2 : (PyData.list ds).depth ≤ 64 := by
    show PyData.depthAll ds + 1 ≤ 64
    have := depAll (n := 5) fun d hd => (h d hd).2
    omega
  rw [h1, decide_eq_true h2]
  rfl
theorem shaped_ints (ns : List Int) : SeqAt.shaped (.list (ns.map PyData.int)) = true := shaped_list fun d hd => by
  obtain ⟨_, _, rfl⟩ := List.mem_map.mp hd
  exact ⟨rfl, by show 0 ≤ 5; omega⟩
theorem shaped_pairs (ps : List (Nat × Nat)) : SeqAt.shaped (.list (ps.map pairD)) = true := shaped_list fun d hd => by
  obtain ⟨p, _, rfl⟩ := List.mem_map.mp hd
  exact ⟨rfl, by show max 0 (max 0 0) + 1 ≤ 5; omega⟩
theorem shaped_eqv {d : PyData} (h : SeqAt.shaped d = true) : PyData.eqv d d = true := SeqAt.eqv_refl d (SeqAt.canLay_of_shaped h)
theorem int_sorted {a b : List Int} (p : a.Perm b) (ha : a.Pairwise (· ≤ ·)) (hb : b.Pairwise (· ≤ ·)) : a = b := p.eq_of_pairwise (fun x y _ _ h1 h2 => Int.le_antisymm h1 h2) ha hb
theorem eq_ints (i j : Int) : decide (V.int i = V.int j) = decide (i = j) := by
  rw [decide_eq_decide]
  exact ⟨V.int.inj, congrArg V.int⟩
/-- names that are the places in another order -/
theorem turn_of {W W' : Web} {posts L nm : List Nat} (ok : WOk W) (p : POk W posts) (hnm : nm.Perm (List.range W.n)) (hL : L.Perm (posts.map (fnL nm))) (h1 : W'.n ∈ nm.map (· + 1)) (h2 : ∀ x ∈ nm, x < W'.n) (h3 : GoodTs W'.n W'.ts) (h4 : W'.ts.length ≤ W.ts.length)
    (h5 : ∀ dd, wsum W'.ts dd = wsum W.ts fun a b => fnL nm a != fnL nm b && dd (lo2 (fnL nm) a b) (hi2 (fnL nm) a b)) : Turn W posts W' L (fnL nm) (fun v => nm.idxOf v) := by
  have nd : nm.Nodup := hnm.nodup_iff.mpr List.nodup_range
  have hl : nm.length = W.n := by have := hnm.length_eq; rw [List.length_range] at this; exact this
  have hmem : ∀ v, v ∈ nm ↔ v < W.n := fun v => by rw [hnm.mem_iff, List.mem_range]
  have n0 := ok.n0
  have hn : W'.n = W.n := by
    obtain ⟨x, hx, e⟩ := List.mem_map.mp h1
    have e : x + 1 = W'.n := e
    have := (hmem x).mp hx
    have := h2 (W.n - 1) ((hmem _).mpr (by omega))
    omega
  have ls : ∀ v, v < W.n → fnL nm v < W.n := fun v hv => (hmem _).mp (getD_mem (by omega))
  have lt : ∀ v, v < W.n → nm.idxOf v < W.n := fun v hv => by rw [← hl]; exact List.idxOf_lt_length_of_mem ((hmem v).mpr hv)
  have ts : ∀ v, v < W.n → nm.idxOf (fnL nm v) = v := fun v hv => by
    have e : fnL nm v = nm[v] := by
      unfold fnL
      rw [List.getD_eq_getElem?_getD, List.getElem?_eq_getElem (by omega)]
      rfl
    rw [e, nd.idxOf_getElem]
  have st : ∀ v, v < W.n → fnL nm (nm.idxOf v) = v := fun v hv => by
    unfold fnL
    rw [List.getD_eq_getElem?_getD, get_idx ((hmem v).mpr hv)]
    rfl
  refine ⟨ok, ⟨h3, by omega, by have := ok.n1; omega, by have := ok.len; omega⟩, p, ⟨?_, ?_, fun q hq => ?_⟩, hn, ls, lt, ts, st, fun q hq => ?_, fun q hq => ?_, h5⟩
  · rw [hL.nodup_iff, List.nodup_iff_pairwise_ne, List.pairwise_map]
    refine List.Pairwise.imp_of_mem (R := fun a b => a ≠ b) (fun {a b} ha hb hne e => hne ?_) (List.nodup_iff_pairwise_ne.mp p.nd)
    have := congrArg (fun v => nm.idxOf v) e
    have this : nm.idxOf (fnL nm a) = nm.idxOf (fnL nm b) := this
    rw [ts a (p.lt a ha), ts b (p.lt b hb)] at this
    exact this
  · have := hL.length_eq
    rw [List.length_map] at this
    have := p.ne
    omega
  · obtain ⟨a, ha, rfl⟩ := List.mem_map.mp (hL.mem_iff.mp hq)
    rw [hn]
    exact ls a (p.lt a ha)
  · exact hL.mem_iff.mpr (List.mem_map.mpr ⟨q, hq, rfl⟩)
  · obtain ⟨a, ha, rfl⟩ := List.mem_map.mp (hL.mem_iff.mp hq)
    show nm.idxOf (fnL nm a) ∈ posts
    rw [ts a (p.lt a ha)]
    exact ha
/-- what singles tell, first -/
noncomputable abbrev cutsL (W : Web) (posts : List Nat) : List Int := posts.map fun p => minCut W [p] (posts.filter fun o => o != p)
theorem Turn.cuts {W W' : Web} {posts L nm : List Nat} {t : Nat → Nat} (h : Turn W posts W' L (fnL nm) t) (hL : L.Perm (posts.map (fnL nm))) : (cutsL W' L).Perm (cutsL W posts) := by
  refine (hL.map _).trans ?_
  rw [List.map_map]
  have : posts.map ((fun p => minCut W' [p] (L.filter fun o => o != p)) ∘ fnL nm) = cutsL W posts := List.map_congr_left fun q hq => h.cut hq
  rw [this]
section
variable {P : Program} {w : World} {K : PySem.W.Frag} {mg : Str → Option Value} {base : Heap}
def spLawTurned (K : PySem.W.Frag) : Sp := fun vs H Q _ => ∃ b v c, vs = [b, v, c] ∧ ∃ (a : Addr) (cn : Nat) (W : Web) (posts : List Nat), b = .ref a ∧ BoxAt H a cn ∧ cn ≤ 500000 ∧ Is Any (del H a) v (webD W) ∧ WOk W ∧ Is Any (del H a) c (natsD posts) ∧ POk W posts ∧
  ∀ H', Same (del H a) H' → BoxAt H' a (cn + 10) → Q (.bl true) H'
-- _law_turned: 0=_law_box_here 1=_law_web_here 2=_law_posts_here 3=_law_names 4=_law_place 5=_law_other 6=_law_there 7=_law_post 8=_law_values 9=_law_one
theorem sc_law_turned : FnScope ["_law_box_here", "_law_web_here", "_law_posts_here", "_law_names", "_law_place", "_law_other", "_law_there", "_law_post", "_law_values", "_law_one"] ["_law_box_here", "_law_web_here", "_law_posts_here"] (defScope sLawTurned) := ⟨rfl, rfl, rfl, by decide +kernel, rfl, by decide +kernel, by decide +kernel⟩
theorem ok_law_turned (T : Tx K mg) : DefOk P w K mg base "_law_turned" 60 ["_law_box_here", "_law_web_here", "_law_posts_here"] (spLawTurned K) := by
  have O_law_least := ok_law_least (P := P) (w := w) (base := base) T
  have O_law_take := ok_law_take (P := P) (w := w) (base := base) T
  have O_count_least := ok_count_least (P := P) (w := w) (base := base) T
  have O_merged := ok_merged (P := P) (w := w) (base := base) T
  have O_singles := ok_singles (P := P) (w := w) (base := base) T
  refine DefOk.mk' T.g__law_turned (fn_ok T.d__law_turned sc_law_turned (fun _ _ _ _ _ _ us hl => match us, hl with | [_, _, _], _ => rfl) (fun vs H Q E h => ?_) (fun cdv A outer s H vs Q E hr h => ?_))
  · obtain ⟨_, _, _, rfl, _⟩ := h
    rfl
  have hu := hu_of hr
  obtain ⟨v0, v1, v2, rfl, h⟩ := h
  refine ⟨_, (pss_cons (ps_set (i := 3) sc_law_turned.nd rfl (.inr rfl) (pe_lst pa_nil))
     (pss_cons (ps_for PassesOwn.never rfl (pi_range1 rfl T.f_range (pa_cons (pe_ix ix_tup (pv 1) pe_int (fun _ _ => rfl)) pa_nil)) (pg_name (i := 4) sc_law_turned.nd rfl (.inl rfl) (.inl rfl))
     (pss_one (ps_expr (pe_bm PySem.F.plainAttrs_list PySem.F.slot_list_insert PySem.F.type_list_insert mt_insert (pv 3) (pa_cons (pcall O_law_take (hr.mono (by decide)) (by rfl) (pa_cons (pv 0) (pa_cons (pe_op op_add (pv 4) pe_int) pa_nil))) (pa_cons (pv 4) pa_nil))))))
     (pss_cons (ps_set (i := 5) sc_law_turned.nd rfl (.inl rfl) (pcall O_merged (hr.mono (by decide)) (by rfl) (pa_cons (pv 1) (pa_cons (pe_callTy call_tuple_of (by rfl) T.f_tuple (by decide +kernel) (pa_cons (pv 3) pa_nil)) pa_nil))))
     (pss_cons (ps_set (i := 6) sc_law_turned.nd rfl (.inl rfl) (pe_callB cr_sortedI (by rfl) T.f_sorted (by decide +kernel) (pa_cons (pe_lc (own := [("_law_post", 7)]) (g := (gName 7)) (tt := tYes) (te := (tOp (rIxL K) (tVar 3) (tVar 7))) rfl sc_law_turned.nd (pi_list (pv 2)) (blkOk_by (N := ["_law_box_here", "_law_web_here", "_law_posts_here", "_law_names", "_law_place", "_law_other", "_law_there", "_law_post", "_law_values", "_law_one"]) (sc := defScope sLawTurned) (by decide +kernel)) (fun _ _ _ _ _ => (pg_name (i := 7) sc_law_turned.nd rfl (.inl rfl) (.inr rfl))) (fun _ _ _ _ _ => pts_nil) (fun _ _ _ _ _ => (pe_ix ix_list (pv 3) (pv 7) (fun _ _ => rfl)))) pa_nil)))
     (pss_cons (ps_set (i := 8) sc_law_turned.nd rfl (.inl rfl) (pe_callB cr_sortedI (by rfl) T.f_sorted (by decide +kernel) (pa_cons (pe_lc (own := [("_law_one", 9)]) (g := (gName 9)) (tt := tYes) (te := (tOp (rIxT K) (tVar 9) (tC (.int 0)))) rfl sc_law_turned.nd (pi_list (pcall O_singles (hr.mono (by decide)) (by rfl) (pa_cons (pv 1) (pa_cons (pv 2) pa_nil)))) (blkOk_by (N := ["_law_box_here", "_law_web_here", "_law_posts_here", "_law_names", "_law_place", "_law_other", "_law_there", "_law_post", "_law_values", "_law_one"]) (sc := defScope sLawTurned) (by decide +kernel)) (fun _ _ _ _ _ => (pg_name (i := 9) sc_law_turned.nd rfl (.inl rfl) (.inr rfl))) (fun _ _ _ _ _ => pts_nil) (fun _ _ _ _ _ => (pe_ix ix_tup (pv 9) pe_int (fun _ _ => rfl)))) pa_nil)))
     (pss_cons (ps_if (pt_cmpR (op_neD hr.units) (pe_callB cr_sortedI (by rfl) T.f_sorted (by decide +kernel) (pa_cons (pe_lc (own := [("_law_one", 9)]) (g := (gName 9)) (tt := tYes) (te := (tOp (rIxT K) (tVar 9) (tC (.int 0)))) rfl sc_law_turned.nd (pi_list (pcall O_singles (hr.mono (by decide)) (by rfl) (pa_cons (pv 5) (pa_cons (pv 6) pa_nil)))) (blkOk_by (N := ["_law_box_here", "_law_web_here", "_law_posts_here", "_law_names", "_law_place", "_law_other", "_law_there", "_law_post", "_law_values", "_law_one"]) (sc := defScope sLawTurned) (by decide +kernel)) (fun _ _ _ _ _ => (pg_name (i := 9) sc_law_turned.nd rfl (.inl rfl) (.inr rfl))) (fun _ _ _ _ _ => pts_nil) (fun _ _ _ _ _ => (pe_ix ix_tup (pv 9) pe_int (fun _ _ => rfl)))) pa_nil)) (pv 8) (nomark _))
     (pss_one (ps_ret pe_bl))
     pss_nil)
     (pss_cons (ps_if (pt_cmpR op_ne (pcall O_count_least (hr.mono (by decide)) (by rfl) (pa_cons (pv 5) (pa_cons (pv 6) pa_nil))) (pcall O_count_least (hr.mono (by decide)) (by rfl) (pa_cons (pv 1) (pa_cons (pv 2) pa_nil))) (nomark _))
     (pss_one (ps_ret pe_bl))
     pss_nil)
     (pss_one (ps_ret (pe_cmpR op_eq (pcall O_law_least (hr.mono (by decide)) (by rfl) (pa_cons (pv 5) (pa_cons (pv 6) pa_nil))) (pcall O_law_least (hr.mono (by decide)) (by rfl) (pa_cons (pv 1) (pa_cons (pv 2) pa_nil))) (nomark _))))))))))), ?_⟩
  obtain ⟨a, cn, W, posts, rfl, hbox, hcn, hw, ok, hp, pok, q⟩ := h
  have n1 := ok.n1
  have pl := pok.len
  obtain ⟨pw, pq, xs, rfl, hw1, hw2, hx⟩ := is_web hw
  obtain ⟨pa, rfl, _, hpa⟩ := is_nats hp
  refine ⟨sz0, fun nl hnl => ?_⟩
  have nla : nl ≠ a := hbox.ne hnl
  have nl0 : del H a nl = none := by rw [del_ne nla]; exact hnl
  have s1 : Same (del H a) (upd H nl (.lst [])) := del_same.trans (same_upd hnl)
  have hb1 := hbox.same (same_upd (o := .lst []) hnl)
  have hnl1 : upd H nl (.lst []) nl = some (.lst []) := upd_same
  generalize upd H nl (.lst []) = H1 at *
  refine ⟨_, rfl, pw, _, 0, nv W.n, rfl, rfl, SqT.of (s1 _ _ hw1), rfl, _, rfl, by omega, by omega, ?_⟩
  rw [Int.toNat_natCast]
  refine for_R (fun i σ H2 => ∃ (nm : List Nat) (x4 : Option V), σ = [some (.ref a), some (.ref pw), some (.ref pa), some (.ref nl), x4, none, none, none, none, none] ∧ Same (del H a) H2 ∧ BoxAt H2 a (cn + i) ∧ H2 nl = some (.lst (nm.map nv)) ∧ nm.Perm (List.range i)) ⟨[], _, rfl, s1, hb1, hnl1, List.Perm.refl _⟩ ?_ ?_
  · rintro i _ H2 hi ⟨nm, x4, rfl, s2, hb2, hnl2, hnm⟩
    have hl := hnm.length_eq
    rw [List.length_range] at hl
    refine ⟨_, rfl, list_ty hnl2, _, rfl, _, rfl, _, _, rfl, rfl, _, _, rfl, a, _, i + 1, rfl, hb2, by omega, rfl, by omega, by omega, fun r hr H3 s3 hb3 => ?_⟩
    have hnl3 := s3 _ _ (del_get hnl2 nla)
    have s03 := same_box s2 s3
    refine ⟨_, rfl, nl, _, _, _, rfl, rfl, hnl3, smallLt (by rw [List.length_map]; omega), by omega, by omega, ?_⟩
    rw [Int.toNat_natCast]
    refine ⟨nm.take r ++ [i] ++ nm.drop r, _, rfl, s03.mut nl0, ?_, ?_, ?_⟩
    · obtain ⟨b0, b1, c0, e, z⟩ := hb3
      exact ⟨b0, b1, c0, by rw [upd_ne (Ne.symm nla)]; exact e, z⟩
    · rw [upd_same, List.map_append, List.map_append, List.map_take, List.map_drop]
      rfl
    · rw [List.range_succ]
      have e1 : (nm.take r ++ [i] ++ nm.drop r).Perm (nm.take r ++ nm.drop r ++ [i]) := by
        rw [List.append_assoc, List.append_assoc]
        exact List.Perm.append_left _ List.perm_append_comm
      rw [List.take_append_drop] at e1
      exact e1.trans (hnm.append_right _)
  rintro _ H2 ⟨nm, x4, rfl, s2, hb2, hnl2, hnm⟩
  have hnl' : nm.length = W.n := by have := hnm.length_eq; rw [List.length_range] at this; exact this
  refine ⟨_, rfl, _, rfl, nl, _, rfl, .inl ⟨SqL.of hnl2, fun tn htn => ?_⟩⟩
  have st := same_upd (o := .tup (nm.map nv)) htn
  have s3 := s2.trans st
  have w3 : Is Any (upd H2 tn (.tup (nm.map nv))) (.ref pw) (webD W) := hw.same s3
  have p3 : Is Any (upd H2 tn (.tup (nm.map nv))) (.ref pa) (natsD posts) := hp.same s3
  have tn3 : Is Any (upd H2 tn (.tup (nm.map nv))) (.ref tn) (tupD nm) := is_tnats' upd_same
  have nl3 := st _ _ hnl2
  have hb3 := hb2.same st
  generalize upd H2 tn (.tup (nm.map nv)) = H3 at *
  refine ⟨_, _, rfl, W, nm, w3, ok, tn3, hnl', fun W' m1 m2 m3 m4 m5 r4 H4 s4 hr4 => ?_⟩
  have s34 := s3.trans s4
  have pa4 := s34 _ _ hpa
  refine ⟨_, rfl, pa, rfl, ⟨_, SqL.of pa4⟩, fun D hD => ?_⟩
  refine lc_L posts natD (fun p => some (natD (fnL nm p))) pa4 (isAll_nats (φ := Any).mpr rfl) hD (by omega) ?_ ?_
  · intro x y H5 hy0 s5 hy Kont Skip k1 k2
    cases hy
    have := pok.lt y hy0
    exact ⟨rfl, _, rfl, _, rfl, nl, _, _, _, rfl, rfl, SqL.of (s5 _ _ (s4 _ _ nl3)), at_nats (by omega), k1 _ _ _ (Same.refl _) rfl (.int _)⟩
  intro H5 s5 h5
  rw [filterMap_some] at h5
  have e5 : (posts.map fun p => natD (fnL nm p)) = (posts.map (fnL nm)).map natD := by rw [List.map_map]; rfl
  rw [e5] at h5
  obtain ⟨D', e, _, hD5⟩ := is_nats h5
  cases e
  have ndσ : (posts.map (fnL nm)).Nodup := by
    rw [List.nodup_iff_pairwise_ne, List.pairwise_map]
    have nd : nm.Nodup := hnm.nodup_iff.mpr List.nodup_range
    refine List.Pairwise.imp_of_mem (R := fun a b => a ≠ b) (fun {x y} hx hy hne e => hne ?_) (List.nodup_iff_pairwise_ne.mp pok.nd)
    exact getD_inj nd (by have := pok.lt x hx; omega) (by have := pok.lt y hy; omega) e
  refine ⟨D, (posts.map (fnL nm)).map fun v : Nat => (v : Int), rfl, SqL.of (by rw [nv_int]; exact hD5), fun ns' th h6 h7 hth => ?_⟩
  obtain ⟨L, rfl, hL, hLs⟩ := sortN h6 h7 ndσ
  rw [nv_int]
  have turn := turn_of ok pok hnm hL m1 m2 m3 m4 m5
  have s56 := same_upd (o := .lst (L.map nv)) hth
  have w6 := (hr4.any.same s5).same s56
  have th6 : Is Any (upd H5 th (.lst (L.map nv))) (.ref th) (natsD L) := is_nats' trivial upd_same
  have s06 := (s34.trans s5).trans s56
  have hb6 := ((hb3.same s4).same s5).same s56
  generalize upd H5 th (.lst (L.map nv)) = H6 at *
  have pl' := turn.p'.len
  -- the first singles
  refine ⟨_, rfl, _, rfl, _, _, rfl, W, posts, hw.same s06, ok, hp.same s06, pok, fun fl hfl r7 H7 s7 h7' => ?_⟩
  have lfl : fl.length = posts.length := by have := congrArg List.length hfl; rw [List.length_map, List.length_map] at this; exact this
  obtain ⟨sa, ys, rfl, _, hsa, hys⟩ := is_list h7'
  refine ⟨sa, rfl, ⟨_, SqL.of hsa⟩, fun D2 hD2 => ?_⟩
  refine lc_L fl flD (fun z => some (.int z.1)) hsa hys hD2 (by omega) ?_ ?_
  · intro x y H8 _ s8 hy Kont Skip k1 k2
    obtain ⟨b, us, rfl, hb, hus⟩ := is_tuple hy
    cases hus with
    | cons b1 b2 =>
      cases b1
      exact ⟨rfl, _, rfl, b, _, 0, _, rfl, rfl, SqT.of hb, ix_nat (n := 0) rfl, k1 _ _ _ (Same.refl _) rfl (.int _)⟩
  intro H8 s8 h8
  rw [filterMap_some, map_int] at h8
  obtain ⟨D', e, _, hD8⟩ := is_ints h8
  cases e
  have hfl1 : fl.map (fun z => z.1) = cutsL W posts := hfl
  rw [hfl1] at hD8
  refine ⟨D2, _, rfl, SqL.of hD8, fun vs1 va p1 q1 hva => ?_⟩
  have sv := same_upd (o := .lst (vs1.map V.int)) hva
  have va9 : upd H8 va (.lst (vs1.map V.int)) va = some (.lst (vs1.map V.int)) := upd_same
  have s69 := (s7.trans s8).trans sv
  generalize upd H8 va (.lst (vs1.map V.int)) = H9 at *
  -- the others
  refine ⟨_, rfl, _, rfl, _, _, rfl, W', L, w6.same s69, turn.ok', th6.same s69, turn.p', fun fl2 hfl2 r10 H10 s10 h10 => ?_⟩
  have lfl2 : fl2.length = L.length := by have := congrArg List.length hfl2; rw [List.length_map, List.length_map] at this; exact this
  obtain ⟨sb, ys2, rfl, _, hsb, hys2⟩ := is_list h10
  refine ⟨sb, rfl, ⟨_, SqL.of hsb⟩, fun D3 hD3 => ?_⟩
  refine lc_L fl2 flD (fun z => some (.int z.1)) hsb hys2 hD3 (by have := turn.ok'.n1; omega) ?_ ?_
  · intro x y H8 _ s8 hy Kont Skip k1 k2
    obtain ⟨b, us, rfl, hb, hus⟩ := is_tuple hy
    cases hus with
    | cons b1 b2 =>
      cases b1
      exact ⟨rfl, _, rfl, b, _, 0, _, rfl, rfl, SqT.of hb, ix_nat (n := 0) rfl, k1 _ _ _ (Same.refl _) rfl (.int _)⟩
  intro H11 s11 h11
  rw [filterMap_some, map_int] at h11
  obtain ⟨D', e, _, hD11⟩ := is_ints h11
  cases e
  have hfl3 : fl2.map (fun z => z.1) = cutsL W' L := hfl2
  rw [hfl3] at hD11
  refine ⟨D3, _, rfl, SqL.of hD11, fun vs2 vb p2 q2 hvb => ?_⟩
  have evs : vs2 = vs1 := int_sorted ((p2.trans (turn.cuts hL)).trans p1.symm) q2 q1
  subst evs
  have sv2 := same_upd (o := .lst (vs2.map V.int)) hvb
  have va12 := sv2 _ _ (s11 _ _ (s10 _ _ va9))
  have vb12 : upd H11 vb (.lst (vs2.map V.int)) vb = some (.lst (vs2.map V.int)) := upd_same
  have s912 := (s10.trans s11).trans sv2
  generalize upd H11 vb (.lst (vs2.map V.int)) = H12 at *
  have s612 := s69.trans s912
  have s012 := s06.trans s612
  refine ⟨_, rfl, .list (vs2.map PyData.int), .list (vs2.map PyData.int), Is.dp (φ := Any) (.lst trivial vb12 (isAll_ints.mpr rfl)), Is.dp (φ := Any) (.lst trivial va12 (isAll_ints.mpr rfl)), shaped_ints _, shaped_ints _, _, rfl, ?_⟩
  rw [shaped_eqv (shaped_ints _)]
  refine ifF rfl ?_
  refine ⟨_, rfl, _, rfl, _, _, rfl, W', L, w6.same s612, turn.ok', th6.same s612, turn.p', fun H13 s13 => ?_⟩
  refine ⟨_, rfl, _, rfl, _, _, rfl, W, posts, hw.same (s012.trans s13), ok, hp.same (s012.trans s13), pok, fun H14 s14 => ⟨rfl, _, rfl, ?_⟩⟩
  rw [ne_nats, turn.count, bne_self_eq_false]
  refine ifF rfl ?_
  have s614 := (s612.trans s13).trans s14
  have s014 := (s012.trans s13).trans s14
  refine ⟨_, rfl, _, rfl, _, _, rfl, W', L, w6.same s614, turn.ok', th6.same s614, turn.p', fun H15 s15 => ?_⟩
  refine ⟨_, rfl, _, rfl, _, _, rfl, W, posts, hw.same (s014.trans s15), ok, hp.same (s014.trans s15), pok, fun H16 s16 => ⟨rfl, ?_⟩⟩
  rw [eq_ints, turn.least, decide_eq_true rfl]
  exact q H16 ((s014.trans s15).trans s16) ((hb6.same ((s614.trans s15).trans s16)).mono (by omega))
end
end PW
set_option Elab.async false
set_option linter.all false
set_option maxRecDepth 100000
set_option maxHeartbeats 4000000
namespace PW
open PySem PySem.Spec PyProof.Rows L2
theorem cuts_times {W : Web} {posts : List Nat} {c : Int} (ok : WOk W) (hc : 1 ≤ c) : cutsL (timesW W c) posts = (cutsL W posts).map (fun i => i * c) := by
  unfold cutsL
  rw [List.map_map]
  refine List.map_congr_left fun p _ => times_cut hc _ _ (cut_some ok fun q hq hk => ?_)
  rw [List.mem_singleton] at hq
  subst hq
  have := (List.mem_filter.mp hk).2
  simp at this
section
variable {P : Program} {w : World} {K : PySem.W.Frag} {mg : Str → Option Value} {base : Heap}
def spLawTimes (K : PySem.W.Frag) : Sp := fun vs H Q _ => ∃ b v c l, vs = [b, v, c, l] ∧ ∃ (a : Addr) (cn : Nat) (W : Web) (posts : List Nat), b = .ref a ∧ BoxAt H a cn ∧ cn ≤ 500000 ∧ Is Any (del H a) v (webD W) ∧ WOk W ∧ (∀ t ∈ W.ts, t.2.2 ≤ 1000000000) ∧ Is Any (del H a) c (natsD posts) ∧ POk W posts ∧ l = .int (leastW W posts) ∧
  ∀ H', Same (del H a) H' → BoxAt H' a (cn + 10) → Q (.bl true) H'
-- _law_times: 0=_law_box_here 1=_law_web_here 2=_law_posts_here 3=_law_least_here 4=_law_greatest 5=_law_tie 6=_law_by 7=_law_other 8=_law_a 9=_law_b 10=_law_weight_here 11=_law_one
theorem sc_law_times : FnScope ["_law_box_here", "_law_web_here", "_law_posts_here", "_law_least_here", "_law_greatest", "_law_tie", "_law_by", "_law_other", "_law_a", "_law_b", "_law_weight_here", "_law_one"] ["_law_box_here", "_law_web_here", "_law_posts_here", "_law_least_here"] (defScope sLawTimes) := ⟨rfl, rfl, rfl, by decide +kernel, rfl, by decide +kernel, by decide +kernel⟩
theorem ok_law_times (T : Tx K mg) : DefOk P w K mg base "_law_times" 60 ["_law_box_here", "_law_web_here", "_law_posts_here", "_law_least_here"] (spLawTimes K) := by
  have O_law_least := ok_law_least (P := P) (w := w) (base := base) T
  have O_law_take := ok_law_take (P := P) (w := w) (base := base) T
  have O_count_least := ok_count_least (P := P) (w := w) (base := base) T
  have O_singles := ok_singles (P := P) (w := w) (base := base) T
  refine DefOk.mk' T.g__law_times (fn_ok T.d__law_times sc_law_times (fun _ _ _ _ _ _ us hl => match us, hl with | [_, _, _, _], _ => rfl) (fun vs H Q E h => ?_) (fun cdv A outer s H vs Q E hr h => ?_))
  · obtain ⟨_, _, _, _, rfl, _⟩ := h
    rfl
  have hu := hu_of hr
  obtain ⟨v0, v1, v2, v3, rfl, h⟩ := h
  refine ⟨_, (pss_cons (ps_set (i := 4) sc_law_times.nd rfl (.inl rfl) (pe_callB (cr_max rfl) (by rfl) T.f_max (by decide +kernel) (pa_cons (pe_op op_cat (pe_lst (pa_cons pe_int pa_nil)) (pe_lc (own := [("_law_tie", 5)]) (g := (gName 5)) (tt := tYes) (te := (tOp (rIxT K) (tVar 5) (tC (.int 2)))) rfl sc_law_times.nd (pi_tup (pe_ix ix_tup (pv 1) pe_int (fun _ _ => rfl))) (blkOk_by (N := ["_law_box_here", "_law_web_here", "_law_posts_here", "_law_least_here", "_law_greatest", "_law_tie", "_law_by", "_law_other", "_law_a", "_law_b", "_law_weight_here", "_law_one"]) (sc := defScope sLawTimes) (by decide +kernel)) (fun _ _ _ _ _ => (pg_name (i := 5) sc_law_times.nd rfl (.inl rfl) (.inr rfl))) (fun _ _ _ _ _ => pts_nil) (fun _ _ _ _ _ => (pe_ix ix_tup (pv 5) pe_int (fun _ _ => rfl))))) pa_nil)))
     (pss_cons (ps_set (i := 6) sc_law_times.nd rfl (.inr rfl) (pe_callB (call_min2 rfl) (by rfl) T.f_min (by decide +kernel) (pa_cons (pe_op op_add pe_int (pcall O_law_take (hr.mono (by decide)) (by rfl) (pa_cons (pv 0) (pa_cons pe_int pa_nil)))) (pa_cons (pe_op op_fdiv (pe_op op_pow pe_int pe_int) (pv 4)) pa_nil))))
     (pss_cons (ps_set (i := 7) sc_law_times.nd rfl (.inl rfl) (pe_tup (pa_cons (pe_ix ix_tup (pv 1) pe_int (fun _ _ => rfl)) (pa_cons (pe_callTy call_tuple_of (by rfl) T.f_tuple (by decide +kernel) (pa_cons (pe_lc (own := [("_law_a", 8), ("_law_b", 9), ("_law_weight_here", 10)]) (g := (gTup K 3 (gCons (gName 8) (gCons (gName 9) (gCons (gName 10) gNil))))) (tt := tYes) (te := (tTup (tCons (tVar 8) (tCons (tVar 9) (tCons (tOp qMul (tVar 10) (tVar 6)) tNil))))) rfl sc_law_times.nd (pi_tup (pe_ix ix_tup (pv 1) pe_int (fun _ _ => rfl))) (blkOk_by (N := ["_law_box_here", "_law_web_here", "_law_posts_here", "_law_least_here", "_law_greatest", "_law_tie", "_law_by", "_law_other", "_law_a", "_law_b", "_law_weight_here", "_law_one"]) (sc := defScope sLawTimes) (by decide +kernel)) (fun _ _ _ _ _ => (pg_tup rfl (pgs_cons (pg_name (i := 8) sc_law_times.nd rfl (.inl rfl) (.inr rfl)) (pgs_cons (pg_name (i := 9) sc_law_times.nd rfl (.inl rfl) (.inr rfl)) (pgs_cons (pg_name (i := 10) sc_law_times.nd rfl (.inl rfl) (.inr rfl)) pgs_nil))))) (fun _ _ _ _ _ => pts_nil) (fun _ _ _ _ _ => (pe_tup (pa_cons (pv 8) (pa_cons (pv 9) (pa_cons (pe_op op_mul (pv 10) (pv 6)) pa_nil)))))) pa_nil)) pa_nil))))
     (pss_cons (ps_if (pt_cmpR (op_neD hr.units) (pe_lc (own := [("_law_one", 11)]) (g := (gName 11)) (tt := tYes) (te := (tOp (rIxT K) (tVar 11) (tC (.int 0)))) rfl sc_law_times.nd (pi_list (pcall O_singles (hr.mono (by decide)) (by rfl) (pa_cons (pv 7) (pa_cons (pv 2) pa_nil)))) (blkOk_by (N := ["_law_box_here", "_law_web_here", "_law_posts_here", "_law_least_here", "_law_greatest", "_law_tie", "_law_by", "_law_other", "_law_a", "_law_b", "_law_weight_here", "_law_one"]) (sc := defScope sLawTimes) (by decide +kernel)) (fun _ _ _ _ _ => (pg_name (i := 11) sc_law_times.nd rfl (.inl rfl) (.inr rfl))) (fun _ _ _ _ _ => pts_nil) (fun _ _ _ _ _ => (pe_ix ix_tup (pv 11) pe_int (fun _ _ => rfl)))) (pe_lc (own := [("_law_one", 11)]) (g := (gName 11)) (tt := tYes) (te := (tOp qMul (tOp (rIxT K) (tVar 11) (tC (.int 0))) (tVar 6))) rfl sc_law_times.nd (pi_list (pcall O_singles (hr.mono (by decide)) (by rfl) (pa_cons (pv 1) (pa_cons (pv 2) pa_nil)))) (blkOk_by (N := ["_law_box_here", "_law_web_here", "_law_posts_here", "_law_least_here", "_law_greatest", "_law_tie", "_law_by", "_law_other", "_law_a", "_law_b", "_law_weight_here", "_law_one"]) (sc := defScope sLawTimes) (by decide +kernel)) (fun _ _ _ _ _ => (pg_name (i := 11) sc_law_times.nd rfl (.inl rfl) (.inr rfl))) (fun _ _ _ _ _ => pts_nil) (fun _ _ _ _ _ => (pe_op op_mul (pe_ix ix_tup (pv 11) pe_int (fun _ _ => rfl)) (pv 6)))) (nomark _))
     (pss_one (ps_ret pe_bl))
     pss_nil)
     (pss_one (ps_ret (pe_and (pe_cmpR op_eq (pcall O_law_least (hr.mono (by decide)) (by rfl) (pa_cons (pv 7) (pa_cons (pv 2) pa_nil))) (pe_op op_mul (pv 3) (pv 6)) (nomark _)) (pe_one (pe_cmpR op_eq (pcall O_count_least (hr.mono (by decide)) (by rfl) (pa_cons (pv 7) (pa_cons (pv 2) pa_nil))) (pcall O_count_least (hr.mono (by decide)) (by rfl) (pa_cons (pv 1) (pa_cons (pv 2) pa_nil))) (nomark _)))))))))), ?_⟩
  obtain ⟨a, cn, W, posts, rfl, hbox, hcn, hw, ok, hwb, hp, pok, rfl, q⟩ := h
  have n1 := ok.n1
  have pl := pok.len
  have ts1 := ok.len
  obtain ⟨pw, pq, xs, rfl, hw1, hw2, hx⟩ := is_web hw
  refine ⟨sz1, fun l1 hl1 => ?_⟩
  have s1 := same_upd (o := .lst [.int 1]) hl1
  have hl1' : upd H l1 (.lst [.int 1]) l1 = some (.lst [.int 1]) := upd_same
  generalize upd H l1 (.lst [.int 1]) = H1 at *
  have sd1 : Same (del H a) H1 := del_same.trans s1
  refine ⟨_, rfl, pw, _, 1, .ref pq, rfl, rfl, SqT.of (sd1 _ _ hw1), rfl, pq, rfl, ⟨_, SqT.of (sd1 _ _ hw2)⟩, fun D hD => ?_⟩
  refine lc_T W.ts tieD (fun t => some (.int t.2.2)) (sd1 _ _ hw2) (hx.same sd1) hD (by omega) ?_ ?_
  · intro x y H2 _ s2 hy Kont Skip k1 k2
    obtain ⟨b, rfl, hb⟩ := is_tie hy
    exact ⟨rfl, _, rfl, b, _, 2, .int y.2.2, rfl, rfl, SqT.of hb, rfl, k1 _ _ _ (Same.refl _) rfl (.int _)⟩
  intro H2 s2 h2
  rw [filterMap_some, map_int] at h2
  obtain ⟨D', e, _, hD2⟩ := is_ints h2
  cases e
  refine ⟨l1, D, _, _, rfl, rfl, s2 _ _ hl1', hD2, small (by rw [List.length_map, List.length_map]; show 1 + _ ≤ _; omega), fun p hp3 => ?_⟩
  have e1 : [V.int 1] ++ (W.ts.map fun t => t.2.2).map V.int = (1 :: W.ts.map fun t => t.2.2).map V.int := rfl
  rw [e1]
  refine ⟨p, _, rfl, SqL.of upd_same, by simp, fun g hg hmax => ?_⟩
  have hg1 : 1 ≤ g := hmax 1 (List.mem_cons_self ..)
  have hg2 : g ≤ 1000000000 := by
    rcases List.mem_cons.mp hg with e | h
    · omega
    · obtain ⟨t, ht, rfl⟩ := List.mem_map.mp h
      exact hwb t ht
  have s3 := (s1.trans s2).trans (same_upd (o := .lst ((1 :: W.ts.map fun t => t.2.2).map V.int)) hp3)
  generalize upd H2 p (.lst ((1 :: W.ts.map fun t => t.2.2).map V.int)) = H3 at *
  refine ⟨_, rfl, _, _, rfl, a, cn, 5, rfl, hbox.same s3, by omega, rfl, by decide, by decide, fun r hr H4 s4 hb4 => ⟨_, _, rfl, rfl, ?_⟩⟩
  have s04 : Same (del H a) H4 := same_box (del_same.trans s3) s4
  refine ⟨_, _, rfl, rfl, ⟨by decide, by decide, by decide⟩, _, rfl, _, _, rfl, rfl, ⟨by omega, by omega⟩, _, _, rfl, ?_⟩
  have ep : (10 : Int) ^ (9 : Int).toNat = 1000000000 := by decide
  have hdiv : 1 ≤ (1000000000 : Int) / g := by
    rw [Int.le_ediv_iff_mul_le (by omega)]
    omega
  have hcc : ∃ c : Int, (if (10 : Int) ^ (9 : Int).toNat / g < 2 + (r : Int) then (10 : Int) ^ (9 : Int).toNat / g else 2 + (r : Int)) = c ∧ 1 ≤ c ∧ c ≤ 7 := by
    rw [ep]
    refine ⟨_, rfl, ?_, ?_⟩
    · split <;> omega
    · split <;> omega
  obtain ⟨c, ec, hc1, hc7⟩ := hcc
  rw [ec]
  have w4 := hw.same s04
  have p4 := hp.same s04
  refine ⟨_, rfl, pw, _, 0, nv W.n, rfl, rfl, SqT.of (s04 _ _ hw1), rfl, ?_⟩
  refine ⟨_, rfl, pw, _, 1, .ref pq, rfl, rfl, SqT.of (s04 _ _ hw1), rfl, pq, rfl, ⟨_, SqT.of (s04 _ _ hw2)⟩, fun D2 hD2' => ?_⟩
  refine lc_T W.ts tieD (fun t => some (tieD (t.1, t.2.1, t.2.2 * c))) (s04 _ _ hw2) (hx.same s04) hD2' (by omega) ?_ ?_
  · intro x y H5 hy0 s5 hy Kont Skip k1 k2
    obtain ⟨b, rfl, hb⟩ := is_tie hy
    refine ⟨b, _, rfl, SqT.of hb, rfl, _, _, rfl, _, _, rfl, _, _, rfl, rfl, rfl, _, rfl, _, rfl, _, rfl, _, rfl, _, _, rfl, rfl, .inr ⟨by omega, by omega⟩, sz3, fun p hp => ?_⟩
    exact k1 _ _ _ (same_upd hp) rfl (is_tie' (t := (y.1, y.2.1, y.2.2 * c)) upd_same)
  intro H5 s5 h5
  rw [filterMap_some] at h5
  obtain ⟨D', ys, e, _, hD5, hy5⟩ := is_list h5
  cases e
  refine ⟨D2, ys, rfl, .inl ⟨SqL.of hD5, fun l2 hl2 => ⟨sz2, fun ow how => ?_⟩⟩⟩
  have s56 := (same_upd (o := .tup ys) hl2).trans (same_upd (o := .tup [nv W.n, .ref l2]) how)
  have w6 : Is Any (upd (upd H5 l2 (.tup ys)) ow (.tup [nv W.n, .ref l2])) (.ref ow) (webD (timesW W c)) := by
    refine is_web' upd_same (same_upd how _ _ upd_same) ?_
    unfold timesW
    rw [List.map_map]
    exact (hy5.any.same (same_upd hl2)).same (same_upd how)
  generalize upd (upd H5 l2 (.tup ys)) ow (.tup [nv W.n, .ref l2]) = H6 at *
  have s06 := (s04.trans s5).trans s56
  have ok' := times_ok ok hc1
  have pok' : POk (timesW W c) posts := ⟨pok.nd, pok.ne, pok.lt⟩
  have hb6 := (hb4.same s5).same s56
  -- the other web's singles
  refine ⟨_, rfl, _, rfl, _, _, rfl, timesW W c, posts, w6, ok', hp.same s06, pok', fun fl hfl r7 H7 s7 h7' => ?_⟩
  have lfl : fl.length = posts.length := by have := congrArg List.length hfl; rw [List.length_map, List.length_map] at this; exact this
  obtain ⟨sa, ys, rfl, _, hsa, hys⟩ := is_list h7'
  refine ⟨sa, rfl, ⟨_, SqL.of hsa⟩, fun D3 hD3 => ?_⟩
  refine lc_L fl flD (fun z => some (.int z.1)) hsa hys hD3 (by omega) ?_ ?_
  · intro x y H8 _ s8 hy Kont Skip k1 k2
    obtain ⟨b, us, rfl, hb, hus⟩ := is_tuple hy
    cases hus with
    | cons b1 b2 =>
      cases b1
      exact ⟨rfl, _, rfl, b, _, 0, _, rfl, rfl, SqT.of hb, ix_nat (n := 0) rfl, k1 _ _ _ (Same.refl _) rfl (.int _)⟩
  intro H8 s8 h8
  rw [filterMap_some, map_int] at h8
  have hfl1 : fl.map (fun z => z.1) = cutsL (timesW W c) posts := hfl
  rw [hfl1, cuts_times ok hc1] at h8
  have s08 := (s06.trans s7).trans s8
  -- this web's
  refine ⟨_, rfl, _, rfl, _, _, rfl, W, posts, hw.same s08, ok, hp.same s08, pok, fun fl2 hfl2 r10 H10 s10 h10 => ?_⟩
  have lfl2 : fl2.length = posts.length := by have := congrArg List.length hfl2; rw [List.length_map, List.length_map] at this; exact this
  obtain ⟨sb, ys2, rfl, _, hsb, hys2⟩ := is_list h10
  refine ⟨sb, rfl, ⟨_, SqL.of hsb⟩, fun D4 hD4 => ?_⟩
  refine lc_L fl2 flD (fun z => some (.int (z.1 * c))) hsb hys2 hD4 (by omega) ?_ ?_
  · intro x y H9 _ s9 hy Kont Skip k1 k2
    obtain ⟨b, us, rfl, hb, hus⟩ := is_tuple hy
    cases hus with
    | cons b1 b2 =>
      cases b1
      exact ⟨rfl, _, rfl, b, _, 0, _, rfl, rfl, SqT.of hb, ix_nat (n := 0) rfl, _, rfl, _, _, rfl, rfl, .inr ⟨by omega, by omega⟩, k1 _ _ _ (Same.refl _) rfl (.int _)⟩
  intro H11 s11 h11
  rw [filterMap_some, map_int] at h11
  have hfl3 : fl2.map (fun z => z.1 * c) = (cutsL W posts).map (fun i => i * c) := by
    have : fl2.map (fun z => z.1) = cutsL W posts := hfl2
    rw [← this, List.map_map]
    rfl
  rw [hfl3] at h11
  have s811 := s10.trans s11
  have s011 := s08.trans s811
  refine ⟨.list (((cutsL W posts).map (fun i => i * c)).map PyData.int), .list (((cutsL W posts).map (fun i => i * c)).map PyData.int), Is.dp (h8.same s811), Is.dp h11, shaped_ints _, shaped_ints _, _, rfl, ?_⟩
  rw [shaped_eqv (shaped_ints _)]
  refine ifF rfl ?_
  have s611 := (s7.trans s8).trans s811
  refine ⟨_, rfl, _, rfl, _, _, rfl, timesW W c, posts, w6.same s611, ok', hp.same s011, pok', fun H13 s13 => ?_⟩
  refine ⟨_, rfl, _, rfl, _, _, rfl, rfl, .inr ⟨by omega, by omega⟩, rfl, _, rfl, ?_⟩
  rw [eq_ints, times_least ok pok hc1, decide_eq_true rfl]
  refine ifT rfl ?_
  have s013 := s011.trans s13
  refine ⟨_, rfl, _, rfl, _, _, rfl, timesW W c, posts, w6.same (s611.trans s13), ok', hp.same s013, pok', fun H14 s14 => ?_⟩
  refine ⟨_, rfl, _, rfl, _, _, rfl, W, posts, hw.same (s013.trans s14), ok, hp.same (s013.trans s14), pok, fun H15 s15 => ⟨rfl, ?_⟩⟩
  rw [eq_nats, times_count ok pok hc1, beq_self_eq_true]
  exact q H15 ((s013.trans s14).trans s15) ((hb6.same (((s611.trans s13).trans s14).trans s15)).mono (by omega))
end
end PW
set_option Elab.async false
set_option linter.all false
set_option maxRecDepth 100000
set_option maxHeartbeats 4000000
namespace PW
open PySem PySem.Spec PyProof.Rows L2
theorem catA_go {K : PySem.W.Frag} {H : Hp} {p t : Addr} {xs ys : List V} {X : VK} (hx : H p = some (.tup xs)) (ht : H t = some (.tup ys)) (ne : ys ≠ []) (hl : xs.length + ys.length ≤ sizeLine) (k : ∀ lo H5, Same H H5 → H5 lo = some (.tup (xs ++ ys)) → X (.ref lo) H5) : rCatA K (.ref p) (.ref t) H X :=
  ⟨p, t, xs, ys, rfl, rfl, SqT.of hx, SqT.of ht, hl, fun e => k t H (Same.refl _) (by rw [e]; exact ht), fun _ e => absurd e ne, fun _ _ q hq => k q _ (same_upd hq) upd_same⟩
theorem tie_alike (a b : Tie) : PySem.W.alike (tieD a) (tieD b) = true := rfl
theorem tie_depth5 (a : Tie) : (tieD a).depth ≤ 5 := by
  show max 0 (max 0 (max 0 0)) + 1 ≤ 5
  omega
theorem ties_sort (l : List Tie) : SortOk (l.map tieD) :=
  ⟨PySem.W.AllAlike.of tie_alike, PySem.W.Sortable.tuples fun b => ⟨_, _, rfl⟩, fun d hd => by
    obtain ⟨a, _, rfl⟩ := List.mem_map.mp hd
    have := tie_depth5 a
    omega⟩
theorem shaped_tuple {ds : List PyData} (h : ∀ d ∈ ds, d.canLay0 = true ∧ d.depth ≤ 5) : SeqAt.shaped (.tuple ds) = true := by
  unfold SeqAt.shaped
  have h1 : (PyData.tuple ds).canLay0 = true := canAll fun d hd => (h d hd).1
  have h2 : (PyData.tuple ds).depth ≤ 64 := by
    show PyData.depthAll ds + 1 ≤ 64
    have := depAll (n := 5) fun d hd => (h d hd).2
    omega
  rw [h1, decide_eq_true h2]
  rfl
theorem shaped_ties (ts : List Tie) : SeqAt.shaped (.tuple (ts.map tieD)) = true := shaped_tuple fun d hd => by
  obtain ⟨t, _, rfl⟩ := List.mem_map.mp hd
  exact ⟨rfl, tie_depth5 t⟩
theorem shaped_tie (t : Tie) : SeqAt.shaped (tieD t) = true := shaped_tuple fun d hd => by
  simp at hd
  rcases hd with rfl | rfl | rfl <;> exact ⟨rfl, by show 0 ≤ 5; omega⟩
theorem eqv_tie (s t : Tie) : (!PyData.eqv (tieD s) (tieD t)) = decide (s ≠ t) := by
  have e : PyData.eqv (tieD s) (tieD t) = (((s.1 : Int) == (t.1 : Int)) && (((s.2.1 : Int) == (t.2.1 : Int)) && ((s.2.2 == t.2.2) && true))) := rfl
  rw [e, decide_not]
  congr 1
  rw [Bool.eq_iff_iff]
  simp only [Bool.and_eq_true, beq_iff_eq, decide_eq_true_eq, and_true]
  constructor
  · rintro ⟨h1, h2, h3⟩
    exact Prod.ext (by omega) (Prod.ext (by omega) h3)
  · rintro rfl
    exact ⟨rfl, rfl, rfl⟩
theorem ties_all {H2 H3 : Hp} (sl : Same H2 H3) : ∀ zs : List (Addr × Tie), (∀ z ∈ zs, H2 z.1 = some (.tup [nv z.2.1, nv z.2.2.1, .int z.2.2.2])) → IsAll Any H3 (zs.map fun z => V.ref z.1) ((zs.map Prod.snd).map tieD)
  | [], _ => .nil
  | y :: ys, h => .cons (is_tie' (sl _ _ (h y (List.mem_cons_self ..)))) (ties_all sl ys fun z hz => h z (List.mem_cons_of_mem _ hz))
theorem good_perm {n : Nat} {ts ts' : List Tie} (g : GoodTs n ts) (p : ts'.Perm ts) : GoodTs n ts' := ⟨fun t ht => g.1 t (p.mem_iff.mp ht), (p.map pr).nodup_iff.mpr g.2⟩
/-- a place hung on -/
theorem hang_good {W : Web} (ok : WOk W) {a : Nat} {w : Int} (ha : a < W.n) (hw : 1 ≤ w) : GoodTs (W.n + 1) (W.ts ++ [(a, W.n, w)]) := by
  refine ⟨fun t ht => ?_, ?_⟩
  · rcases List.mem_append.mp ht with h | h
    · have := ok.good.1 t h
      exact ⟨this.1, by omega, this.2.2⟩
    · rw [List.mem_singleton] at h
      subst h
      exact ⟨ha, Nat.lt_succ_self _, hw⟩
  · rw [List.map_append, List.nodup_append]
    refine ⟨ok.good.2, by simp, fun x hx y hy e => ?_⟩
    have hy : y = (a, W.n) := by simpa using hy
    subst hy
    subst e
    obtain ⟨t, ht, e⟩ := List.mem_map.mp hx
    have g := ok.good.1 t ht
    have := congrArg Prod.snd e
    have this : t.2.1 = W.n := this
    omega
theorem split_good {W : Web} (ok : WOk W) {t : Tie} (ht : t ∈ W.ts) : GoodTs (W.n + 1) ((W.ts.filter fun u => decide (u ≠ t)) ++ [(t.1, W.n, t.2.2), (t.2.1, W.n, t.2.2)]) := by
  have gt := ok.good.1 t ht
  refine ⟨fun u hu => ?_, ?_⟩
  · rcases List.mem_append.mp hu with h | h
    · have := ok.good.1 u (List.mem_filter.mp h).1
      exact ⟨this.1, by omega, this.2.2⟩
    · simp at h
      rcases h with rfl | rfl
      · exact ⟨by show t.1 < W.n; omega, Nat.lt_succ_self _, gt.2.2⟩
      · exact ⟨gt.2.1, Nat.lt_succ_self _, gt.2.2⟩
  · rw [List.map_append, List.nodup_append]
    refine ⟨(List.filter_sublist.map _).nodup ok.good.2, ?_, fun x hx y hy e => ?_⟩
    · show [(t.1, W.n), (t.2.1, W.n)].Nodup
      simp
      omega
    · subst e
      obtain ⟨u, hu, e⟩ := List.mem_map.mp hx
      have g := ok.good.1 u (List.mem_filter.mp hu).1
      have hy : x = (t.1, W.n) ∨ x = (t.2.1, W.n) := by simpa using hy
      have hx2 : x.2 = W.n := by rcases hy with rfl | rfl <;> rfl
      rw [← e] at hx2
      have hx2 : u.2.1 = W.n := hx2
      omega
section
variable {P : Program} {w : World} {K : PySem.W.Frag} {mg : Str → Option Value} {base : Heap}
def spLawMore (K : PySem.W.Frag) : Sp := fun vs H Q _ => ∃ b v c l, vs = [b, v, c, l] ∧ ∃ (a : Addr) (cn : Nat) (W : Web) (posts : List Nat), b = .ref a ∧ BoxAt H a cn ∧ cn ≤ 500000 ∧ Is Any (del H a) v (webD W) ∧ WOk W ∧ W.n ≤ 6 ∧ Is Any (del H a) c (natsD posts) ∧ POk W posts ∧ l = .int (leastW W posts) ∧
  ∀ H', Same (del H a) H' → BoxAt H' a (cn + 10) → Q (.bl true) H'
-- _law_more: 0=_law_box_here 1=_law_web_here 2=_law_posts_here 3=_law_least_here 4=_law_longer 5=_law_a 6=_law_b 7=_law_weight_here 8=_law_ties 9=_law_tie
theorem sc_law_more : FnScope ["_law_box_here", "_law_web_here", "_law_posts_here", "_law_least_here", "_law_longer", "_law_a", "_law_b", "_law_weight_here", "_law_ties", "_law_tie"] ["_law_box_here", "_law_web_here", "_law_posts_here", "_law_least_here"] (defScope sLawMore) := ⟨rfl, rfl, rfl, by decide +kernel, rfl, by decide +kernel, by decide +kernel⟩
theorem ok_law_more (T : Tx K mg) : DefOk P w K mg base "_law_more" 60 ["_law_box_here", "_law_web_here", "_law_posts_here", "_law_least_here"] (spLawMore K) := by
  have O_law_least := ok_law_least (P := P) (w := w) (base := base) T
  have O_law_take := ok_law_take (P := P) (w := w) (base := base) T
  refine DefOk.mk' T.g__law_more (fn_ok T.d__law_more sc_law_more (fun _ _ _ _ _ _ us hl => match us, hl with | [_, _, _, _], _ => rfl) (fun vs H Q E h => ?_) (fun cdv A outer s H vs Q E hr h => ?_))
  · obtain ⟨_, _, _, _, rfl, _⟩ := h
    rfl
  have hu := hu_of hr
  obtain ⟨v0, v1, v2, v3, rfl, h⟩ := h
  refine ⟨_, (pss_cons (ps_set (i := 4) sc_law_more.nd rfl (.inl rfl) (pe_op op_catA (pe_ix ix_tup (pv 1) pe_int (fun _ _ => rfl)) (pe_tup (pa_cons (pe_tup (pa_cons (pcall O_law_take (hr.mono (by decide)) (by rfl) (pa_cons (pv 0) (pa_cons (pe_ix ix_tup (pv 1) pe_int (fun _ _ => rfl)) pa_nil))) (pa_cons (pe_ix ix_tup (pv 1) pe_int (fun _ _ => rfl)) (pa_cons (pe_op op_add pe_int (pcall O_law_take (hr.mono (by decide)) (by rfl) (pa_cons (pv 0) (pa_cons pe_int pa_nil)))) pa_nil)))) pa_nil))))
     (pss_cons (ps_if (pt_cmpR op_ne (pcall O_law_least (hr.mono (by decide)) (by rfl) (pa_cons (pe_tup (pa_cons (pe_op op_add (pe_ix ix_tup (pv 1) pe_int (fun _ _ => rfl)) pe_int) (pa_cons (pe_callTy call_tuple_of (by rfl) T.f_tuple (by decide +kernel) (pa_cons (pe_callB (cr_sortDU hr.units) (by rfl) T.f_sorted (by decide +kernel) (pa_cons (pv 4) pa_nil)) pa_nil)) pa_nil))) (pa_cons (pv 2) pa_nil))) (pv 3) (nomark _))
     (pss_one (ps_ret pe_bl))
     pss_nil)
     (pss_cons (ps_if (pt_cmpR (op_eqD hr.units) (pe_ix ix_tup (pv 1) pe_int (fun _ _ => rfl)) (pe_tup pa_nil) (nomark _))
     (pss_one (ps_ret pe_bl))
     pss_nil)
     (pss_cons (ps_asg (pe_ix ix_tup (pe_ix ix_tup (pv 1) pe_int (fun _ _ => rfl)) (pcall O_law_take (hr.mono (by decide)) (by rfl) (pa_cons (pv 0) (pa_cons (pe_callB call_len_seq (by rfl) T.f_len (by decide +kernel) (pa_cons (pe_ix ix_tup (pv 1) pe_int (fun _ _ => rfl)) pa_nil)) pa_nil))) (fun _ _ => rfl)) (pg_tup rfl (pgs_cons (pg_name (i := 5) sc_law_more.nd rfl (.inr rfl) (.inl rfl)) (pgs_cons (pg_name (i := 6) sc_law_more.nd rfl (.inr rfl) (.inl rfl)) (pgs_cons (pg_name (i := 7) sc_law_more.nd rfl (.inr rfl) (.inl rfl)) pgs_nil)))))
     (pss_cons (ps_set (i := 8) sc_law_more.nd rfl (.inl rfl) (pe_op op_cat (pe_lc (own := [("_law_tie", 9)]) (g := (gName 9)) (tt := (tTest (tOp (rNeD K) (tVar 9) (tTup (tCons (tVar 5) (tCons (tVar 6) (tCons (tVar 7) tNil))))))) (te := (tVar 9)) rfl sc_law_more.nd (pi_tup (pe_ix ix_tup (pv 1) pe_int (fun _ _ => rfl))) (blkOk_by (N := ["_law_box_here", "_law_web_here", "_law_posts_here", "_law_least_here", "_law_longer", "_law_a", "_law_b", "_law_weight_here", "_law_ties", "_law_tie"]) (sc := defScope sLawMore) (by decide +kernel)) (fun _ _ _ _ _ => (pg_name (i := 9) sc_law_more.nd rfl (.inl rfl) (.inr rfl))) (fun _ _ _ _ _ => (pts_one (pt_cmpR (op_neD hr.units) (pv 9) (pe_tup (pa_cons (pv 5) (pa_cons (pv 6) (pa_cons (pv 7) pa_nil)))) (nomark _)))) (fun _ _ _ _ _ => (pv 9))) (pe_lst (pa_cons (pe_tup (pa_cons (pv 5) (pa_cons (pe_ix ix_tup (pv 1) pe_int (fun _ _ => rfl)) (pa_cons (pv 7) pa_nil)))) (pa_cons (pe_tup (pa_cons (pv 6) (pa_cons (pe_ix ix_tup (pv 1) pe_int (fun _ _ => rfl)) (pa_cons (pv 7) pa_nil)))) pa_nil)))))
     (pss_one (ps_ret (pe_cmpR op_eq (pcall O_law_least (hr.mono (by decide)) (by rfl) (pa_cons (pe_tup (pa_cons (pe_op op_add (pe_ix ix_tup (pv 1) pe_int (fun _ _ => rfl)) pe_int) (pa_cons (pe_callTy call_tuple_of (by rfl) T.f_tuple (by decide +kernel) (pa_cons (pe_callB (cr_sortD hr.units) (by rfl) T.f_sorted (by decide +kernel) (pa_cons (pv 8) pa_nil)) pa_nil)) pa_nil))) (pa_cons (pv 2) pa_nil))) (pv 3) (nomark _))))))))), ?_⟩
  obtain ⟨a, cn, W, posts, rfl, hbox, hcn, hw, ok, hn6, hp, pok, rfl, q⟩ := h
  have n0 := ok.n0
  have ts1 := ok.len
  have pl := pok.len
  obtain ⟨pw, pq, xs, rfl, hw1, hw2, hx⟩ := is_web hw
  have elx := hx.map_len
  have pok1 : ∀ ts, POk ⟨W.n + 1, ts⟩ posts := fun ts => ⟨pok.nd, pok.ne, fun q hq => by have := pok.lt q hq; show q < W.n + 1; omega⟩
  have ds := del_same (H := H) (p := a)
  refine ⟨_, rfl, pw, _, 1, .ref pq, rfl, rfl, SqT.of (ds _ _ hw1), rfl, ?_⟩
  refine ⟨_, rfl, _, rfl, pw, _, 0, nv W.n, rfl, rfl, SqT.of (ds _ _ hw1), rfl, _, _, rfl, a, cn, W.n, rfl, hbox, by omega, rfl, by omega, by omega, fun p0 hp0 H1 s1 hb1 => ?_⟩
  refine ⟨_, rfl, pw, _, 0, nv W.n, rfl, rfl, SqT.of (s1 _ _ hw1), rfl, ?_⟩
  refine ⟨_, rfl, _, _, rfl, a, cn + 1, 9, rfl, hb1, by omega, rfl, by decide, by decide, fun r1 hr1 H2 s2 hb2 => ⟨_, _, rfl, rfl, sz3, fun t1 ht1 => ?_⟩⟩
  have s12 := same_box s1 s2
  have st1 := same_upd (o := .tup [nv p0, nv W.n, .int (1 + (r1 : Int))]) ht1
  have ht1' : upd H2 t1 (.tup [nv p0, nv W.n, .int (1 + (r1 : Int))]) t1 = some (.tup [nv p0, nv W.n, .int (1 + (r1 : Int))]) := upd_same
  have hb3 := hb2.same st1
  have s3 := s12.trans st1
  generalize upd H2 t1 (.tup [nv p0, nv W.n, .int (1 + (r1 : Int))]) = H3 at *
  refine ⟨sz1, fun t2 ht2 => ?_⟩
  have st2 := same_upd (o := .tup [.ref t1]) ht2
  refine catA_go (st2 _ _ (s3 _ _ hw2)) upd_same (by simp) (small (by show xs.length + 1 ≤ _; omega)) fun lo H5 s5 hlo => ?_
  have s35 := st2.trans s5
  have s05 := s3.trans s35
  have hb5 := hb3.same s35
  have ilo : IsAll Any H5 (xs ++ [.ref t1]) ((W.ts ++ [(p0, W.n, 1 + (r1 : Int))]).map tieD) := by
    rw [List.map_append]
    exact (hx.same s05).snoc (is_tie' (t := (p0, W.n, 1 + (r1 : Int))) (s35 _ _ ht1'))
  refine ⟨_, rfl, pw, _, 0, nv W.n, rfl, rfl, SqT.of (s05 _ _ hw1), rfl, _, _, rfl, rfl, ?_⟩
  refine ⟨_, rfl, lo, _, _, rfl, hlo, ilo, fun zs sp hz hz2 hsp => ?_⟩
  have ss := same_upd (o := .lst (zs.map fun z => V.ref z.1)) hsp
  refine ⟨sp, _, rfl, .inl ⟨SqL.of upd_same, fun l2 hl2 => ⟨sz2, fun ow how => ?_⟩⟩⟩
  have s57 := (ss.trans (same_upd (o := .tup (zs.map fun z => V.ref z.1)) hl2)).trans (same_upd (o := .tup [.int ((W.n : Int) + 1), .ref l2]) how)
  have w7 : Is Any (upd (upd (upd H5 sp (.lst (zs.map fun z => V.ref z.1))) l2 (.tup (zs.map fun z => V.ref z.1))) ow (.tup [.int ((W.n : Int) + 1), .ref l2])) (.ref ow) (webD ⟨W.n + 1, zs.map Prod.snd⟩) :=
    is_web' (W := ⟨W.n + 1, zs.map Prod.snd⟩) upd_same (same_upd how _ _ upd_same) (ties_all s57 zs hz2)
  generalize upd (upd (upd H5 sp (.lst (zs.map fun z => V.ref z.1))) l2 (.tup (zs.map fun z => V.ref z.1))) ow (.tup [.int ((W.n : Int) + 1), .ref l2]) = H7 at *
  have s07 := s05.trans s57
  have g3 := good_perm (hang_good ok hp0 (by omega : (1 : Int) ≤ 1 + (r1 : Int))) hz
  have ok3 : WOk ⟨W.n + 1, zs.map Prod.snd⟩ := ⟨g3, by show 1 ≤ W.n + 1; omega, by show W.n + 1 ≤ 7; omega, by
    have h1 := good_len g3
    have h2 : (W.n + 1) * (W.n + 1) ≤ 7 * 7 := Nat.mul_le_mul (by omega) (by omega)
    show (zs.map Prod.snd).length ≤ 200
    omega⟩
  refine ⟨_, rfl, _, _, rfl, _, posts, w7, ok3, hp.same s07, pok1 _, fun H8 s8 => ?_⟩
  have hl3 : leastW ⟨W.n + 1, zs.map Prod.snd⟩ posts = leastW W posts := hang_least ok ok3 pok (pok1 _) (a := p0) (w := 1 + (r1 : Int)) rfl hp0 (by omega) fun dd => by
    show wsum (zs.map Prod.snd) dd = _
    rw [wsum_perm hz, wsum_append, wsum_cons, wsum_nil, Int.add_zero]
  refine ⟨_, rfl, rfl, _, rfl, ?_⟩
  rw [hl3, eq_ints, decide_eq_true rfl]
  refine ifF rfl ?_
  have s08 := s07.trans s8
  have hb8 := (hb5.same s57).same s8
  refine ⟨_, rfl, pw, _, 1, .ref pq, rfl, rfl, SqT.of (s08 _ _ hw1), rfl, sz0, fun e0 he0 => ?_⟩
  have se := same_upd (o := .tup []) he0
  have s09 := s08.trans se
  have hb9 := hb8.same se
  refine ⟨.tuple (W.ts.map tieD), .tuple [], Is.dp (φ := Any) (.tup (s09 _ _ hw2) (hx.same s09)), Is.dp (φ := Any) (.tup upd_same .nil), shaped_ties _, shaped_tuple (by simp), _, rfl, ?_⟩
  generalize upd H8 e0 (.tup []) = H9 at *
  refine ifB (fun e => q _ s09 (hb9.mono (by omega))) fun e => ?_
  have hne : W.ts ≠ [] := fun z => by rw [z] at e; cases e
  have hlen : 0 < W.ts.length := List.length_pos_iff.mpr hne
  refine ⟨_, rfl, pw, _, 1, .ref pq, rfl, rfl, SqT.of (s09 _ _ hw1), rfl, ?_⟩
  refine ⟨_, rfl, _, rfl, pw, _, 1, .ref pq, rfl, rfl, SqT.of (s09 _ _ hw1), rfl, pq, _, rfl, .inr (SqT.of (s09 _ _ hw2)), ?_⟩
  refine ⟨_, _, rfl, a, cn + 2, W.ts.length, rfl, hb9, by omega, by rw [elx], by omega, by omega, fun r2 hr2 H10 s10 hb10 => ?_⟩
  have s010 := same_box s09 s10
  obtain ⟨vt, e2, hvt⟩ := hx.map_at (List.getElem?_eq_getElem hr2)
  obtain ⟨tb, rfl, htb⟩ := is_tie (hvt.same s010)
  have ht0 : W.ts[r2] ∈ W.ts := List.getElem_mem _
  generalize W.ts[r2] = t0 at *
  refine ⟨pq, _, _, _, rfl, rfl, SqT.of (s010 _ _ hw2), ix_nat e2, tb, _, rfl, SqT.of htb, rfl, _, _, rfl, _, _, rfl, _, _, rfl, rfl, ?_⟩
  refine ⟨_, rfl, pw, _, 1, .ref pq, rfl, rfl, SqT.of (s010 _ _ hw1), rfl, pq, rfl, ⟨_, SqT.of (s010 _ _ hw2)⟩, fun D hD => ?_⟩
  refine lc_T W.ts tieD (fun y => if decide (y ≠ t0) = true then some (tieD y) else none) (s010 _ _ hw2) (hx.same s010) hD (by omega) ?_ ?_
  · intro x y H11 hy0 s11 hy Kont Skip k1 k2
    refine ⟨rfl, _, rfl, _, rfl, _, rfl, _, rfl, sz3, fun p hp => ?_⟩
    have sp := same_upd (o := .tup [nv t0.1, nv t0.2.1, .int t0.2.2]) hp
    refine ⟨tieD y, tieD t0, Is.dp (hy.same sp), Is.dp (φ := Any) (is_tie' upd_same), shaped_tie _, shaped_tie _, _, rfl, ?_⟩
    rw [eqv_tie]
    refine ifB (fun e => ⟨_, rfl, ?_⟩) fun e => k2 _ sp (if_neg (by rw [e]; exact Bool.false_ne_true))
    obtain ⟨yb, rfl, hyb⟩ := is_tie hy
    exact k1 _ _ _ sp (if_pos e) (is_tie' (sp _ _ hyb))
  intro H11 s11 h11
  rw [filterMap_if] at h11
  obtain ⟨D', ys, e, _, hD11, hy11⟩ := is_list h11
  cases e
  have s011 := s010.trans s11
  have hb11 := hb10.same s11
  have lf : (W.ts.filter fun y => decide (y ≠ t0)).length ≤ W.ts.length := List.length_filter_le ..
  have ly := hy11.map_len
  refine ⟨_, rfl, _, rfl, pw, _, 0, nv W.n, rfl, rfl, SqT.of (s011 _ _ hw1), rfl, _, rfl, sz3, fun u1 hu1 => ?_⟩
  have su1 := same_upd (o := .tup [nv t0.1, nv W.n, .int t0.2.2]) hu1
  have hu1' : upd H11 u1 (.tup [nv t0.1, nv W.n, .int t0.2.2]) u1 = some (.tup [nv t0.1, nv W.n, .int t0.2.2]) := upd_same
  generalize upd H11 u1 (.tup [nv t0.1, nv W.n, .int t0.2.2]) = H12 at *
  refine ⟨_, rfl, _, rfl, pw, _, 0, nv W.n, rfl, rfl, SqT.of ((s011.trans su1) _ _ hw1), rfl, _, rfl, sz3, fun u2 hu2 => ?_⟩
  have su2 := same_upd (o := .tup [nv t0.2.1, nv W.n, .int t0.2.2]) hu2
  have hu2' : upd H12 u2 (.tup [nv t0.2.1, nv W.n, .int t0.2.2]) u2 = some (.tup [nv t0.2.1, nv W.n, .int t0.2.2]) := upd_same
  generalize upd H12 u2 (.tup [nv t0.2.1, nv W.n, .int t0.2.2]) = H13 at *
  refine ⟨sz2, fun u3 hu3 => ?_⟩
  have su3 := same_upd (o := .lst [.ref u1, .ref u2]) hu3
  have s1114 := (su1.trans su2).trans su3
  refine ⟨D, u3, _, _, rfl, rfl, s1114 _ _ hD11, upd_same, small (by show ys.length + 2 ≤ _; omega), fun tl htl => ?_⟩
  have stl := same_upd (o := .lst (ys ++ [.ref u1, .ref u2])) htl
  have s1115 := s1114.trans stl
  have itl : IsAll Any (upd (upd H13 u3 (.lst [.ref u1, .ref u2])) tl (.lst (ys ++ [.ref u1, .ref u2]))) (ys ++ [.ref u1, .ref u2]) (((W.ts.filter fun y => decide (y ≠ t0)) ++ [(t0.1, W.n, t0.2.2), (t0.2.1, W.n, t0.2.2)]).map tieD) := by
    rw [List.map_append]
    refine (hy11.any.same s1115).append (.cons (is_tie' (t := (t0.1, W.n, t0.2.2)) (((su2.trans su3).trans stl) _ _ hu1')) (.cons (is_tie' (t := (t0.2.1, W.n, t0.2.2)) ((su3.trans stl) _ _ hu2')) .nil))
  have htl' : upd (upd H13 u3 (.lst [.ref u1, .ref u2])) tl (.lst (ys ++ [.ref u1, .ref u2])) tl = some (.lst (ys ++ [.ref u1, .ref u2])) := upd_same
  generalize upd (upd H13 u3 (.lst [.ref u1, .ref u2])) tl (.lst (ys ++ [.ref u1, .ref u2])) = H15 at *
  have s015 := s011.trans s1115
  have hb15 := hb11.same s1115
  obtain ⟨zs4, e1, e2', e3⟩ := zs_of itl
  refine ⟨_, rfl, pw, _, 0, nv W.n, rfl, rfl, SqT.of (s015 _ _ hw1), rfl, _, _, rfl, rfl, ?_⟩
  refine ⟨_, rfl, tl, zs4.map fun z => (z.1, tieD z.2), rfl, ?_, ?_, ?_, fun zs5 sp2 hz5 hsp2 => ?_⟩
  · rw [List.map_map]
    show H15 tl = some (.lst (zs4.map Prod.fst))
    rw [e1]
    exact htl'
  · intro y hy
    obtain ⟨y', hy', rfl⟩ := List.mem_map.mp hy
    exact e3 y' hy'
  · rw [List.map_map]
    show SortOk (zs4.map (tieD ∘ Prod.snd))
    rw [← List.map_map]
    exact ties_sort _
  obtain ⟨zs6, h6, rfl⟩ := perm_zs hz5
  rw [List.map_map]
  have ss2 := same_upd (o := .lst (zs6.map ((fun x : V × PyData => x.1) ∘ fun z : V × Tie => (z.1, tieD z.2)))) hsp2
  refine ⟨sp2, _, rfl, .inl ⟨SqL.of upd_same, fun l3 hl3 => ⟨sz2, fun ow2 how2 => ?_⟩⟩⟩
  have s1517 := (ss2.trans (same_upd (o := .tup (zs6.map ((fun x : V × PyData => x.1) ∘ fun z : V × Tie => (z.1, tieD z.2)))) hl3)).trans (same_upd (o := .tup [.int ((W.n : Int) + 1), .ref l3]) how2)
  have i6 : IsAll Any H15 (zs6.map Prod.fst) ((zs6.map Prod.snd).map tieD) := isAll_zs fun z hz => e3 z (h6.mem_iff.mp hz)
  have hz7 : (zs6.map Prod.snd).Perm ((W.ts.filter fun y => decide (y ≠ t0)) ++ [(t0.1, W.n, t0.2.2), (t0.2.1, W.n, t0.2.2)]) := (h6.map Prod.snd).trans (by rw [e2'])
  have g4 := good_perm (split_good ok ht0) hz7
  have ok4 : WOk ⟨W.n + 1, zs6.map Prod.snd⟩ := ⟨g4, by show 1 ≤ W.n + 1; omega, by show W.n + 1 ≤ 7; omega, by
    have h1 := good_len g4
    have h2 : (W.n + 1) * (W.n + 1) ≤ 7 * 7 := Nat.mul_le_mul (by omega) (by omega)
    show (zs6.map Prod.snd).length ≤ 200
    omega⟩
  have hl4 : leastW ⟨W.n + 1, zs6.map Prod.snd⟩ posts = leastW W posts := split_least ok ok4 pok (pok1 _) ht0 rfl fun dd => by
    show wsum (zs6.map Prod.snd) dd + _ = _
    have := wsum_without dd ok.good.2 ht0
    rw [wsum_perm hz7, wsum_append, wsum_cons, wsum_cons, wsum_nil]
    dsimp only
    omega
  refine ⟨_, rfl, _, _, rfl, ⟨W.n + 1, zs6.map Prod.snd⟩, posts, is_web' (W := ⟨W.n + 1, zs6.map Prod.snd⟩) upd_same (same_upd how2 _ _ upd_same) (i6.same s1517), ok4, hp.same (s015.trans s1517), pok1 _, fun H18 s18 => ⟨_, rfl, rfl, ?_⟩⟩
  rw [hl4, eq_ints, decide_eq_true rfl]
  exact q H18 ((s015.trans s1517).trans s18) (((hb15.same s1517).same s18).mono (by omega))
end
end PW
set_option Elab.async false
set_option linter.all false
set_option maxRecDepth 100000
set_option maxHeartbeats 4000000
namespace PW
open PySem PySem.Spec PyProof.Rows L2
theorem eqv_pair (p q : Nat × Nat) : PyData.eqv (pairD p) (pairD q) = decide (p = q) := by
  have e : PyData.eqv (pairD p) (pairD q) = (((p.1 : Int) == (q.1 : Int)) && (((p.2 : Int) == (q.2 : Int)) && true)) := rfl
  rw [e, Bool.eq_iff_iff]
  simp only [Bool.and_eq_true, beq_iff_eq, decide_eq_true_eq, and_true]
  constructor
  · rintro ⟨h1, h2⟩
    exact Prod.ext (by omega) (by omega)
  · rintro rfl
    exact ⟨rfl, rfl⟩
theorem any_pairs (l : List (Nat × Nat)) (q : Nat × Nat) : ((l.map pairD).any fun z => PyData.eqv z (pairD q)) = decide (q ∈ l) := by
  rw [Bool.eq_iff_iff, List.any_eq_true, decide_eq_true_iff]
  constructor
  · rintro ⟨z, hz, e⟩
    obtain ⟨p, hp, rfl⟩ := List.mem_map.mp hz
    rw [eqv_pair] at e
    exact of_decide_eq_true e ▸ hp
  · intro h
    exact ⟨pairD q, List.mem_map.mpr ⟨q, h, rfl⟩, by rw [eqv_pair]; exact decide_eq_true rfl⟩
theorem shaped_pair (p : Nat × Nat) : SeqAt.shaped (pairD p) = true := shaped_tuple fun d hd => by
  simp at hd
  rcases hd with rfl | rfl <;> exact ⟨rfl, by show 0 ≤ 5; omega⟩
theorem pr_inj {ts : List Tie} (nd : (ts.map pr).Nodup) {s t : Tie} (hs : s ∈ ts) (ht : t ∈ ts) (e : pr s = pr t) : s = t := by
  induction ts with
  | nil => cases hs
  | cons u ts ih =>
    rw [List.map_cons, List.nodup_cons] at nd
    rcases List.mem_cons.mp hs with h1 | h1
    · rcases List.mem_cons.mp ht with h2 | h2
      · rw [h1, h2]
      · exact absurd (List.mem_map.mpr ⟨t, h2, by rw [← e, h1]⟩) nd.1
    · rcases List.mem_cons.mp ht with h2 | h2
      · exact absurd (List.mem_map.mpr ⟨s, h1, by rw [e, h2]⟩) nd.1
      · exact ih nd.2 h1 h2
theorem mem_filter_pr {ts : List Tie} (nd : (ts.map pr).Nodup) (p : Tie → Bool) {t : Tie} (ht : t ∈ ts) : pr t ∈ (ts.filter p).map pr ↔ p t = true := by
  constructor
  · intro h
    obtain ⟨u, hu, e⟩ := List.mem_map.mp h
    rw [List.mem_filter] at hu
    rw [← pr_inj nd hu.1 ht e]
    exact hu.2
  · intro h
    exact List.mem_map.mpr ⟨t, List.mem_filter.mpr ⟨ht, h⟩, rfl⟩
theorem mem_cutL {ts : List Tie} (nd : (ts.map pr).Nodup) (f : Nat → Nat) {t : Tie} (ht : t ∈ ts) : pr t ∈ cutL ts f ↔ f t.1 ≠ f t.2.1 := by
  unfold cutL
  rw [mem_filter_pr nd (fun t => f t.1 != f t.2.1) ht]
  exact bne_iff_ne
theorem cur_bound {W : Web} (ok : WOk W) (hb : ∀ t ∈ W.ts, t.2.2 ≤ 1000000000) (q : Nat × Nat) : 0 ≤ curW W.ts q ∧ curW W.ts q ≤ 1000000000 := by
  by_cases h : q ∈ W.ts.map pr
  · obtain ⟨t, ht, rfl⟩ := List.mem_map.mp h
    rw [curW_at ok.good.2 t ht]
    have := ok.good.1 t ht
    have := hb t ht
    omega
  · rw [curW_not h]
    omega
theorem often_iff {W : Web} {posts : List Nat} (t : Tie) : (oftenL W posts t == (leastR W posts).length) = true ↔ ∀ r ∈ leastR W posts, fR (ordO W posts) posts r t.1 ≠ fR (ordO W posts) posts r t.2.1 := by
  rw [beq_iff_eq]
  unfold oftenL
  rw [filter_all]
  constructor
  · intro h r hr
    exact bne_iff_ne.mp (h r hr)
  · intro h r hr
    exact bne_iff_ne.mpr (h r hr)
section
variable {P : Program} {w : World} {K : PySem.W.Frag} {mg : Str → Option Value} {base : Heap}
def spLawTiesRight (K : PySem.W.Frag) : Sp := fun vs H Q _ => ∃ b v c d e, vs = [b, v, c, d, e] ∧ ∃ (a : Addr) (cn : Nat) (W : Web) (posts r : List Nat) (tp : Addr) (cb tr : V), b = .ref a ∧ BoxAt H a cn ∧ cn ≤ 500000 ∧ Is Any (del H a) v (webD W) ∧ WOk W ∧ (∀ t ∈ W.ts, t.2.2 ≤ 1000000000) ∧ Is Any (del H a) c (natsD posts) ∧ POk W posts ∧ r ∈ leastR W posts ∧
  d = .ref tp ∧ del H a tp = some (.tup [.int (leastW W posts), cb, tr]) ∧ Is Any (del H a) cb (.list ((tellC W posts r).map pairD)) ∧ Is Any (del H a) e (tupD (tellL W posts r)) ∧
  ∀ H', Same (del H a) H' → BoxAt H' a (cn + 200) → Q (.bl true) H'
-- _law_ties_right: 0=_law_box_here 1=_law_web_here 2=_law_posts_here 3=_law_told 4=_law_owners 5=_law_least_here 6=_law_a 7=_law_b 8=_law_always 9=_law_weight_here 10=_law_more_here 11=_law_fewer
theorem sc_law_ties_right : FnScope ["_law_box_here", "_law_web_here", "_law_posts_here", "_law_told", "_law_owners", "_law_least_here", "_law_a", "_law_b", "_law_always", "_law_weight_here", "_law_more_here", "_law_fewer"] ["_law_box_here", "_law_web_here", "_law_posts_here", "_law_told", "_law_owners"] (defScope sLawTiesRight) := ⟨rfl, rfl, rfl, by decide +kernel, rfl, by decide +kernel, by decide +kernel⟩
theorem ok_law_ties_right (T : Tx K mg) : DefOk P w K mg base "_law_ties_right" 60 ["_law_box_here", "_law_web_here", "_law_posts_here", "_law_told", "_law_owners"] (spLawTiesRight K) := by
  have O_law_least := ok_law_least (P := P) (w := w) (base := base) T
  have O_law_take := ok_law_take (P := P) (w := w) (base := base) T
  have O_law_weighed := ok_law_weighed (P := P) (w := w) (base := base) T
  have O_always_cut := ok_always_cut (P := P) (w := w) (base := base) T
  refine DefOk.mk' T.g__law_ties_right (fn_ok T.d__law_ties_right sc_law_ties_right (fun _ _ _ _ _ _ us hl => match us, hl with | [_, _, _, _, _], _ => rfl) (fun vs H Q E h => ?_) (fun cdv A outer s H vs Q E hr h => ?_))
  · obtain ⟨_, _, _, _, _, rfl, _⟩ := h
    rfl
  have hu := hu_of hr
  obtain ⟨v0, v1, v2, v3, v4, rfl, h⟩ := h
  refine ⟨_, (pss_cons (ps_set (i := 5) sc_law_ties_right.nd rfl (.inl rfl) (pe_ix ix_tup (pv 3) pe_int (fun _ _ => rfl)))
     (pss_cons (ps_for PassesOwn.never rfl (pi_range1 rfl T.f_range (pa_cons (pe_ix ix_tup (pv 1) pe_int (fun _ _ => rfl)) pa_nil)) (pg_name (i := 6) sc_law_ties_right.nd rfl (.inl rfl) (.inl rfl))
     (pss_one (ps_for PassesOwn.never rfl (pi_range2 rfl T.f_range (pa_cons (pe_op op_add (pv 6) pe_int) (pa_cons (pe_ix ix_tup (pv 1) pe_int (fun _ _ => rfl)) pa_nil))) (pg_name (i := 7) sc_law_ties_right.nd rfl (.inl rfl) (.inl rfl))
     (pss_one (ps_if (PW.pt (pw_and (pt_cmpR op_eq (pe_ix ix_tup (pv 4) (pv 6) (fun _ _ => rfl)) (pe_ix ix_tup (pv 4) (pv 7) (fun _ _ => rfl)) (nomark _)) (pw_and1 (pt_cmpR op_eq (pcall O_law_take (hr.mono (by decide)) (by rfl) (pa_cons (pv 0) (pa_cons pe_int pa_nil))) pe_int (nomark _)))))
     (pss_one (ps_if (pt_cmpR op_ne (pcall O_law_least (hr.mono (by decide)) (by rfl) (pa_cons (pcall O_law_weighed (hr.mono (by decide)) (by rfl) (pa_cons (pv 1) (pa_cons (pv 6) (pa_cons (pv 7) (pa_cons (pe_op op_add pe_int (pcall O_law_take (hr.mono (by decide)) (by rfl) (pa_cons (pv 0) (pa_cons pe_int pa_nil)))) pa_nil))))) (pa_cons (pv 2) pa_nil))) (pv 5) (nomark _))
     (pss_one (ps_ret pe_bl))
     pss_nil))
     pss_nil)))))
     (pss_cons (ps_set (i := 8) sc_law_ties_right.nd rfl (.inl rfl) (pcall O_always_cut (hr.mono (by decide)) (by rfl) (pa_cons (pv 1) (pa_cons (pv 2) pa_nil))))
     (pss_cons (ps_for PassesOwn.never rfl (pi_tup (pe_ix ix_tup (pv 1) pe_int (fun _ _ => rfl))) (pg_tup rfl (pgs_cons (pg_name (i := 6) sc_law_ties_right.nd rfl (.inl rfl) (.inl rfl)) (pgs_cons (pg_name (i := 7) sc_law_ties_right.nd rfl (.inl rfl) (.inl rfl)) (pgs_cons (pg_name (i := 9) sc_law_ties_right.nd rfl (.inl rfl) (.inl rfl)) pgs_nil))))
     (pss_cons (ps_set (i := 10) sc_law_ties_right.nd rfl (.inl rfl) (pe_op op_sub (pcall O_law_least (hr.mono (by decide)) (by rfl) (pa_cons (pcall O_law_weighed (hr.mono (by decide)) (by rfl) (pa_cons (pv 1) (pa_cons (pv 6) (pa_cons (pv 7) (pa_cons pe_int pa_nil))))) (pa_cons (pv 2) pa_nil))) (pv 5)))
     (pss_cons (ps_if (PW.pt (pw_and (pt_cmpR op_lt (pv 9) (pe_op op_pow pe_int pe_int) (nomark _)) (pw_and1 (pt_cmpR op_ne (pv 10) (pe_callTy call_int1 (by rfl) T.f_int (by decide +kernel) (pa_cons (pe_cmpR (op_inD (hu65 hr)) (pe_tup (pa_cons (pv 6) (pa_cons (pv 7) pa_nil))) (pv 8) (by rfl)) pa_nil)) (nomark _)))))
     (pss_one (ps_ret pe_bl))
     pss_nil)
     (pss_cons (ps_set (i := 11) sc_law_ties_right.nd rfl (.inl rfl) (pcall O_law_least (hr.mono (by decide)) (by rfl) (pa_cons (pcall O_law_weighed (hr.mono (by decide)) (by rfl) (pa_cons (pv 1) (pa_cons (pv 6) (pa_cons (pv 7) (pa_cons (pe_op op_mul (pe_un un_neg pe_int) (pe_callTy call_int1 (by rfl) T.f_int (by decide +kernel) (pa_cons (pe_cmpR (op_inD (hu65 hr)) (pe_tup (pa_cons (pv 6) (pa_cons (pv 7) pa_nil))) (pe_ix ix_tup (pv 3) pe_int (fun _ _ => rfl)) (by rfl)) pa_nil))) pa_nil))))) (pa_cons (pv 2) pa_nil))))
     (pss_one (ps_if (pt_cmpR op_ne (pv 11) (pe_op op_sub (pv 5) (pe_callTy call_int1 (by rfl) T.f_int (by decide +kernel) (pa_cons (pe_cmpR (op_inD (hu65 hr)) (pe_tup (pa_cons (pv 6) (pa_cons (pv 7) pa_nil))) (pe_ix ix_tup (pv 3) pe_int (fun _ _ => rfl)) (by rfl)) pa_nil))) (nomark _))
     (pss_one (ps_ret pe_bl))
     pss_nil))))))
     (pss_one (ps_ret pe_bl)))))), ?_⟩
  obtain ⟨a, cn, W, posts, r, tp, cb, tr, rfl, hbox, hcn, hw, ok, hwb, hp, pok, hr0, rfl, htp, hcb, how, q⟩ := h
  have n1 := ok.n1
  have n0 := ok.n0
  have ts1 := ok.len
  have nd := ok.good.2
  obtain ⟨pw, pq, xs, rfl, hw1, hw2, hx⟩ := is_web hw
  obtain ⟨ob, rfl, hob⟩ := is_tnats how
  have ds := del_same (H := H) (p := a)
  have m0 := (mem_leastR ok pok).mp hr0
  have o0 := fR_owns pok m0.1
  have tl := tell_len W posts r
  have pokW : ∀ W' : Web, W'.n = W.n → POk W' posts := fun W' h => ⟨pok.nd, pok.ne, fun p hp => by rw [h]; exact pok.lt p hp⟩
  refine ⟨_, rfl, tp, _, 0, .int (leastW W posts), rfl, rfl, SqT.of (ds _ _ htp), rfl, ?_⟩
  refine ⟨_, rfl, pw, _, 0, nv W.n, rfl, rfl, SqT.of (ds _ _ hw1), rfl, _, rfl, by omega, by omega, ?_⟩
  rw [Int.toNat_natCast]
  refine for_R (fun i σ H2 => ∃ x6 x7 : Option V, σ = [some (.ref a), some (.ref pw), some v2, some (.ref tp), some (.ref ob), some (.int (leastW W posts)), x6, x7, none, none, none, none] ∧ Same (del H a) H2 ∧ BoxAt H2 a (cn + 14 * i)) ⟨_, _, rfl, ds, hbox⟩ ?_ ?_
  · rintro i _ H2 hi ⟨x6, x7, rfl, s2, hb2⟩
    refine ⟨_, rfl, _, _, rfl, rfl, _, rfl, pw, _, 0, nv W.n, rfl, rfl, SqT.of (s2 _ _ hw1), rfl, _, _, rfl, ⟨by omega, by omega, by omega, by omega⟩, ?_⟩
    have en : ((W.n : Int) - ((i : Int) + 1)).toNat = W.n - (i + 1) := by omega
    rw [en]
    refine for_range (fun k σ H3 => ∃ x7 : Option V, σ = [some (.ref a), some (.ref pw), some v2, some (.ref tp), some (.ref ob), some (.int (leastW W posts)), some (nv i), x7, none, none, none, none] ∧ Same (del H a) H3 ∧ BoxAt H3 a (cn + 14 * i + 2 * k)) ⟨_, rfl, s2, hb2⟩ ?_ ?_
    · rintro k _ H3 hk ⟨x7, rfl, s3, hb3⟩
      have ei : ((i : Int) + 1 + (k : Int)) = ((i + 1 + k : Nat) : Int) := by omega
      rw [ei]
      have hj : i + 1 + k < W.n := by omega
      generalize hjj : i + 1 + k = j at *
      have hij : i < j := by omega
      refine ⟨_, rfl, _, rfl, ob, _, _, _, rfl, rfl, SqT.of (s3 _ _ hob), at_nats (by omega), _, rfl, _, rfl, ob, _, _, _, rfl, rfl, SqT.of (s3 _ _ hob), at_nats (by omega), rfl, _, rfl, ?_⟩
      rw [eq_nats, tell_get hi, tell_get hj]
      refine ifB (fun e => ?_) fun e => ?_
      · have hf : fR (ordO W posts) posts r i = fR (ordO W posts) posts r j := beq_iff_eq.mp e
        refine ⟨_, rfl, _, _, rfl, a, _, 3, rfl, hb3, by omega, rfl, by decide, by decide, fun r1 hr1 H4 s4 hb4 => ⟨rfl, _, rfl, ?_⟩⟩
        have s04 := same_box s3 s4
        refine ifB (fun e1 => ?_) fun e1 => ?_
        · refine ⟨_, rfl, _, rfl, _, rfl, _, rfl, _, _, rfl, a, _, 9, rfl, hb4, by omega, rfl, by decide, by decide, fun r2 hr2 H5 s5 hb5 => ?_⟩
          have s05 := same_box s04 s5
          have cb0 := cur_bound ok hwb (i, j)
          refine ⟨_, _, rfl, rfl, _, _, _, _, rfl, W, i, j, 1 + (r2 : Int), hw.same s05, ok, rfl, rfl, rfl, hij, hj, by omega, fun W' hn ok' hs r6 H6 s6 h6 => ?_⟩
          have s06 := s05.trans s6
          refine ⟨_, rfl, _, _, rfl, W', posts, h6.any, ok', hp.same s06, pokW W' hn, fun H7 s7 => ⟨_, rfl, rfl, _, rfl, ?_⟩⟩
          have hl : leastW W' posts = leastW W posts := weighed_same ok ok' pok (pokW W' hn) hs o0 m0.2 (.inl ⟨by omega, hf⟩)
          rw [hl, eq_ints, decide_eq_true rfl]
          refine ifF rfl ⟨_, rfl, s06.trans s7, ?_⟩
          exact ((hb5.same s6).same s7).mono (by omega)
        · exact ⟨_, rfl, s04, hb4.mono (by omega)⟩
      · exact ⟨_, rfl, s3, hb3.mono (by omega)⟩
    · rintro _ H3 ⟨x7, rfl, s3, hb3⟩
      exact ⟨_, _, rfl, s3, hb3.mono (by omega)⟩
  rintro _ H2 ⟨x6, x7, rfl, s2, hb2⟩
  refine ⟨_, rfl, _, rfl, _, _, rfl, W, posts, hw.same s2, ok, hp.same s2, pok, fun al H3 s3 hal => ?_⟩
  have s03 := s2.trans s3
  have ea : ((W.ts.filter fun t => oftenL W posts t == (leastR W posts).length).map fun t => pairD (pr t)) = ((W.ts.filter fun t => oftenL W posts t == (leastR W posts).length).map pr).map pairD := by rw [List.map_map]; rfl
  rw [ea] at hal
  have hb3 := hb2.same s3
  refine ⟨_, rfl, pw, _, 1, .ref pq, rfl, rfl, SqT.of (s03 _ _ hw1), rfl, pq, rfl, ⟨_, SqT.of (s03 _ _ hw2)⟩, ?_⟩
  refine for_T (H0 := del H a) W.ts tieD hw2 hx (fun d σ H4 => ∃ x6 x7 x9 x10 x11 : Option V, σ = [some (.ref a), some (.ref pw), some v2, some (.ref tp), some (.ref ob), some (.int (leastW W posts)), x6, x7, some al, x9, x10, x11] ∧ Same H3 H4) ⟨_, _, _, _, _, rfl, Same.refl _⟩ (fun d σ H4 ⟨_, _, _, _, _, _, p⟩ => s03.trans p) ?_ ?_
  · rintro d y rr z _ H4 e4 ⟨x6, x7, x9, x10, x11, rfl, s4⟩ hy
    obtain ⟨yb, rfl, hyb⟩ := is_tie hy
    have hy0 : y ∈ W.ts := by rw [e4]; simp
    have g := ok.good.1 y hy0
    have hyw := hwb y hy0
    have ecur : curW W.ts (y.1, y.2.1) = y.2.2 := curW_at nd y hy0
    have s04 := s03.trans s4
    refine ⟨yb, _, rfl, SqT.of hyb, rfl, _, _, rfl, _, _, rfl, _, _, rfl, rfl, ?_⟩
    refine ⟨_, rfl, _, rfl, _, rfl, _, _, _, _, rfl, W, y.1, y.2.1, 1, hw.same s04, ok, rfl, rfl, rfl, g.1, g.2.1, by omega, fun W' hn ok' hs r6 H6 s6 h6 => ?_⟩
    have s06 := s04.trans s6
    refine ⟨_, rfl, _, _, rfl, W', posts, h6.any, ok', hp.same s06, pokW W' hn, fun H7 s7 => ⟨_, rfl, _, _, rfl, rfl, ?_⟩⟩
    have s07 := s06.trans s7
    have s47 := s6.trans s7
    have eal : decide ((y.1, y.2.1) ∈ (W.ts.filter fun t => oftenL W posts t == (leastR W posts).length).map pr) = (oftenL W posts y == (leastR W posts).length) := by
      rw [Bool.eq_iff_iff, decide_eq_true_iff]
      exact mem_filter_pr nd (fun t => oftenL W posts t == (leastR W posts).length) hy0
    have hmore : y.2.2 < 1000000000 → leastW W' posts - leastW W posts = if (oftenL W posts y == (leastR W posts).length) = true then 1 else 0 := fun hlt => by
      have h := weighed_more ok ok' pok (pokW W' hn) hy0 (fun dd => by
        have := hs dd
        rw [ecur] at this
        rw [this]
        by_cases hdd : dd y.1 y.2.1 = true
        · rw [if_pos hdd, if_pos hdd]; omega
        · rw [if_neg hdd, if_neg hdd])
      rw [h]
      by_cases hc : (oftenL W posts y == (leastR W posts).length) = true
      · rw [if_pos hc, if_pos (often_iff y |>.mp hc)]; omega
      · rw [if_neg hc, if_neg fun z => hc (often_iff y |>.mpr z)]; omega
    have e9 : (10 : Int) ^ (9 : Int).toNat = 1000000000 := by decide
    have hal7 := (hal.same s4).same s47
    have htest : ∀ Qb : Bool → Hp → Prop, (∀ H8, Same H7 H8 → Qb false H8) → tAnd (tTest (tOp qLt (tVar 9) (tOp qPow (tC (.int 10)) (tC (.int 9))))) (tTest (tOp rNe (tVar 10) (tCB qInt (tCons (tOp (rInD K) (tTup (tCons (tVar 6) (tCons (tVar 7) tNil))) (tVar 8)) tNil))))
        [some (.ref a), some (.ref pw), some v2, some (.ref tp), some (.ref ob), some (.int (leastW W posts)), some (nv y.1), some (nv y.2.1), some al, some (.int y.2.2), some (.int (leastW W' posts - leastW W posts)), x11] H7 Qb := by
      intro Qb hQ
      refine ⟨_, rfl, _, _, rfl, rfl, ⟨by decide, by decide, by decide⟩, _, _, rfl, rfl, _, rfl, ?_⟩
      rw [e9]
      refine ifB (fun e => ?_) fun e => hQ H7 (Same.refl _)
      have hlt : y.2.2 < 1000000000 := of_decide_eq_true e
      refine ⟨_, rfl, _, rfl, _, rfl, sz2, fun p hp2 => ?_⟩
      have sp := same_upd (o := .tup [nv y.1, nv y.2.1]) hp2
      refine ⟨_, rfl, pairD (y.1, y.2.1), _, Is.dp (φ := Any) (is_pair' (p := (y.1, y.2.1)) upd_same), Is.dp (hal7.same sp), shaped_pair _, shaped_pairs _, .inr ⟨_, rfl, rfl, _, rfl, ?_⟩⟩
      rw [any_pairs, eal, hmore hlt, eq_ints, decide_eq_true rfl]
      exact hQ _ sp
    refine htest _ fun H8 s8 => ?_
    refine ifF rfl ?_
    have s08 := s07.trans s8
    have hft : (pr y ∈ tellC W posts r) ↔ fR (ordO W posts) posts r y.1 ≠ fR (ordO W posts) posts r y.2.1 := by
      have := mem_cutL nd (fnL (tellL W posts r)) hy0
      rw [this]
      show (tellL W posts r).getD y.1 0 ≠ (tellL W posts r).getD y.2.1 0 ↔ _
      rw [tell_get (by omega), tell_get g.2.1]
    have hcb8 := hcb.same s08
    -- what the told cut says of this tie
    obtain ⟨k, hk, hk2⟩ : ∃ k : Int, (if decide ((y.1, y.2.1) ∈ tellC W posts r) = true then (1 : Int) else 0) = k ∧ ((k = 0 ∧ True) ∨ (k = 1 ∧ fR (ordO W posts) posts r y.1 ≠ fR (ordO W posts) posts r y.2.1)) := by
      by_cases h : (y.1, y.2.1) ∈ tellC W posts r
      · exact ⟨1, by rw [decide_eq_true h]; rfl, .inr ⟨rfl, hft.mp h⟩⟩
      · exact ⟨0, by rw [decide_eq_false h]; rfl, .inl ⟨rfl, trivial⟩⟩
    refine ⟨_, rfl, _, rfl, _, rfl, _, rfl, _, rfl, _, rfl, sz2, fun p hp2 => ?_⟩
    have sp := same_upd (o := .tup [nv y.1, nv y.2.1]) hp2
    refine ⟨_, rfl, tp, _, 1, cb, rfl, rfl, SqT.of ((s08.trans sp) _ _ htp), rfl, pairD (y.1, y.2.1), _, Is.dp (φ := Any) (is_pair' (p := (y.1, y.2.1)) upd_same), Is.dp (hcb8.same sp), shaped_pair _, shaped_pairs _, .inr ⟨_, rfl, ?_⟩⟩
    rw [any_pairs, hk]
    have s09 := s08.trans sp
    generalize upd H8 p (.tup [nv y.1, nv y.2.1]) = H9 at *
    refine ⟨_, _, rfl, rfl, .inl ⟨by decide, by decide⟩, ?_⟩
    refine ⟨_, _, _, _, rfl, W, y.1, y.2.1, -1 * k, hw.same s09, ok, rfl, rfl, rfl, g.1, g.2.1, by omega, fun W2 hn2 ok2 hs2 r10 H10 s10 h10 => ?_⟩
    have s010 := s09.trans s10
    refine ⟨_, rfl, _, _, rfl, W2, posts, h10.any, ok2, hp.same s010, pokW W2 hn2, fun H11 s11 => ?_⟩
    have s011 := s010.trans s11
    have hl2 : leastW W2 posts = leastW W posts - k := by
      rcases hk2 with ⟨rfl, _⟩ | ⟨rfl, hf⟩
      · rw [weighed_same ok ok2 pok (pokW W2 hn2) hs2 o0 m0.2 (.inr (by omega))]; omega
      · refine weighed_less ok ok2 pok (pokW W2 hn2) (a := y.1) (b := y.2.1) (fun dd => ?_) o0 m0.2 hf
        have := hs2 dd
        rw [ecur] at this
        rw [this]
        by_cases hdd : dd y.1 y.2.1 = true
        · rw [if_pos hdd, if_pos hdd]; omega
        · rw [if_neg hdd, if_neg hdd]
    refine ⟨_, rfl, _, rfl, _, rfl, _, rfl, sz2, fun p2 hp22 => ?_⟩
    have sp2 := same_upd (o := .tup [nv y.1, nv y.2.1]) hp22
    refine ⟨_, rfl, tp, _, 1, cb, rfl, rfl, SqT.of ((s011.trans sp2) _ _ htp), rfl, pairD (y.1, y.2.1), _, Is.dp (φ := Any) (is_pair' (p := (y.1, y.2.1)) upd_same), Is.dp ((hcb.same s011).same sp2), shaped_pair _, shaped_pairs _, .inr ⟨_, rfl, ?_⟩⟩
    rw [any_pairs, hk]
    refine ⟨_, _, rfl, rfl, rfl, _, rfl, ?_⟩
    rw [hl2, eq_ints, decide_eq_true rfl]
    refine ifF rfl ⟨_, _, _, _, _, rfl, ?_⟩
    exact (((s47.trans s8).trans sp).trans (s10.trans (s11.trans sp2))) |> fun z => s4.trans z
  · rintro _ H4 ⟨x6, x7, x9, x10, x11, rfl, s4⟩
    exact q H4 (s03.trans s4) ((hb3.same s4).mono (by omega))
end
end PW
set_option Elab.async false
set_option linter.all false
set_option maxRecDepth 100000
set_option maxHeartbeats 4000000
namespace PW
open PySem PySem.Spec PyProof.Rows L2
theorem web_flat {φ ψ : Addr → Prop} {H : Hp} {v : V} {W : Web} (h : Is φ H v (webD W)) : Is ψ H v (webD W) := by
  obtain ⟨p, q, vs, rfl, h1, h2, h3⟩ := is_web h
  refine is_web' h1 h2 ?_
  have : ∀ (ts : List Tie) (vs : List V), IsAll φ H vs (ts.map tieD) → IsAll ψ H vs (ts.map tieD) := by
    intro ts
    induction ts with
    | nil => intro vs h; cases h; exact .nil
    | cons t ts ih =>
      intro vs h
      rw [List.map_cons] at h
      cases h with
      | cons a1 a2 =>
        obtain ⟨a, rfl, ha⟩ := is_tie a1
        exact .cons (is_tie' ha) (ih _ a2)
  exact this _ _ h3
theorem BoxAt.not_tup {H : Hp} {a : Addr} {c : Nat} (h : BoxAt H a c) : ∀ xs, H a ≠ Option.some (HO.tup xs) := by
  obtain ⟨b0, b1, c0, h1, _⟩ := h
  exact PW.not_tup h1
/-- a least row's cut, as ties -/
theorem told_cut {W : Web} {posts r : List Nat} (ok : WOk W) : cutTs W.ts (tellC W posts r) = W.ts.filter fun t => fR (ordO W posts) posts r t.1 == fR (ordO W posts) posts r t.2.1 := by
  unfold cutTs
  refine List.filter_congr fun t ht => ?_
  have g := ok.good.1 t ht
  rw [Bool.eq_iff_iff, decide_eq_true_iff, beq_iff_eq, mem_cutL ok.good.2 _ ht]
  show ¬ (tellL W posts r).getD t.1 0 ≠ (tellL W posts r).getD t.2.1 0 ↔ _
  rw [tell_get (by omega), tell_get g.2.1]
  exact Decidable.not_not
theorem told_weight {W : Web} {posts r : List Nat} (ok : WOk W) : (wsum W.ts fun a b => decide ((a, b) ∈ tellC W posts r)) = cost W.ts (fR (ordO W posts) posts r) := by
  unfold cost
  refine wsum_congr fun t ht => ?_
  have g := ok.good.1 t ht
  rw [Bool.eq_iff_iff, decide_eq_true_iff, bne_iff_ne]
  have := mem_cutL ok.good.2 (fnL (tellL W posts r)) ht
  refine Iff.trans this ?_
  show (tellL W posts r).getD t.1 0 ≠ (tellL W posts r).getD t.2.1 0 ↔ _
  rw [tell_get (by omega), tell_get g.2.1]
theorem told_same {W : Web} {posts r os : List Nat} (ok : WOk W) (p : POk W posts) (hr : r ∈ leastR W posts) (hl : os.length = W.n)
    (h1 : ∀ v, v < W.n → (∃ p ∈ posts, Conn (Adj (cutTs W.ts (tellC W posts r))) p v) → os.getD v 0 ∈ posts ∧ Conn (Adj (cutTs W.ts (tellC W posts r))) (os.getD v 0) v)
    (h2 : ∀ v, v < W.n → (¬ ∃ p ∈ posts, Conn (Adj (cutTs W.ts (tellC W posts r))) p v) → os.getD v 0 = posts.getD 0 0) : os = tellL W posts r := by
  rw [told_cut ok] at h1 h2
  refine List.ext_getElem (by rw [hl, tell_len]) fun i hi hi' => ?_
  have hin : i < W.n := by omega
  have e := told_owner ok p hr (v := i) (x := os.getD i 0) hin (h1 i hin) (h2 i hin)
  rw [← tell_get hin] at e
  rw [List.getD_eq_getElem?_getD, List.getD_eq_getElem?_getD, List.getElem?_eq_getElem hi, List.getElem?_eq_getElem hi'] at e
  exact e
theorem told_parts {W : Web} {posts r : List Nat} (ok : WOk W) (p : POk W posts) (hr : r ∈ leastR W posts) : ∀ u, u < W.n → (posts.filter fun q => decide (q ∈ connL W.n (Adj (cutTs W.ts (tellC W posts r))) u)).length < 2 := by
  intro u hu
  rw [told_cut ok]
  have m := (mem_leastR ok p).mp hr
  have o := fR_owns p m.1
  refine Classical.byContradiction fun hn => ?_
  have nd := p.nd.filter fun q => decide (q ∈ connL W.n (Adj (W.ts.filter fun t => fR (ordO W posts) posts r t.1 == fR (ordO W posts) posts r t.2.1)) u)
  have all : ∀ q ∈ posts.filter (fun q => decide (q ∈ connL W.n (Adj (W.ts.filter fun t => fR (ordO W posts) posts r t.1 == fR (ordO W posts) posts r t.2.1)) u)), q = fR (ordO W posts) posts r u := fun q hq => by
    obtain ⟨h1, h2⟩ := List.mem_filter.mp hq
    have := conn_owner (mem_connL.mp (of_decide_eq_true h2)).2
    rw [o.1 q h1] at this
    exact this.symm
  generalize posts.filter (fun q => decide (q ∈ connL W.n (Adj (W.ts.filter fun t => fR (ordO W posts) posts r t.1 == fR (ordO W posts) posts r t.2.1)) u)) = l at *
  match l, hn, nd, all with
  | [], hn, _, _ => exact hn (by simp)
  | [_], hn, _, _ => exact hn (by simp)
  | x :: y :: _, _, nd, all =>
    have e1 := all x (by simp)
    have e2 := all y (by simp)
    rw [e1, e2] at nd
    simp at nd
section
variable {P : Program} {w : World} {K : PySem.W.Frag} {mg : Str → Option Value} {base : Heap}
theorem eqV_nv (a b : Nat) : eqV (nv a) (nv b) = (a == b) := by
  have e2 : eqV (nv a) (nv b) = ((a : Int) == (b : Int)) := rfl
  rw [e2, Bool.eq_iff_iff, beq_iff_eq, beq_iff_eq]
  omega
theorem tell_mem {W : Web} {posts r : List Nat} (ok : WOk W) (p : POk W posts) (hr : r ∈ leastR W posts) : ∀ x ∈ tellL W posts r, x ∈ posts := by
  intro x hx
  obtain ⟨v, hv, rfl⟩ := List.mem_map.mp hx
  exact (fR_owns p ((mem_leastR ok p).mp hr).1).2 v
theorem small_sum {W W' : Web} {posts r : List Nat} (ok : WOk W) (p : POk W posts) (hr : r ∈ leastR W posts)
    (h : ∀ dd, wsum W'.ts dd = wsum W.ts fun a b => fnL ((tellL W posts r).map fun o => posts.idxOf o) a != fnL ((tellL W posts r).map fun o => posts.idxOf o) b && dd (lo2 (fnL ((tellL W posts r).map fun o => posts.idxOf o)) a b) (hi2 (fnL ((tellL W posts r).map fun o => posts.idxOf o)) a b)) : (W'.ts.map fun t => t.2.2).sum = leastW W posts := by
  have m := (mem_leastR ok p).mp hr
  have o := fR_owns p m.1
  have tl := tell_len W posts r
  rw [sum_map_wsum, h, ← m.2]
  unfold cost
  refine wsum_congr fun t ht => ?_
  have g := ok.good.1 t ht
  have e : ∀ v, v < W.n → fnL ((tellL W posts r).map fun o => posts.idxOf o) v = posts.idxOf (fR (ordO W posts) posts r v) := fun v hv => by
    show ((tellL W posts r).map fun o => posts.idxOf o).getD v 0 = _
    rw [← tell_get hv, List.getD_eq_getElem?_getD, List.getD_eq_getElem?_getD, List.getElem?_map, List.getElem?_eq_getElem (by omega)]
    rfl
  rw [Bool.and_true, e t.1 (by omega), e t.2.1 g.2.1]
  exact bne_congr ⟨fun z => idx_inj (o.2 _) (o.2 _) z, fun z => by rw [z]⟩
/-- a def's body, walked: this def -/
theorem fn_okF {x qual : Str} {st : Stmt} {f : Addr} {N ps : List Str} {k : Nat} {sp : Sp} {fd : FuncData} (F : FunD K x qual (defArgs st) (defBody st) (defScope st) [] [] f fd) (S : FnScope N ps (defScope st))
    (len : ∀ vs H Q E, sp vs H Q E → vs.length = ps.length)
    (hbody : ∀ (cdv : Value) (A : Around) (outer : List Env) (s : Shared) (H : Hp) (vs : List V) (Q : VK) (E : XK), Room k (A.deeper (envOfC qual (defScope st) s.heap.objs.size f cdv)) → sp vs H Q E →
      ∃ t, PSs (cxOf CX0 P w K mg base N qual (defScope st) f cdv A outer s H E).nox (defBody st) t ∧ t { nx := fun _ H' => Q .non H', rt := Q } (start N vs) H) :
    FnOk P w K mg base CX0 (k + 1) f fd ps sp := by
  refine F.ok S len fun cdv A outer s H vs Q E hr h => ?_
  obtain ⟨t, h1, h2⟩ := hbody cdv A outer s H vs Q E hr h
  exact ⟨t, h1.nox, h2⟩
-- law: 0=_law_script 1=_law_k 2=_law_box_here 3=_law_web_here 4=_law_posts_here 5=_law_told 6=_law_owners 7=_law_small 8=_law_owner 9=_law_cut 10=_law_tie
theorem sc_law : FnScope ["_law_script", "_law_k", "_law_box_here", "_law_web_here", "_law_posts_here", "_law_told", "_law_owners", "_law_small", "_law_owner", "_law_cut", "_law_tie"] ["_law_script"] (defScope sLaw) := ⟨rfl, rfl, rfl, by decide +kernel, rfl, by decide +kernel, by decide +kernel⟩
theorem law_fn (T : Tx K mg) {fd : FuncData} (F : FunD K (dd "law" sLaw).name (dd "law" sLaw).qual (defArgs sLaw) (defBody sLaw) (defScope sLaw) [] [] (He.fAd K (dd "law" sLaw).at_) fd) : FnOk P w K mg base CX0 61 (He.fAd K (dd "law" sLaw).at_) fd ["_law_script"] (spLaw K) := by
  have O_law_box := ok_law_box (P := P) (w := w) (base := base) T
  have O_law_more := ok_law_more (P := P) (w := w) (base := base) T
  have O_law_posts := ok_law_posts (P := P) (w := w) (base := base) T
  have O_law_take := ok_law_take (P := P) (w := w) (base := base) T
  have O_law_ties_right := ok_law_ties_right (P := P) (w := w) (base := base) T
  have O_law_times := ok_law_times (P := P) (w := w) (base := base) T
  have O_law_turned := ok_law_turned (P := P) (w := w) (base := base) T
  have O_law_web := ok_law_web (P := P) (w := w) (base := base) T
  have O_cut_by := ok_cut_by (P := P) (w := w) (base := base) T
  have O_is_parting := ok_is_parting (P := P) (w := w) (base := base) T
  have O_least_parting := ok_least_parting (P := P) (w := w) (base := base) T
  have O_merged := ok_merged (P := P) (w := w) (base := base) T
  have O_owners_of := ok_owners_of (P := P) (w := w) (base := base) T
  have O_weight_of := ok_weight_of (P := P) (w := w) (base := base) T
  refine fn_okF F sc_law (fun vs H Q E h => ?_) (fun cdv A outer s H vs Q E hr h => ?_)
  · obtain ⟨_, _, rfl, _⟩ := h
    rfl
  have hu := hu_of hr
  obtain ⟨a, ns, rfl, ha, hns, q⟩ := h
  refine ⟨_, (pss_cons (ps_for PassesOwn.never rfl (pi_range1 rfl T.f_range (pa_cons (pe_op op_add pe_int (pe_callB (call_min2 rfl) (by rfl) T.f_min (by decide +kernel) (pa_cons pe_int (pa_cons (pe_callB call_len_seq (by rfl) T.f_len (by decide +kernel) (pa_cons (pv 0) pa_nil)) pa_nil)))) pa_nil)) (pg_name (i := 1) sc_law.nd rfl (.inl rfl) (.inl rfl))
     (pss_cons (ps_set (i := 2) sc_law.nd rfl (.inl rfl) (pcall O_law_box (hr.mono (by decide)) (by rfl) (pa_cons (pv 0) (pa_cons (pv 1) pa_nil))))
     (pss_cons (ps_set (i := 3) sc_law.nd rfl (.inl rfl) (pcall O_law_web (hr.mono (by decide)) (by rfl) (pa_cons (pv 2) (pa_cons (pe_op op_add pe_int (pcall O_law_take (hr.mono (by decide)) (by rfl) (pa_cons (pv 2) (pa_cons pe_int pa_nil)))) pa_nil))))
     (pss_cons (ps_set (i := 4) sc_law.nd rfl (.inr rfl) (pcall O_law_posts (hr.mono (by decide)) (by rfl) (pa_cons (pv 2) (pa_cons (pe_ix ix_tup (pv 3) pe_int (fun _ _ => rfl)) (pa_cons pe_int pa_nil)))))
     (pss_cons (ps_set (i := 5) sc_law.nd rfl (.inl rfl) (pcall O_least_parting (hr.mono (by decide)) (by rfl) (pa_cons (pv 3) (pa_cons (pv 4) pa_nil))))
     (pss_cons (ps_set (i := 6) sc_law.nd rfl (.inl rfl) (pcall O_owners_of (hr.mono (by decide)) (by rfl) (pa_cons (pv 3) (pa_cons (pv 4) (pa_cons (pe_ix ix_tup (pv 5) pe_int (fun _ _ => rfl)) pa_nil)))))
     (pss_cons (ps_if (PW.pt (pw_or (pt_not (pt_val (pcall O_law_turned (hr.mono (by decide)) (by rfl) (pa_cons (pv 2) (pa_cons (pv 3) (pa_cons (pv 4) pa_nil)))))) (pw_or1 (pt_not (pt_val (pcall O_law_times (hr.mono (by decide)) (by rfl) (pa_cons (pv 2) (pa_cons (pv 3) (pa_cons (pv 4) (pa_cons (pe_ix ix_tup (pv 5) pe_int (fun _ _ => rfl)) pa_nil))))))))))
     (pss_one (ps_ret pe_bl))
     pss_nil)
     (pss_cons (ps_if (PW.pt (pw_or (pt_not (pt_val (pcall O_law_more (hr.mono (by decide)) (by rfl) (pa_cons (pv 2) (pa_cons (pv 3) (pa_cons (pv 4) (pa_cons (pe_ix ix_tup (pv 5) pe_int (fun _ _ => rfl)) pa_nil))))))) (pw_or1 (pt_not (pt_val (pcall O_law_ties_right (hr.mono (by decide)) (by rfl) (pa_cons (pv 2) (pa_cons (pv 3) (pa_cons (pv 4) (pa_cons (pv 5) (pa_cons (pv 6) pa_nil)))))))))))
     (pss_one (ps_ret pe_bl))
     pss_nil)
     (pss_cons (ps_set (i := 7) sc_law.nd rfl (.inl rfl) (pcall O_merged (hr.mono (by decide)) (by rfl) (pa_cons (pv 3) (pa_cons (pe_callTy call_tuple_of (by rfl) T.f_tuple (by decide +kernel) (pa_cons (pe_lc (own := [("_law_owner", 8)]) (g := (gName 8)) (tt := tYes) (te := (tBM K "list" (rIndex K) (tVar 4) (tCons (tVar 8) tNil))) rfl sc_law.nd (pi_tup (pv 6)) (blkOk_by (N := ["_law_script", "_law_k", "_law_box_here", "_law_web_here", "_law_posts_here", "_law_told", "_law_owners", "_law_small", "_law_owner", "_law_cut", "_law_tie"]) (sc := defScope sLaw) (by decide +kernel)) (fun _ _ _ _ _ => (pg_name (i := 8) sc_law.nd rfl (.inl rfl) (.inr rfl))) (fun _ _ _ _ _ => pts_nil) (fun _ _ _ _ _ => (pe_bm PySem.F.plainAttrs_list PySem.F.slot_list_index PySem.F.type_list_index mt_index (pv 4) (pa_cons (pv 8) pa_nil)))) pa_nil)) pa_nil))))
     (pss_cons (ps_if (PW.pt (pw_or (pt_not (pt_val (pcall O_is_parting (hr.mono (by decide)) (by rfl) (pa_cons (pv 3) (pa_cons (pv 4) (pa_cons (pcall O_cut_by (hr.mono (by decide)) (by rfl) (pa_cons (pv 3) (pa_cons (pv 6) pa_nil))) pa_nil)))))) (pw_or1 (pt_cmpR (op_neD hr.units) (pcall O_cut_by (hr.mono (by decide)) (by rfl) (pa_cons (pv 3) (pa_cons (pv 6) pa_nil))) (pe_ix ix_tup (pv 5) pe_int (fun _ _ => rfl)) (nomark _)))))
     (pss_one (ps_ret pe_bl))
     pss_nil)
     (pss_cons (ps_set (i := 9) sc_law.nd rfl (.inl rfl) (pcall O_weight_of (hr.mono (by decide)) (by rfl) (pa_cons (pv 3) (pa_cons (pe_ix ix_tup (pv 5) pe_int (fun _ _ => rfl)) pa_nil))))
     (pss_one (ps_if (PW.pt (pw_or (pt_cmpR op_ne (pe_callB (cr_sum rfl) (by rfl) T.f_sum (by decide +kernel) (pa_cons (pe_lc (own := [("_law_tie", 10)]) (g := (gName 10)) (tt := tYes) (te := (tOp (rIxT K) (tVar 10) (tC (.int 2)))) rfl sc_law.nd (pi_tup (pe_ix ix_tup (pv 7) pe_int (fun _ _ => rfl))) (blkOk_by (N := ["_law_script", "_law_k", "_law_box_here", "_law_web_here", "_law_posts_here", "_law_told", "_law_owners", "_law_small", "_law_owner", "_law_cut", "_law_tie"]) (sc := defScope sLaw) (by decide +kernel)) (fun _ _ _ _ _ => (pg_name (i := 10) sc_law.nd rfl (.inl rfl) (.inr rfl))) (fun _ _ _ _ _ => pts_nil) (fun _ _ _ _ _ => (pe_ix ix_tup (pv 10) pe_int (fun _ _ => rfl)))) pa_nil)) (pv 9) (nomark _)) (pw_or1 (pt_cmpR op_ne (pe_ix ix_tup (pv 5) pe_int (fun _ _ => rfl)) (pv 9) (nomark _)))))
     (pss_one (ps_ret pe_bl))
     pss_nil)))))))))))))
     (pss_one (ps_ret pe_bl))), ?_⟩
  refine ⟨_, rfl, a, _, rfl, .inl ha, _, _, rfl, _, _, rfl, rfl, _, rfl, ?_⟩
  rw [List.length_map]
  refine ⟨by split <;> omega, by split <;> omega, ?_⟩
  generalize hm : ((1 : Int) + (if ((ns.length : Nat) : Int) < 2 then ((ns.length : Nat) : Int) else 2)).toNat = m
  have hm3 : m ≤ 3 := by subst hm; split <;> omega
  refine for_R (fun i σ H2 => ∃ x1 x2 x3 x4 x5 x6 x7 x9 : Option V, σ = [some (.ref a), x1, x2, x3, x4, x5, x6, x7, none, x9, none] ∧ Same H H2) ⟨_, _, _, _, _, _, _, _, rfl, Same.refl _⟩ ?_ ?_
  · rintro i _ H2 hi ⟨x1, x2, x3, x4, x5, x6, x7, x9, rfl, s2⟩
    refine ⟨_, rfl, _, rfl, _, _, rfl, a, ns, i, rfl, sql_same ha s2, rfl, by omega, fun b H3 s3 hb0 hb3 => ?_⟩
    have hbH : H b = none := s2.free hb0
    have sH3 := s2.trans s3
    have sd3 : Same H (del H3 b) := same_del (o := .lst []) sH3 hbH
    refine ⟨_, rfl, _, rfl, _, _, rfl, b, 0, 5, rfl, hb3, by omega, rfl, by decide, by decide, fun n0 hn0 H4 s4 hb4 => ⟨_, _, rfl, rfl, _, _, rfl, b, 0 + 1, 2 + n0, rfl, hb4, by omega, rfl, by omega, by omega, fun W hWn ok wb r5 H5 s5 w5 hb5 => ?_⟩⟩
    have sd5 := same_box s4 s5
    have hWn6 : W.n ≤ 6 := by omega
    obtain ⟨pw, pq, xs, rfl, hw1, hw2, hx⟩ := is_web w5
    refine ⟨_, rfl, _, rfl, pw, _, 0, nv W.n, rfl, rfl, SqT.of hw1, rfl, _, _, _, rfl, b, 0 + 1 + 100, W.n, rfl, hb5, by omega, rfl, rfl, by omega, by omega, fun posts pnd plen plt r6 H6 s6 p6 hb6 => ?_⟩
    have pok : POk W posts := ⟨pnd, plen, plt⟩
    have sd6 := same_box sd5 s6
    have sH6 := sd3.trans sd6
    have w6 : Is Any H6 (.ref pw) (webD W) := (((web_flat (ψ := fun _ => False) w5).del (fun a h => h.elim) hb5.not_tup).same s6).any
    obtain ⟨pa, rfl, pab, hpa⟩ := is_nats p6
    refine ⟨_, rfl, _, rfl, _, _, rfl, W, posts, w6, ok, p6.any, pok, fun r hr tp cb tr H7 s7 htp hcb => ?_⟩
    have lcut : (tellC W posts r).length ≤ 200 := by
      unfold tellC cutL
      rw [List.length_map]
      exact Nat.le_trans (List.length_filter_le ..) ok.len
    refine ⟨_, rfl, _, rfl, _, rfl, tp, _, 1, cb, rfl, rfl, SqT.of htp, rfl, _, _, _, rfl, W, posts, tellC W posts r, w6.same s7, ok, p6.any.same s7, pok, hcb.any, by omega, fun os hol ho1 ho2 r8 H8 s8 h8 => ?_⟩
    have eos := told_same ok pok hr hol ho1 ho2
    subst eos
    obtain ⟨ob, rfl, hob⟩ := is_tnats h8
    have s78 := s7.trans s8
    have hb8 := hb6.same s78
    obtain ⟨bo, hbo⟩ := hb6.some
    have wB : Is Any (del H8 b) (.ref pw) (webD W) := ((web_flat (ψ := fun _ => False) (w6.same s78)).del (fun a h => h.elim) hb8.not_tup).any
    have hpa8 := s78 _ _ hpa
    have pB : Is Any (del H8 b) (.ref pa) (natsD posts) := is_nats' trivial (del_get hpa8 pab)
    have tpb : tp ≠ b := fun e => hb8.not_tup _ (by rw [← e]; exact s8 _ _ htp)
    have htpB : del H8 b tp = some (.tup [.int (leastW W posts), cb, tr]) := del_get (s8 _ _ htp) tpb
    have cbB : Is Any (del H8 b) cb (.list ((tellC W posts r).map pairD)) := ((hcb.same s8).del (fun a q => q.ne hbo) hb8.not_tup).any
    have obb : ob ≠ b := fun e => hb8.not_tup _ (by rw [← e]; exact hob)
    have obB : Is Any (del H8 b) (.ref ob) (tupD (tellL W posts r)) := is_tnats' (del_get hob obb)
    have sH8 : Same H (del H8 b) := same_del (o := .lst []) (sH6.trans s78) hbH
    refine ⟨_, rfl, _, rfl, _, rfl, _, _, _, rfl, b, _, W, posts, rfl, hb8, by omega, wB, ok, pB, pok, fun H9 s9 hb9 => ⟨_, rfl, ?_⟩⟩
    refine ifF rfl ?_
    have sB9 : Same (del H8 b) (del H9 b) := same_del (o := .lst []) s9 del_self
    refine ⟨_, rfl, _, rfl, _, rfl, _, rfl, tp, _, 0, .int (leastW W posts), rfl, rfl, SqT.of (s9 _ _ htpB), rfl, _, _, _, _, rfl, b, _, W, posts, rfl, hb9, by omega, wB.same sB9, ok, wb, pB.same sB9, pok, rfl, fun H10 s10 hb10 => ⟨_, rfl, ?_⟩⟩
    refine ifF rfl ?_
    have s010 := same_box s9 s10
    have sB10 : Same (del H8 b) (del H10 b) := same_del (o := .lst []) s010 del_self
    refine ⟨_, rfl, _, rfl, _, rfl, _, rfl, tp, _, 0, .int (leastW W posts), rfl, rfl, SqT.of (s010 _ _ htpB), rfl, _, _, _, _, rfl, b, _, W, posts, rfl, hb10, by omega, wB.same sB10, ok, hWn6, pB.same sB10, pok, rfl, fun H11 s11 hb11 => ⟨_, rfl, ?_⟩⟩
    refine ifF rfl ?_
    have s011 := same_box s010 s11
    have sB11 : Same (del H8 b) (del H11 b) := same_del (o := .lst []) s011 del_self
    refine ⟨_, rfl, _, rfl, _, rfl, _, rfl, _, rfl, _, _, _, _, _, rfl, b, _, W, posts, r, tp, cb, tr, rfl, hb11, by omega, wB.same sB11, ok, wb, pB.same sB11, pok, hr, rfl, sB11 _ _ htpB, cbB.same sB11, obB.same sB11, fun H12 s12 hb12 => ⟨_, rfl, ?_⟩⟩
    refine ifF rfl ?_
    have s012 := same_box s011 s12
    -- the places drawn together
    have hob12 := s012 _ _ (del_get hob obb)
    have hpa12 := s012 _ _ (del_get hpa8 pab)
    have tl := tell_len W posts r
    refine ⟨_, rfl, _, rfl, ob, rfl, ⟨_, SqT.of hob12⟩, fun D hD => ?_⟩
    refine lc_T (tellL W posts r) natD (fun o => some (natD (posts.idxOf o))) hob12 (isAll_nats (φ := Any).mpr rfl) hD (by omega) ?_ ?_
    · intro x y H13 hy0 s13 hy Kont Skip k1 k2
      cases hy
      have hyp := tell_mem ok pok hr y hy0
      have hpa13 := s13 _ _ hpa12
      refine ⟨rfl, _, rfl, list_ty hpa13, _, rfl, pa, posts.map nv, nv y, posts.idxOf y, nv y, rfl, rfl, SqL.of hpa13, rfl, flat_nats _, by rw [List.getElem?_map, get_idx hyp]; rfl, by rw [eqV_nv, beq_self_eq_true], fun k z hk hz => ?_, k1 _ _ _ (Same.refl _) rfl (.int _)⟩
      rw [List.getElem?_map] at hz
      cases ez : posts[k]? with
      | none => rw [ez] at hz; cases hz
      | some u =>
        rw [ez] at hz
        cases hz
        rw [eqV_nv, beq_eq_false_iff_ne]
        intro e
        subst e
        obtain ⟨hkl, ek⟩ := List.getElem?_eq_some_iff.mp ez
        have := pok.nd.idxOf_getElem k hkl
        rw [ek] at this
        omega
    intro H13 s13 h13
    rw [filterMap_some] at h13
    have e13 : ((tellL W posts r).map fun o => natD (posts.idxOf o)) = ((tellL W posts r).map fun o => posts.idxOf o).map natD := by rw [List.map_map]; rfl
    rw [e13] at h13
    obtain ⟨D', e, _, hD13⟩ := is_nats h13
    cases e
    refine ⟨D, _, rfl, .inl ⟨SqL.of hD13, fun tn htn => ?_⟩⟩
    have s014 := (s012.trans s13).trans (same_upd (o := .tup (((tellL W posts r).map fun o => posts.idxOf o).map nv)) htn)
    refine ⟨_, _, rfl, W, (tellL W posts r).map fun o => posts.idxOf o, wB.same s014, ok, is_tnats' upd_same, by rw [List.length_map]; exact tl, fun W' m1 m2 m3 m4 m5 r15 H15 s15 h15 => ?_⟩
    have s015 := s014.trans s15
    obtain ⟨qw, qq, ys, rfl, hq1, hq2, hqx⟩ := is_web h15
    -- is it a parting
    refine ⟨_, rfl, _, rfl, _, rfl, _, rfl, _, _, rfl, W, tellL W posts r, wB.same s015, ok, obB.same s015, tl, fun r16 H16 s16 h16 => ?_⟩
    have s016 := s015.trans s16
    refine ⟨_, _, _, rfl, W, posts, tellC W posts r, wB.same s016, ok, pB.same s016, pok, h16.any, by omega, fun bb hbb H17 s17 => ⟨_, rfl, ?_⟩⟩
    have ebb : bb = true := hbb.mpr (told_parts ok pok hr)
    subst ebb
    refine ifF rfl ?_
    have s017 := s016.trans s17
    refine ⟨_, rfl, _, rfl, _, _, rfl, W, tellL W posts r, wB.same s017, ok, obB.same s017, tl, fun r18 H18 s18 h18 => ?_⟩
    have s018 := s017.trans s18
    refine ⟨_, rfl, tp, _, 1, cb, rfl, rfl, SqT.of (s018 _ _ htpB), rfl, .list ((tellC W posts r).map pairD), .list ((tellC W posts r).map pairD), Is.dp h18, Is.dp (cbB.same s018), shaped_pairs _, shaped_pairs _, _, rfl, ?_⟩
    rw [shaped_eqv (shaped_pairs _)]
    refine ifF rfl ?_
    -- what the cut weighs
    refine ⟨_, rfl, _, rfl, tp, _, 1, cb, rfl, rfl, SqT.of (s018 _ _ htpB), rfl, _, _, rfl, W, tellC W posts r, wB.same s018, ok, cbB.same s018, by omega, fun H19 s19 => ?_⟩
    have ecut : (wsum W.ts fun a b => decide ((a, b) ∈ tellC W posts r)) = leastW W posts := (told_weight ok).trans ((mem_leastR ok pok).mp hr).2
    rw [ecut]
    have s019 := s018.trans s19
    have s1519 := ((s16.trans s17).trans s18).trans s19
    have lW' : W'.ts.length ≤ 200 := Nat.le_trans m4 ok.len
    refine ⟨_, rfl, qw, _, 1, .ref qq, rfl, rfl, SqT.of (s1519 _ _ hq1), rfl, qq, rfl, ⟨_, SqT.of (s1519 _ _ hq2)⟩, fun D2 hD2 => ?_⟩
    refine lc_T W'.ts tieD (fun t => some (.int t.2.2)) (s1519 _ _ hq2) (hqx.same s1519) hD2 (by omega) ?_ ?_
    · intro x y H20 _ s20 hy Kont Skip k1 k2
      obtain ⟨yb, rfl, hyb⟩ := is_tie hy
      exact ⟨rfl, _, rfl, yb, _, 2, .int y.2.2, rfl, rfl, SqT.of hyb, rfl, k1 _ _ _ (Same.refl _) rfl (.int _)⟩
    intro H20 s20 h20
    rw [filterMap_some, map_int] at h20
    obtain ⟨D', e, _, hD20⟩ := is_ints h20
    cases e
    have s020 := s019.trans s20
    refine ⟨D2, _, rfl, SqL.of hD20, ?_⟩
    rw [small_sum ok pok hr m5]
    refine ⟨_, rfl, rfl, _, rfl, ?_⟩
    rw [eq_ints, decide_eq_true rfl]
    refine ifF rfl ?_
    refine ⟨_, rfl, tp, _, 0, .int (leastW W posts), rfl, rfl, SqT.of (s020 _ _ htpB), rfl, _, rfl, rfl, _, rfl, ?_⟩
    rw [eq_ints, decide_eq_true rfl]
    refine ifF rfl ⟨_, _, _, _, _, _, _, _, rfl, sH8.trans s020⟩
  · rintro _ H2 ⟨x1, x2, x3, x4, x5, x6, x7, x9, rfl, s2⟩
    exact q H2
end
end PW
set_option Elab.async false
set_option linter.all false
set_option maxRecDepth 100000
set_option maxHeartbeats 0
namespace PW
open PySem PySem.Spec PyProof.Rows L2
abbrev RR : PySem.W.OpenRow := PySem.W.OpenLaw.row PySem.Challenge.rw_partedweb_k98_whole_webs_put_otherwise
abbrev hk : PySem.W.Hook := He.hookD 4 fa fn
def ob (s : PySem.W.SharedT) : He.AlD := He.obsDG 4 fa fn (HandSHeadRun.getT s)
theorem ob_eq (s : PySem.W.SharedT) : ob s = hk.obs s.abs := He.obsDG_eq (HandSHeadRun.getT_eq s)
def loose1 : List Str := ["_wall", "pairs_cut", "weight_of", "without", "beside", "hangs_on", "pieces", "merged", "posts_in", "is_parting", "cut_by", "owners_of", "tied_places", "Rows", "least_rows", "least_row", "count_least", "times_cut", "always_cut", "Flowing", "side_weight", "flow", "given_to", "near_weight", "with_given", "Bounding"]
def loose2 : List Str := ["least_parting", "others_of", "singles", "_law_cell_at", "_law_box", "_law_take", "_law_weight", "_law_web", "_law_posts", "_law_least", "_law_turned", "_law_times", "_law_more", "_law_weighed", "_law_ties_right"]
theorem run (w : World) : HandSHeadRun.RunEq RR (PySem.W.view RR.prog [49]) hk ob 2500 (loose1 ++ loose2) w := by
  intro os
  kernel_rfl
end PW
set_option Elab.async false
set_option linter.all false
set_option maxRecDepth 100000
set_option maxHeartbeats 0
namespace PW
open PySem PySem.Spec PyProof.Rows L2
theorem tx_of {K : PySem.W.Frag} {h : Heap} {mg : Str → Option Value} (X : K.In h) (G : h.Ns mainGlobals mg) (c : He.SaysD fa fn K) : Tx K mg :=
  ⟨c, fun i x e => He.glo_ok X G (c.fact i e), fun i x e => He.free_ok X G (c.fact i e)⟩
theorem facts {P : Program} {w : World} {K : PySem.W.Frag} {h : Heap} {mg : Str → Option Value} {f : Addr} (X : K.In h) (G : h.Ns mainGlobals mg) (hfa : mg ("law" : Str) = some (.ref f)) (c : He.SaysD fa fn K) :
    ∃ fd : FuncData, (∀ (s : Shared) (v : Value), BindsTo s fd ⟨[v], []⟩ [("_law_script", v)]) ∧ ∀ base : Heap, K.In base → base.Ns mainGlobals mg → FnOk P w K mg base CX0 61 f fd ["_law_script"] (spLaw K) := by
  have T : Tx K mg := tx_of X G c
  have e := hfa.symm.trans T.g_law
  cases e
  obtain ⟨fd, F⟩ := T.d_law
  have b := FunD.bindsA (ps := ["_law_script"]) F fun _ _ _ _ _ _ us hl => match us, hl with | [_], _ => rfl
  exact ⟨fd, fun s v => b s [v] rfl, fun base _ _ => law_fn T F⟩
end PW
open PySem PySem.W PySem.Calls PyProof.Rows
theorem PySem.Challenge.cw_partedweb_k98_whole_webs_put_otherwise_holds : PySem.Challenge.rw_partedweb_k98_whole_webs_put_otherwise.Holds := by
  w_on; o_law
  refine HandSHeadRun.head_any (r := OpenLaw.row PySem.Challenge.rw_partedweb_k98_whole_webs_put_otherwise) (q := view (OpenLaw.row PySem.Challenge.rw_partedweb_k98_whole_webs_put_otherwise).prog [49]) (H := PW.hk) (ob := PW.ob) (M := 2500) (loose := PW.loose1 ++ PW.loose2) (d := HandSHeadRun.topDef (OpenLaw.row PySem.Challenge.rw_partedweb_k98_whole_webs_put_otherwise).prog 49) (kwd := []) PW.ob_eq
    (by kernel_rfl) (fun s => by kernel_rfl) PW.run (by kernel_rfl) (by kernel_rfl) (by kernel_rfl) (by rfl) (by first | assumption | decide +kernel) (by decide +kernel) ⟨rfl, rfl, rfl, rfl, rfl, by decide +kernel⟩ ?hw ?hc
  case hw => w_witness2
  case hc =>
    refine L2.walk_ofE (l := PySem.Challenge.rw_partedweb_k98_whole_webs_put_otherwise) (n := 63) (k := 61) (x := "_law_script") (CX := L2.CX0) rfl (by decide) (by kernel_rfl) ⟨rfl, by decide, by decide⟩ ?F (fun _ _ _ _ z => z)
    intro w mg fa h Y G hmg0
    obtain ⟨K, KX, c⟩ := Y
    have hmg : mg ("law" : PySem.Str) = some (.ref fa) := by
      have e : (HandSHeadRun.topDef (OpenLaw.row PySem.Challenge.rw_partedweb_k98_whole_webs_put_otherwise).prog 49).name = ("law" : PySem.Str) := by kernel_rfl
      rw [← e]
      exact hmg0
    obtain ⟨fd, hb, hF⟩ := PW.facts (P := (PySem.Challenge.rw_partedweb_k98_whole_webs_put_otherwise).prog) (w := w) KX G hmg c
    exact ⟨K, fd, PW.spLaw K, KX, hb, fun H a ns hl _ hS => ⟨a, ns, rfl, hS, hl, fun _ => rfl⟩, hF⟩
