/- states of the machine on its way through the law. No condition. -/
import Derived.Test.YtepgappljifekaaGreatTabs
set_option linter.unusedVariables false
namespace Go.Proofs.YtepgappljifekaaGreat
open Go Go.AM
namespace Tabs
abbrev o : Bool := false
abbrev i : Bool := true
-- steps 25000
noncomputable def c1n : List Nm := [nm 0, nm 1, nm 2, nm 51, nm 52, nm 53, nm 54, nm 55, nm 56, nm 57, nm 58, nm 59, nm 60, nm 61, nm 219, nm 351, nm 368, nm 505, nm 507, nm 511, nm 526, nm 527, nm 574, nm 575, nm 576, nm 577, nm 579, nm 580, nm 586, nm 587, nm 588, nm 589, nm 590, nm 591, nm 652, nm 653, nm 655, nm 657, nm 658, nm 665, nm 684, nm 685, nm 702, nm 705, nm 706]
noncomputable def c1f0 : Fr := ⟨50, 29, fill [.agg [n64 4, n64 1, n64 3], .ptr (nm 684) 0, .nilslc, .ptr (nm 685) 0, .tup [], .tup [], .agg [.nilslc, n64 0], .ptr (nm 685) 0, .ptr (nm 685) 0, .tup [], .ptr (nm 685) 0, .ptr (nm 684) 0, n64 4, .tup [], .ptr (nm 685) 0, .ptr (nm 684) 1, n64 1, .tup [], .ptr (nm 685) 0, .ptr (nm 684) 2, n64 3, .tup [], .tup [], .tup [], .tup [], .tup [], .tup [], .tup [], .tup []] 0 tm0, [inR (sub [i, i, i, i, i, o] (bodyOf T 50)) 3, .code (sub [i, i, i, i, i, i] (bodyOf T 50))], [], .run, .normal, none⟩
noncomputable def c1f1 : Fr := ⟨55, 62, fill (rl [(1, .ptr (nm 580) 0), (1, n64 1), (2, .tup []), (1, .ptr (nm 653) 0), (1, .bool false), (1, .slu (nm 655) 0 64 1), (1, n64 0), (1, .ptr (nm 658) 0), (1, n64 1), (1, .ptr (nm 665) 0), (1, .tup []), (1, .tup [.slu (nm 655) 0 64 1, n64 0]), (1, .ptr (nm 580) 0), (1, n64 1), (1, .tup [.slu (nm 655) 0 64 1, n64 0]), (1, .slu (nm 655) 0 64 1), (2, n64 0), (1, .bool true), (1, n64 0), (1, .tup []), (1, .slu (nm 655) 0 64 1), (2, .ptr (nm 658) 0), (1, n64 1), (1, .ptr (nm 658) 0), (1, n64 4), (1, .ptr (nm 665) 0), (1, .ptr (nm 658) 0), (1, n64 1), (1, .ptr (nm 665) 1), (1, .ptr (nm 658) 0), (1, n64 3), (1, .ptr (nm 665) 2), (27, .tup [])]) 0 tm0, [drawnR (sub [i, i, i, i, i, i, i, i, i, o] (bodyOf T 55)) [.done (n64 1), .done (.bool true), .done (.bool true), .done (.ptr (nm 665) 0), .done (n64 4), .done (.bool true), .done (.bool true), .done (.bool true), .done (.ptr (nm 665) 1), .done (n64 1), .done (.bool true), .done (.bool true), .done (.bool true), .done (.ptr (nm 665) 2), .done (n64 3), .done (.ptr (nm 580) 0), .done (n64 63), .done (.bool true), .done (.bool true), .done (.bool true), .done (.slu (nm 655) 0 64 1), .done (.agg [n64 4, n64 1, n64 3]), .pend, .pend, .pend, .pend] (some 22), .code (sub [i, i, i, i, i, i, i, i, i, i] (bodyOf T 55))], [], .run, .normal, none⟩
noncomputable def c1f2 : Fr := ⟨26, 108, fill (rl [(1, .ptr (nm 580) 0), (1, .tup []), (1, .ptr (nm 590) 0), (1, .ptr (nm 591) 0), (1, .ptr (nm 652) 0), (1, .bool true), (5, .tup []), (1, .ptr (nm 580) 0), (2, .bool false), (1, .ptr (nm 580) 0), (1, n64 128), (2, .bool false), (1, .func (.func 54) [] [.ptr (nm 590) 0, .ptr (nm 591) 0]), (1, .tup [.agg [n64 3, n64 1, n64 2], .bool true]), (1, .ptr (nm 580) 0), (1, .tup [.agg [n64 3, n64 1, n64 2], .bool true]), (1, .agg [n64 3, n64 1, n64 2]), (1, .bool true), (1, .tup []), (1, .ptr (nm 580) 0), (82, .tup [])]) 0 tm0, [inR (sub [i, i, i, i, o] (bodyOf T 26)) 1, .code (sub [i, i, i, i, i] (bodyOf T 26))], [⟨.fn 54 [.ptr (nm 590) 0, .ptr (nm 591) 0], []⟩], .run, .normal, none⟩
noncomputable def c1f3 : Fr := ⟨25, 26, fill (rl [(1, .ptr (nm 587) 0), (1, .nilptr), (4, .tup []), (1, .ptr (nm 580) 0), (19, .tup [])]) 0 tm0, [inR (sub [i, o] (bodyOf T 25)) 1, .code (sub [i, i] (bodyOf T 25))], [], .run, .normal, none⟩
noncomputable def c1f4 : Fr := ⟨19, 7, fill [.func (.func 25) [] [.ptr (nm 587) 0], .tup [], .ptr (nm 588) 0, .ptr (nm 589) 0, .func (.func 46) [] [.ptr (nm 588) 0, .ptr (nm 589) 0], .func (.func 25) [] [.ptr (nm 587) 0], .tup []] 0 tm0, [inR (sub [i, i, o] (bodyOf T 19)) 1, .code (.ret)], [⟨.fn 46 [.ptr (nm 588) 0, .ptr (nm 589) 0], []⟩], .run, .normal, none⟩
noncomputable def c1f5 : Fr := ⟨7, 8, fill [.ptr (nm 580) 0, .ptr (nm 587) 0, .nilptr, n64 0, .func (.func 25) [] [.ptr (nm 587) 0], .tup [], .tup [], .tup []] 0 tm0, [inR (sub [i, o] (bodyOf T 7)) 1, .code (.ret)], [], .run, .normal, none⟩
noncomputable def c1f6 : Fr := ⟨4, 66, fill (rl [(1, .bool false), (1, .ptr (nm 61) 0), (1, .ptr (nm 368) 0), (1, .ptr (nm 576) 0), (1, n64 0), (5, .tup []), (2, .ptr (nm 61) 0), (1, .bool false), (1, .agg (rl [(3, n64 0), (1, n64 1), (1, .str [47, 102]), (1, .str []), (3, .bool false), (3, n64 0), (2, .nilslc)])), (1, .ptr (nm 368) 0), (1, .ptr (nm 368) 2), (1, .tup [.agg (rl [(1, n64 0), (1, n64 2), (3, n64 0), (1, .bool false), (2, .nilslc)]), n64 0]), (1, .ptr (nm 61) 0), (2, .agg (rl [(2, n64 0), (2, n64 1), (1, .str [47, 102]), (1, .str []), (3, .bool false), (3, n64 0), (2, .nilslc)])), (1, .tup [.agg (rl [(1, n64 0), (1, n64 2), (3, n64 0), (1, .bool false), (2, .nilslc)]), n64 0]), (1, .agg (rl [(1, n64 0), (1, n64 2), (3, n64 0), (1, .bool false), (2, .nilslc)])), (1, n64 0), (1, .tup []), (1, .ptr (nm 61) 0), (1, .ptr (nm 2) 0), (1, .slc (nm 577) 0 1 1), (1, .ptr (nm 580) 0), (38, .tup [])]) 0 tm0, [inR (sub [i, i, i, i, i, i, o] (bodyOf T 4)) 4, .code (sub [i, i, i, i, i, i, i] (bodyOf T 4))], [], .run, .normal, none⟩
noncomputable def c1f7 : Fr := ⟨3, 63, fill (rl [(1, .bool false), (62, .tup [])]) 0 tm0, [inR (sub [i, o, o] (bodyOf T 3)) 0, .code (sub [i, o, i] (bodyOf T 3)), .code (sub [i, i] (bodyOf T 3))], [], .run, .normal, none⟩
noncomputable def c1o0 : AO := .cells (rl [(1, n8 1), (4, n8 0), (1, n8 3), (1, n8 1), (2, n8 0), (1, n8 2), (54, n8 0), (1, n8 1), (4, n8 0), (1, n8 4), (1, n8 1), (2, n8 0), (1, n8 3), (4088, n8 0), (1, n8 40), (63, n8 0), (1, n8 28), (1, n8 4), (7, n8 0), (1, n8 10), (54, n8 0), (1, n8 30), (7, n8 0), (2, n8 1), (1, n8 0), (1, n8 2), (1, n8 47), (1, n8 102), (3888, n8 0)]) 95
noncomputable def c1o1 : AO := .cells (rl [(1, n8 1), (4, n8 0), (1, n8 3), (1, n8 1), (2, n8 0), (1, n8 2), (54, n8 0), (1, n8 1), (4, n8 0), (1, n8 4), (1, n8 1), (2, n8 0), (1, n8 3), (4088, n8 0), (1, n8 40), (63, n8 0), (1, n8 28), (1, n8 4), (7, n8 0), (1, n8 10), (54, n8 0), (1, n8 30), (7, n8 0), (2, n8 1), (1, n8 0), (1, n8 2), (1, n8 47), (1, n8 102), (3888, n8 0)]) 95
noncomputable def c1o2 : AO := .cells [.slc (nm 0) 0 128 128, .slc (nm 1) 0 128 128, .nilslc, m64 0, n64 15, .bool false] 71
noncomputable def c1o3 : AO := .cells [.ptr (nm 2) 0, n64 4, n64 1, n64 3, n64 1, .slu (nm 507) 0 3 1] 127
noncomputable def c1o4 : AO := .cells (rl [(1, .ptr (nm 575) 0), (3, .nilptr), (1, .bool true)]) 216
noncomputable def c1o5 : AO := .map [(n64 1, .ptr (nm 55) 0, 0), (n64 2, .ptr (nm 526) 0, 1)] 2
noncomputable def c1o6 : AO := .map [(.str [102], n64 2, 0)] 1
noncomputable def c1o7 : AO := .cells [n64 0, .str [], .bool true, .map (nm 54)] 112
noncomputable def c1o8 : AO := .cells [.map (nm 53)] 116
noncomputable def c1o9 : AO := .cells [.bool true, .nilslc] 232
noncomputable def c1o10 : AO := .map [(n64 2, .ptr (nm 527) 0, 0)] 1
noncomputable def c1o11 : AO := .map [] 0
noncomputable def c1o12 : AO := .cells [n64 1, n64 0, n64 2, n64 0, n64 0, n64 0, n64 0, n64 0, .ptr (nm 52) 0, .ptr (nm 56) 0, .ptr (nm 57) 0, .map (nm 58), .map (nm 59)] 104
noncomputable def c1o13 : AO := .cells [.ptr (nm 51) 0, .ptr (nm 60) 0, .slu (nm 511) 0 2 14, .nilptr] 81
noncomputable def c1o14 : AO := .cells (rl [(40, n8 0)]) 5
noncomputable def c1o15 : AO := .cells (rl [(1, n8 4), (7, n8 0), (1, n8 10), (19, n8 0)]) 5
noncomputable def c1o16 : AO := .cells (rl [(2, n64 0), (2, n64 1), (1, .str [47, 102]), (1, .str []), (3, .bool false), (3, n64 0), (2, .nilslc)]) 49
noncomputable def c1o17 : AO := .cells (rl [(7, n8 0), (2, n8 1), (1, n8 0), (1, n8 2), (1, n8 47), (1, n8 102), (17, n8 0)]) 5
noncomputable def c1o18 : AO := .cells [.slu (nm 219) 0 40 1, .slu (nm 351) 0 28 1, .slu (nm 505) 0 30 1] 31
noncomputable def c1o19 : AO := .cells (rl [(1, n64 4), (2, n64 0), (1, n64 10), (2, .str []), (3, .bool false), (3, n64 0), (2, .nilslc), (2, n64 0), (2, n64 1), (1, .str [47, 102]), (1, .str []), (3, .bool false), (3, n64 0), (2, .nilslc)]) 44
noncomputable def c1o20 : AO := .cells [n64 1, .str [102], .bool false, .nilmap] 112
noncomputable def c1o21 : AO := .cells [.bool true, n64 0, .nilslc] 237
noncomputable def c1o22 : AO := .cells (rl [(2, n8 0), (1, n8 2), (11, n8 0)]) 5
noncomputable def c1o23 : AO := .cells [n64 0, n64 0, n64 1, .slu (nm 574) 0 14 1] 220
noncomputable def c1o24 : AO := .cells (rl [(1, n64 0), (1, n64 2), (3, n64 0), (1, .bool false), (2, .nilslc)]) 36
noncomputable def c1o25 : AO := .cells [n8 0] 5
noncomputable def c1o26 : AO := .cells (rl [(1, n8 1), (4, n8 0), (1, n8 3), (1, n8 1), (2, n8 0), (1, n8 2), (54, n8 0), (1, n8 1), (4, n8 0), (1, n8 4), (1, n8 1), (2, n8 0), (1, n8 3), (4088, n8 0), (1, n8 40), (63, n8 0), (1, n8 28), (1, n8 4), (7, n8 0), (1, n8 10), (54, n8 0), (1, n8 30), (7, n8 0), (2, n8 1), (1, n8 0), (1, n8 2), (1, n8 47), (1, n8 102), (3888, n8 0)]) 95
noncomputable def c1o27 : AO := .cells [.slu (nm 586) 0 128 64, .slc (nm 579) 0 128 128, .nilslc, m64 0, n64 0, .bool false] 71
noncomputable def c1o28 : AO := .cells (rl [(1, n8 1), (4, n8 0), (1, n8 3), (1, n8 1), (2, n8 0), (1, n8 2), (54, n8 0), (1, n8 1), (4, n8 0), (1, n8 4), (1, n8 1), (2, n8 0), (1, n8 3), (4088, n8 0), (1, n8 40), (63, n8 0), (1, n8 28), (1, n8 4), (7, n8 0), (1, n8 10), (54, n8 0), (1, n8 30), (7, n8 0), (2, n8 1), (1, n8 0), (1, n8 2), (1, n8 47), (1, n8 102), (3888, n8 0)]) 95
noncomputable def c1o29 : AO := .cells [.ptr (nm 580) 0] 27
noncomputable def c1o30 : AO := .cells [.nilptr] 23
noncomputable def c1o31 : AO := .cells [n64 0] 24
noncomputable def c1o32 : AO := .cells [.nilptr] 62
noncomputable def c1o33 : AO := .cells [n64 0] 24
noncomputable def c1o34 : AO := .cells [n64 3, n64 1, n64 2] 121
noncomputable def c1o35 : AO := .cells (rl [(3, n64 0)]) 121
noncomputable def c1o36 : AO := .cells (rl [(1, n8 1), (4, n8 0), (1, n8 4), (1, n8 1), (2, n8 0), (1, n8 3), (54, n8 0)]) 5
noncomputable def c1o37 : AO := .cells (rl [(1, n8 1), (4, n8 0), (1, n8 4), (1, n8 1), (2, n8 0), (1, n8 3), (54, n8 0)]) 5
noncomputable def c1o38 : AO := .cells [.bool true, .slu (nm 657) 10 54 1, n64 0] 246
noncomputable def c1o39 : AO := .cells [n64 4, n64 1, n64 3] 121
noncomputable def c1o40 : AO := .cells [n64 4, n64 1, n64 3] 121
noncomputable def c1o41 : AO := .cells [.slu (nm 702) 0 7 1, n64 0] 186
noncomputable def c1o42 : AO := .cells (rl [(1, n8 1), (4, n8 0), (1, n8 4), (1, n8 1)]) 5
noncomputable def c1o43 : AO := .cells [n8 0] 5
noncomputable def c1o44 : AO := .cells (rl [(2, n8 0)]) 5
noncomputable def c1h : List (Nm × AO) := [((nm 0), c1o0), ((nm 1), c1o1), ((nm 2), c1o2), ((nm 51), c1o3), ((nm 52), c1o4), ((nm 53), c1o5), ((nm 54), c1o6), ((nm 55), c1o7), ((nm 56), c1o8), ((nm 57), c1o9), ((nm 58), c1o10), ((nm 59), c1o11), ((nm 60), c1o12), ((nm 61), c1o13), ((nm 219), c1o14), ((nm 351), c1o15), ((nm 368), c1o16), ((nm 505), c1o17), ((nm 507), c1o18), ((nm 511), c1o19), ((nm 526), c1o20), ((nm 527), c1o21), ((nm 574), c1o22), ((nm 575), c1o23), ((nm 576), c1o24), ((nm 577), c1o25), ((nm 579), c1o26), ((nm 580), c1o27), ((nm 586), c1o28), ((nm 587), c1o29), ((nm 588), c1o30), ((nm 589), c1o31), ((nm 590), c1o32), ((nm 591), c1o33), ((nm 652), c1o34), ((nm 653), c1o35), ((nm 655), c1o36), ((nm 657), c1o37), ((nm 658), c1o38), ((nm 665), c1o39), ((nm 684), c1o40), ((nm 685), c1o41), ((nm 702), c1o42), ((nm 705), c1o43), ((nm 706), c1o44)]
noncomputable def c1 : Cf := .run ⟨73, [], .normal, none, [c1f0, c1f1, c1f2, c1f3, c1f4, c1f5, c1f6, c1f7]⟩ 41 (fill [.ptr (nm 685) 0, n64 3, n64 3, .tup [], .tup [], .tup [], .slu (nm 706) 0 2 1, n64 1, n64 3, .bool true, .bool false, .bool false, n64 3, .bool false, .bool false, .bool false, n64 3, n64 3, n64 24, n64 0, .bool false, .bool false, .tup [], .tup [], n64 3, n64 2, n64 1, .bool true, n64 2, n64 1, .slu (nm 704) 0 1 1, n64 3, n64 1, n64 8, n64 0, n8 0, .slc (nm 705) 0 1 1, .slu (nm 706) 0 2 1, .tup [], .tup [], .tup []] 0 tm0)
  [inR (sub [i, i, o, i, o, o, i, o, o] (bodyOf T 73)) 9, .inBlock 1, .code (sub [i, i, o, i, o, o, i, i] (bodyOf T 73)), .inLoop (sub [i, i, o, i, o, o] (bodyOf T 73)), .inBlock 0, .code (sub [i, i, i] (bodyOf T 73))] (lay c1h .leaf) (nm 707)

-- steps 50500
noncomputable def c2n : List Nm := [nm 0, nm 1, nm 2, nm 51, nm 52, nm 53, nm 54, nm 55, nm 56, nm 57, nm 58, nm 59, nm 60, nm 61, nm 219, nm 351, nm 368, nm 505, nm 507, nm 511, nm 526, nm 527, nm 574, nm 575, nm 576, nm 577, nm 579, nm 580, nm 586, nm 714, nm 719, nm 726, nm 733, nm 760, nm 761, nm 762, nm 817, nm 820, nm 821, nm 822, nm 823, nm 838, nm 1074, nm 1075, nm 1122, nm 1123, nm 1124, nm 1255, nm 1257, nm 1261, nm 1272, nm 1274, nm 1276, nm 1277, nm 1281, nm 1282]
noncomputable def c2f0 : Fr := ⟨42, 54, fill (rl [(1, .ptr (nm 823) 0), (1, .tup []), (1, .nilptr), (6, .tup []), (1, .ptr (nm 823) 0), (44, .tup [])]) 0 tm0, [inR (sub [i, o, o] (bodyOf T 42)) 1, .code (sub [i, o, i] (bodyOf T 42)), .code (sub [i, i] (bodyOf T 42))], [], .run, .normal, none⟩
noncomputable def c2f1 : Fr := ⟨40, 69, fill (rl [(1, .ptr (nm 762) 0), (1, .tup []), (1, .nilptr), (1, .ptr (nm 1272) 0), (4, .tup []), (1, .ptr (nm 762) 0), (1, .bool true), (1, .bool false), (2, .ptr (nm 762) 0), (1, .agg [n64 2, n64 0, n64 3, n64 0, n64 0, n64 0, n64 0, n64 0, .ptr (nm 817) 0, .ptr (nm 823) 0, .ptr (nm 838) 0, .map (nm 760), .map (nm 761)]), (1, .tup [.ptr (nm 1277) 0, n64 0]), (2, .ptr (nm 762) 0), (1, .ptr (nm 762) 8), (1, .ptr (nm 817) 0), (1, .slu (nm 1276) 0 1 4), (1, .tup [.ptr (nm 1277) 0, n64 0]), (1, .ptr (nm 1277) 0), (1, n64 0), (1, .ptr (nm 1272) 8), (45, .tup [])]) 0 tm0, [drawnR (sub [i, i, i, i, o] (bodyOf T 40)) [.done (.ptr (nm 762) 0), .done (.ptr (nm 762) 0), .done (.ptr (nm 762) 9), .done (.ptr (nm 823) 0), .pend, .done (.ptr (nm 762) 0), .done (.ptr (nm 762) 0), .done (.ptr (nm 762) 10), .done (.ptr (nm 838) 0), .pend, .pend, .pend, .pend, .pend] (some 4), .code (sub [i, i, i, i, i] (bodyOf T 40))], [], .run, .normal, none⟩
noncomputable def c2f2 : Fr := ⟨15, 11, fill [.ptr (nm 1124) 0, .tup [], .nilptr, .ptr (nm 1124) 0, .bool true, .bool false, .ptr (nm 1124) 0, .ptr (nm 1124) 0, .ptr (nm 1124) 1, .ptr (nm 762) 0, .tup []] 0 tm0, [inR (sub [i, i, o] (bodyOf T 15)) 4, .code (.ret)], [], .run, .normal, none⟩
noncomputable def c2f3 : Fr := ⟨4, 66, fill (rl [(1, .bool false), (1, .ptr (nm 61) 0), (1, .ptr (nm 368) 0), (1, .ptr (nm 576) 0), (1, n64 0), (1, .ptr (nm 1124) 0), (1, n64 0), (3, .tup []), (2, .ptr (nm 61) 0), (1, .bool false), (1, .agg (rl [(3, n64 0), (1, n64 1), (1, .str [47, 102]), (1, .str []), (3, .bool false), (3, n64 0), (2, .nilslc)])), (1, .ptr (nm 368) 0), (1, .ptr (nm 368) 2), (1, .tup [.agg (rl [(1, n64 0), (1, n64 2), (3, n64 0), (1, .bool false), (2, .nilslc)]), n64 0]), (1, .ptr (nm 61) 0), (2, .agg (rl [(2, n64 0), (2, n64 1), (1, .str [47, 102]), (1, .str []), (3, .bool false), (3, n64 0), (2, .nilslc)])), (1, .tup [.agg (rl [(1, n64 0), (1, n64 2), (3, n64 0), (1, .bool false), (2, .nilslc)]), n64 0]), (1, .agg (rl [(1, n64 0), (1, n64 2), (3, n64 0), (1, .bool false), (2, .nilslc)])), (1, n64 0), (1, .tup [.ptr (nm 1124) 0, n64 0]), (1, .ptr (nm 61) 0), (1, .ptr (nm 2) 0), (1, .slc (nm 577) 0 1 1), (1, .ptr (nm 580) 0), (1, .tup [.ptr (nm 1124) 0, n64 0]), (1, .ptr (nm 1124) 0), (2, n64 0), (2, .bool false), (1, n64 0), (3, .bool false), (1, .ptr (nm 1124) 0), (3, .bool false), (1, .ptr (nm 576) 1), (1, n64 2), (2, .bool false), (1, .tup []), (1, .ptr (nm 1124) 0), (18, .tup [])]) 0 tm0, [inR (sub [i, i, i, i, i, i, i, i, o] (bodyOf T 4)) 1, .code (sub [i, i, i, i, i, i, i, i, i] (bodyOf T 4))], [], .run, .normal, none⟩
noncomputable def c2f4 : Fr := ⟨3, 63, fill (rl [(1, .bool false), (62, .tup [])]) 0 tm0, [inR (sub [i, o, o] (bodyOf T 3)) 0, .code (sub [i, o, i] (bodyOf T 3)), .code (sub [i, i] (bodyOf T 3))], [], .run, .normal, none⟩
noncomputable def c2o0 : AO := .cells (rl [(1, n8 1), (4, n8 0), (1, n8 3), (1, n8 1), (2, n8 0), (1, n8 2), (54, n8 0), (1, n8 1), (4, n8 0), (1, n8 4), (1, n8 1), (2, n8 0), (1, n8 3), (4088, n8 0), (1, n8 40), (63, n8 0), (1, n8 28), (1, n8 4), (7, n8 0), (1, n8 10), (54, n8 0), (1, n8 30), (7, n8 0), (2, n8 1), (1, n8 0), (1, n8 2), (1, n8 47), (1, n8 102), (3888, n8 0)]) 95
noncomputable def c2o1 : AO := .cells (rl [(1, n8 1), (4, n8 0), (1, n8 3), (1, n8 1), (2, n8 0), (1, n8 2), (54, n8 0), (1, n8 1), (4, n8 0), (1, n8 4), (1, n8 1), (2, n8 0), (1, n8 3), (4088, n8 0), (1, n8 40), (63, n8 0), (1, n8 28), (1, n8 4), (7, n8 0), (1, n8 10), (54, n8 0), (1, n8 30), (7, n8 0), (2, n8 1), (1, n8 0), (1, n8 2), (1, n8 47), (1, n8 102), (3888, n8 0)]) 95
noncomputable def c2o2 : AO := .cells [.slc (nm 0) 0 128 128, .slc (nm 1) 0 128 128, .nilslc, m64 0, n64 15, .bool false] 71
noncomputable def c2o3 : AO := .cells [.ptr (nm 2) 0, n64 4, n64 1, n64 3, n64 1, .slu (nm 507) 0 3 1] 127
noncomputable def c2o4 : AO := .cells (rl [(1, .ptr (nm 575) 0), (3, .nilptr), (1, .bool true)]) 216
noncomputable def c2o5 : AO := .map [(n64 1, .ptr (nm 55) 0, 0), (n64 2, .ptr (nm 526) 0, 1)] 2
noncomputable def c2o6 : AO := .map [(.str [102], n64 2, 0)] 1
noncomputable def c2o7 : AO := .cells [n64 0, .str [], .bool true, .map (nm 54)] 112
noncomputable def c2o8 : AO := .cells [.map (nm 53)] 116
noncomputable def c2o9 : AO := .cells [.bool true, .nilslc] 232
noncomputable def c2o10 : AO := .map [(n64 2, .ptr (nm 527) 0, 0)] 1
noncomputable def c2o11 : AO := .map [] 0
noncomputable def c2o12 : AO := .cells [n64 1, n64 0, n64 2, n64 0, n64 0, n64 0, n64 0, n64 0, .ptr (nm 52) 0, .ptr (nm 56) 0, .ptr (nm 57) 0, .map (nm 58), .map (nm 59)] 104
noncomputable def c2o13 : AO := .cells [.ptr (nm 51) 0, .ptr (nm 60) 0, .slu (nm 511) 0 2 14, .nilptr] 81
noncomputable def c2o14 : AO := .cells (rl [(40, n8 0)]) 5
noncomputable def c2o15 : AO := .cells (rl [(1, n8 4), (7, n8 0), (1, n8 10), (19, n8 0)]) 5
noncomputable def c2o16 : AO := .cells (rl [(2, n64 0), (2, n64 1), (1, .str [47, 102]), (1, .str []), (3, .bool false), (3, n64 0), (2, .nilslc)]) 49
noncomputable def c2o17 : AO := .cells (rl [(7, n8 0), (2, n8 1), (1, n8 0), (1, n8 2), (1, n8 47), (1, n8 102), (17, n8 0)]) 5
noncomputable def c2o18 : AO := .cells [.slu (nm 219) 0 40 1, .slu (nm 351) 0 28 1, .slu (nm 505) 0 30 1] 31
noncomputable def c2o19 : AO := .cells (rl [(1, n64 4), (2, n64 0), (1, n64 10), (2, .str []), (3, .bool false), (3, n64 0), (2, .nilslc), (2, n64 0), (2, n64 1), (1, .str [47, 102]), (1, .str []), (3, .bool false), (3, n64 0), (2, .nilslc)]) 44
noncomputable def c2o20 : AO := .cells [n64 1, .str [102], .bool false, .nilmap] 112
noncomputable def c2o21 : AO := .cells [.bool true, n64 0, .nilslc] 237
noncomputable def c2o22 : AO := .cells (rl [(2, n8 0), (1, n8 2), (11, n8 0)]) 5
noncomputable def c2o23 : AO := .cells [n64 0, n64 0, n64 1, .slu (nm 574) 0 14 1] 220
noncomputable def c2o24 : AO := .cells (rl [(1, n64 0), (1, n64 2), (3, n64 0), (1, .bool false), (2, .nilslc)]) 36
noncomputable def c2o25 : AO := .cells [n8 0] 5
noncomputable def c2o26 : AO := .cells (rl [(1, n8 1), (4, n8 0), (1, n8 5), (1, n8 1), (2, n8 0), (1, n8 4), (54, n8 0), (1, n8 1), (4, n8 0), (1, n8 4), (1, n8 1), (2, n8 0), (1, n8 3), (4088, n8 0), (1, n8 40), (63, n8 0), (1, n8 28), (1, n8 4), (7, n8 0), (1, n8 10), (54, n8 0), (1, n8 30), (7, n8 0), (2, n8 1), (1, n8 0), (1, n8 2), (1, n8 47), (1, n8 102), (50, n8 0), (1, n8 28), (1, n8 4), (7, n8 0), (1, n8 10), (3828, n8 0)]) 95
noncomputable def c2o27 : AO := .cells [.slu (nm 586) 0 128 64, .slc (nm 579) 0 128 128, .nilslc, m64 0, n64 4, .bool false] 71
noncomputable def c2o28 : AO := .cells (rl [(1, n8 1), (4, n8 0), (1, n8 5), (1, n8 1), (2, n8 0), (1, n8 4), (54, n8 0), (1, n8 1), (4, n8 0), (1, n8 4), (1, n8 1), (2, n8 0), (1, n8 3), (4088, n8 0), (1, n8 40), (63, n8 0), (1, n8 28), (1, n8 4), (7, n8 0), (1, n8 10), (54, n8 0), (1, n8 30), (7, n8 0), (2, n8 1), (1, n8 0), (1, n8 2), (1, n8 47), (1, n8 102), (50, n8 0), (1, n8 28), (1, n8 4), (7, n8 0), (1, n8 10), (3828, n8 0)]) 95
noncomputable def c2o29 : AO := .cells [.ptr (nm 580) 0, n64 5, n64 1, n64 4, n64 0, .slu (nm 1257) 0 4 1] 127
noncomputable def c2o30 : AO := .cells (rl [(40, n8 0)]) 5
noncomputable def c2o31 : AO := .cells (rl [(1, n8 4), (7, n8 0), (1, n8 10), (19, n8 0)]) 5
noncomputable def c2o32 : AO := .cells (rl [(7, n8 0), (2, n8 1), (1, n8 0), (1, n8 2), (1, n8 47), (1, n8 102), (17, n8 0)]) 5
noncomputable def c2o33 : AO := .map [(n64 2, .ptr (nm 1075) 0, 0)] 1
noncomputable def c2o34 : AO := .map [] 0
noncomputable def c2o35 : AO := .cells [n64 2, n64 0, n64 3, n64 0, n64 0, n64 0, n64 0, n64 0, .ptr (nm 817) 0, .ptr (nm 823) 0, .ptr (nm 838) 0, .map (nm 760), .map (nm 761)] 104
noncomputable def c2o36 : AO := .cells (rl [(1, .ptr (nm 1123) 0), (3, .nilptr), (1, .bool true)]) 216
noncomputable def c2o37 : AO := .map [(n64 1, .ptr (nm 822) 0, 0), (n64 2, .ptr (nm 1074) 0, 1)] 2
noncomputable def c2o38 : AO := .map [(.str [102], n64 2, 0)] 1
noncomputable def c2o39 : AO := .cells [n64 0, .str [], .bool true, .map (nm 821)] 112
noncomputable def c2o40 : AO := .cells [.map (nm 820)] 116
noncomputable def c2o41 : AO := .cells [.bool true, .nilslc] 232
noncomputable def c2o42 : AO := .cells [n64 1, .str [102], .bool false, .nilmap] 112
noncomputable def c2o43 : AO := .cells [.bool true, n64 0, .nilslc] 237
noncomputable def c2o44 : AO := .cells (rl [(2, n8 0), (1, n8 2), (11, n8 0)]) 5
noncomputable def c2o45 : AO := .cells [n64 0, n64 0, n64 1, .slu (nm 1122) 0 14 1] 220
noncomputable def c2o46 : AO := .cells [.ptr (nm 714) 0, .ptr (nm 762) 0, .slu (nm 1261) 0 1 14, .nilptr] 81
noncomputable def c2o47 : AO := .cells (rl [(1, n8 4), (7, n8 0), (1, n8 10), (19, n8 0)]) 5
noncomputable def c2o48 : AO := .cells [.slu (nm 719) 0 40 1, .slu (nm 726) 0 28 1, .slu (nm 733) 0 30 1, .slu (nm 1255) 0 28 1] 31
noncomputable def c2o49 : AO := .cells (rl [(1, n64 4), (2, n64 0), (1, n64 10), (2, .str []), (3, .bool false), (3, n64 0), (2, .nilslc)]) 44
noncomputable def c2o50 : AO := .cells [n64 2, n64 0, n64 3, n64 0, n64 0, n64 0, n64 0, n64 0, .ptr (nm 1277) 0, .ptr (nm 823) 0, .ptr (nm 838) 0, .map (nm 760), .map (nm 761)] 104
noncomputable def c2o51 : AO := .cells (rl [(2, n8 0), (1, n8 2), (11, n8 0)]) 5
noncomputable def c2o52 : AO := .cells [n64 0, n64 0, n64 1, .slu (nm 1274) 0 14 1] 220
noncomputable def c2o53 : AO := .cells (rl [(1, .ptr (nm 1282) 0), (3, .nilptr), (1, .bool true)]) 216
noncomputable def c2o54 : AO := .cells (rl [(2, n8 0), (1, n8 2), (11, n8 0)]) 5
noncomputable def c2o55 : AO := .cells [n64 0, n64 0, n64 1, .slu (nm 1281) 0 14 1] 220
noncomputable def c2h : List (Nm × AO) := [((nm 0), c2o0), ((nm 1), c2o1), ((nm 2), c2o2), ((nm 51), c2o3), ((nm 52), c2o4), ((nm 53), c2o5), ((nm 54), c2o6), ((nm 55), c2o7), ((nm 56), c2o8), ((nm 57), c2o9), ((nm 58), c2o10), ((nm 59), c2o11), ((nm 60), c2o12), ((nm 61), c2o13), ((nm 219), c2o14), ((nm 351), c2o15), ((nm 368), c2o16), ((nm 505), c2o17), ((nm 507), c2o18), ((nm 511), c2o19), ((nm 526), c2o20), ((nm 527), c2o21), ((nm 574), c2o22), ((nm 575), c2o23), ((nm 576), c2o24), ((nm 577), c2o25), ((nm 579), c2o26), ((nm 580), c2o27), ((nm 586), c2o28), ((nm 714), c2o29), ((nm 719), c2o30), ((nm 726), c2o31), ((nm 733), c2o32), ((nm 760), c2o33), ((nm 761), c2o34), ((nm 762), c2o35), ((nm 817), c2o36), ((nm 820), c2o37), ((nm 821), c2o38), ((nm 822), c2o39), ((nm 823), c2o40), ((nm 838), c2o41), ((nm 1074), c2o42), ((nm 1075), c2o43), ((nm 1122), c2o44), ((nm 1123), c2o45), ((nm 1124), c2o46), ((nm 1255), c2o47), ((nm 1257), c2o48), ((nm 1261), c2o49), ((nm 1272), c2o50), ((nm 1274), c2o51), ((nm 1276), c2o52), ((nm 1277), c2o53), ((nm 1281), c2o54), ((nm 1282), c2o55)]
noncomputable def c2 : Cf := .run ⟨43, [], .normal, none, [c2f0, c2f1, c2f2, c2f3, c2f4]⟩ 12 (fill (rl [(1, .ptr (nm 823) 0), (11, .tup [])]) 0 tm0)
  [.code (sub [o] (bodyOf T 43)), .code (sub [i] (bodyOf T 43))] (lay c2h .leaf) (nm 1283)

end Tabs
end Go.Proofs.YtepgappljifekaaGreat
