/- StubBound: some of its configurations. -/
import Derived.Test.YtghdjomjcododaaGreatDoorEvStubBoundC
import Derived.KernelRfl
namespace Go.Proofs.YtghdjomjcododaaGreatDoor.stubBound
open Go Go.RowKit Go.YtghdjomjcododaaGreatDoorEv
set_option linter.unusedVariables false
set_option linter.unusedSectionVars false
set_option maxRecDepth 100000
noncomputable def tb25f : List SV := ovr tb0 0 [(1, n6 5), (17, n6 20), (37, n6 5), (41, n6 5), (69, n6 5), (70, n6 53), (71, n8 53), (73, .str 1 53), (74, .str 18 4636840997470955502611346364165578978259055), (75, .str 27 24046958046621465266715016762718861024504360929778885429709533295), (103, n6 5), (104, n6 20), (106, n6 20)]
noncomputable def pt25f_0 : List SV := ovr tb25f 0 [(10, p0 124), (13, p0 133), (14, p0 134), (16, .iface 64 (p0 136)), (18, n6 0), (19, uU), (20, uU), (21, uU), (22, uU), (53, p0 124), (63, se 126 1), (72, se 127 1), (79, se 128 1), (84, p0 124), (86, so 129 67 1), (88, p0 124), (89, p0 133), (90, p0 133), (95, p0 133), (97, .iface 64 (p0 136)), (98, .iface 64 (p0 136)), (105, uU), (106, uU), (107, uU), (108, uU), (109, uU), (110, uU), (111, uU), (112, uU), (113, uU), (114, uU), (115, uU), (116, uU), (117, uU), (118, uU), (119, uU), (120, uU), (121, uU), (122, uU), (123, uU), (124, uU), (125, uU), (126, uU), (127, uU), (128, uU), (129, uU), (130, uU)]
noncomputable def pm25f_0 : LMem := ⟨261, [(122, .map [(.str 11 143165318198446180925728047, .agg [so 131 67 1, n6 1, bF], 0)] 1), (123, .map [] 0), (124, .cells 57 0 [n6 0, n6 1, .map 122, so 260 1 3, nS, nS, .map 123, n6 0, n6 0]), (126, .cells 5 0 (u8s [50])), (127, .cells 5 0 (u8s [53])), (128, .cells 5 0 [hol 3]), (129, .cells 5 1 [n8 110, n8 97, n8 109, n8 101, n8 115, n8 101, n8 114, n8 118, n8 101, n8 114, n8 32, n8 49, n8 46, n8 50, n8 46, n8 51, n8 46, n8 49, n8 10, n8 110, n8 97, n8 109, n8 101, n8 115, n8 101, n8 114, n8 118, n8 101, n8 114, n8 32, n8 49, n8 46, n8 50, n8 46, n8 51, n8 46, n8 50, n8 10, n8 111, n8 112, n8 116, n8 105, n8 111, n8 110, n8 115, n8 32, n8 97, n8 116, n8 116, n8 101, n8 109, n8 112, n8 116, n8 115, n8 58, n8 53, n8 32, n8 116, n8 105, n8 109, n8 101, n8 111, n8 117, n8 116, n8 58, hol 3, n8 10]), (131, .cells 5 0 [n8 110, n8 97, n8 109, n8 101, n8 115, n8 101, n8 114, n8 118, n8 101, n8 114, n8 32, n8 49, n8 46, n8 50, n8 46, n8 51, n8 46, n8 49, n8 10, n8 110, n8 97, n8 109, n8 101, n8 115, n8 101, n8 114, n8 118, n8 101, n8 114, n8 32, n8 49, n8 46, n8 50, n8 46, n8 51, n8 46, n8 50, n8 10, n8 111, n8 112, n8 116, n8 105, n8 111, n8 110, n8 115, n8 32, n8 97, n8 116, n8 116, n8 101, n8 109, n8 112, n8 116, n8 115, n8 58, n8 53, n8 32, n8 116, n8 105, n8 109, n8 101, n8 111, n8 117, n8 116, n8 58, hol 3, n8 10]), (133, .cells 63 0 [p0 124, n6 1, n6 1]), (134, .cells 30 0 [n6 1, .str 3 7876200, .str 0 0, n6 0]), (136, .cells 71 0 [p0 133, so 212 2 1, nS, n6 1, hol 0, n6 5, bF, n6 0, so 219 1 1, se 137 2, n6 0, n6 0, so 255 1 3, hol 0, .int .i64 (.negSucc 0), .str 0 0, nS, nS, bF, se 143 1, nS, nS, n6 0, n6 0, .nilIface, bF]), (137, .cells 3 0 [n6 1, n6 28]), (143, .cells 78 0 [.str 11 143165318198446180925728047, n6 1]), (212, .cells 9 0 [.str 4 16974337, .str 4 33751553]), (219, .cells 9 0 [.str 3 7876200]), (251, .cells 5 0 (u8s [0, 1, 1, 0, 0, 1, 0, 0, 0, 0, 0, 0, 1, 104, 1, 120, 0, 0, 1, 0, 1])), (255, .cells 106 0 [n6 1, .str 4 16974337, so 251 21 1]), (258, .cells 5 0 (u8s [0, 1, 1, 0, 0, 1, 0, 0, 0, 0, 0, 0, 1, 104, 1, 120, 0, 0, 1, 0, 1])), (260, .cells 49 0 [.str 4 16974337, bF, so 258 21 1])]⟩
noncomputable def wt25f_0 : List SV := ovr tb25f 0 []
noncomputable def wm25f_0 : LMem := ⟨30, [(8, .cells 57 0 [hol 7, n6 1, .map 16, so 17 1 3, nS, nS, .map 18, n6 0, n6 0]), (9, .cells 63 0 [p0 8, n6 1, n6 1]), (10, .cells 30 0 [n6 1, .str 3 7876200, .str 0 0, n6 0]), (11, .cells 71 0 [p0 9, so 19 2 1, nS, n6 1, hol 0, n6 5, bF, n6 0, so 20 1 1, se 21 2, n6 0, n6 0, so 22 1 3, hol 0, .int .i64 (.negSucc 0), .str 0 0, nS, nS, bF, se 23 1, nS, nS, n6 0, n6 0, .nilIface, bF]), (12, .cells 5 0 (u8s [50])), (13, .cells 5 0 (u8s [53])), (14, .cells 5 0 [hol 3]), (15, .cells 5 1 [n8 110, n8 97, n8 109, n8 101, n8 115, n8 101, n8 114, n8 118, n8 101, n8 114, n8 32, n8 49, n8 46, n8 50, n8 46, n8 51, n8 46, n8 49, n8 10, n8 110, n8 97, n8 109, n8 101, n8 115, n8 101, n8 114, n8 118, n8 101, n8 114, n8 32, n8 49, n8 46, n8 50, n8 46, n8 51, n8 46, n8 50, n8 10, n8 111, n8 112, n8 116, n8 105, n8 111, n8 110, n8 115, n8 32, n8 97, n8 116, n8 116, n8 101, n8 109, n8 112, n8 116, n8 115, n8 58, n8 53, n8 32, n8 116, n8 105, n8 109, n8 101, n8 111, n8 117, n8 116, n8 58, hol 3, n8 10]), (16, .map [(.str 11 143165318198446180925728047, .agg [so 24 67 1, n6 1, bF], 0)] 1), (17, .cells 49 0 [.str 4 16974337, bF, so 25 21 1]), (18, .map [] 0), (19, .cells 9 0 [.str 4 16974337, .str 4 33751553]), (20, .cells 9 0 [.str 3 7876200]), (21, .cells 3 0 [n6 1, n6 28]), (22, .cells 106 0 [n6 1, .str 4 16974337, so 26 21 1]), (23, .cells 78 0 [.str 11 143165318198446180925728047, n6 1]), (24, .cells 5 0 [n8 110, n8 97, n8 109, n8 101, n8 115, n8 101, n8 114, n8 118, n8 101, n8 114, n8 32, n8 49, n8 46, n8 50, n8 46, n8 51, n8 46, n8 49, n8 10, n8 110, n8 97, n8 109, n8 101, n8 115, n8 101, n8 114, n8 118, n8 101, n8 114, n8 32, n8 49, n8 46, n8 50, n8 46, n8 51, n8 46, n8 50, n8 10, n8 111, n8 112, n8 116, n8 105, n8 111, n8 110, n8 115, n8 32, n8 97, n8 116, n8 116, n8 101, n8 109, n8 112, n8 116, n8 115, n8 58, n8 53, n8 32, n8 116, n8 105, n8 109, n8 101, n8 111, n8 117, n8 116, n8 58, hol 3, n8 10]), (25, .cells 5 0 (u8s [0, 1, 1, 0, 0, 1, 0, 0, 0, 0, 0, 0, 1, 104, 1, 120, 0, 0, 1, 0, 1])), (26, .cells 5 0 (u8s [0, 1, 1, 0, 0, 1, 0, 0, 0, 0, 0, 0, 1, 104, 1, 120, 0, 0, 1, 0, 1]))]⟩
noncomputable def wt25f_1 : List SV := ovr tb25f 0 [(18, hol 10), (19, p0 31), (105, hol 11), (110, hol 11), (111, hol 10), (122, so 32 2 3), (123, n6 2), (124, hol 11), (126, n6 1), (127, n6 2)]
noncomputable def wm25f_1 : LMem := ⟨35, mrg wm25f_0.blks [Cc 8 57 [hol 10, n6 1, .map 16, so 27 2 3, nS, nS, .map 18, n6 0, n6 0], Cc 9 63 [p0 8, n6 2, n6 1], Cc 11 71 [p0 9, so 19 2 1, nS, n6 1, hol 0, n6 5, bF, n6 0, so 20 1 1, se 21 2, n6 0, n6 0, so 28 2 3, hol 12, .int .i64 (.negSucc 0), .str 0 0, nS, nS, bF, se 23 1, nS, nS, n6 0, n6 0, .nilIface, bF], Dd 17, Dd 22, Cc 27 49 [.str 4 16974337, bF, so 25 21 1, .str 4 33751553, bF, so 29 21 1], Cc 28 106 [n6 1, .str 4 16974337, so 26 21 1, n6 2, .str 4 33751553, so 30 21 1], (29, some (.cells 5 0 (u8s [0, 2, 1, 0, 0, 1, 0, 0, 0, 0, 0, 0, 1, 104, 1, 120, 0, 0, 1, 0, 1]))), (30, some (.cells 5 0 (u8s [0, 2, 1, 0, 0, 1, 0, 0, 0, 0, 0, 0, 1, 104, 1, 120, 0, 0, 1, 0, 1])))]⟩
noncomputable def wt25f_2 : List SV := ovr tb25f 0 [(18, hol 13), (19, p0 35), (105, hol 14), (110, hol 14), (111, hol 13), (122, so 36 3 3), (123, n6 3), (124, hol 14), (126, n6 2), (127, n6 3)]
noncomputable def wm25f_2 : LMem := ⟨40, mrg wm25f_1.blks [Cc 8 57 [hol 13, n6 1, .map 16, so 31 3 3, nS, nS, .map 18, n6 0, n6 0], Cc 9 63 [p0 8, n6 3, n6 1], Cc 11 71 [p0 9, so 19 2 1, nS, n6 1, hol 0, n6 5, bF, n6 0, so 20 1 1, se 21 2, n6 0, n6 0, so 32 3 3, hol 15, .int .i64 (.negSucc 0), .str 0 0, nS, nS, bF, se 23 1, nS, nS, n6 0, n6 0, .nilIface, bF], Dd 27, Dd 28, Cc 31 49 [.str 4 16974337, bF, so 25 21 1, .str 4 33751553, bF, so 29 21 1, .str 4 16974337, bF, so 33 21 1], Cc 32 106 [n6 1, .str 4 16974337, so 26 21 1, n6 2, .str 4 33751553, so 30 21 1, n6 3, .str 4 16974337, so 34 21 1], (33, some (.cells 5 0 (u8s [0, 3, 1, 0, 0, 1, 0, 0, 0, 0, 0, 0, 1, 104, 1, 120, 0, 0, 1, 0, 1]))), (34, some (.cells 5 0 (u8s [0, 3, 1, 0, 0, 1, 0, 0, 0, 0, 0, 0, 1, 104, 1, 120, 0, 0, 1, 0, 1])))]⟩
noncomputable def wt25f_3 : List SV := ovr tb25f 0 [(18, hol 16), (19, p0 39), (105, hol 17), (110, hol 17), (111, hol 16), (122, so 40 4 3), (123, n6 4), (124, hol 17), (126, n6 3), (127, n6 4)]
noncomputable def wm25f_3 : LMem := ⟨45, mrg wm25f_2.blks [Cc 8 57 [hol 16, n6 1, .map 16, so 35 4 3, nS, nS, .map 18, n6 0, n6 0], Cc 9 63 [p0 8, n6 4, n6 1], Cc 11 71 [p0 9, so 19 2 1, nS, n6 1, hol 0, n6 5, bF, n6 0, so 20 1 1, se 21 2, n6 0, n6 0, so 36 4 3, hol 18, .int .i64 (.negSucc 0), .str 0 0, nS, nS, bF, se 23 1, nS, nS, n6 0, n6 0, .nilIface, bF], Dd 31, Dd 32, Cc 35 49 [.str 4 16974337, bF, so 25 21 1, .str 4 33751553, bF, so 29 21 1, .str 4 16974337, bF, so 33 21 1, .str 4 33751553, bF, so 37 21 1], Ca 36 106 wm25f_2 32 [n6 4, .str 4 33751553, so 38 21 1], (37, some (.cells 5 0 (u8s [0, 4, 1, 0, 0, 1, 0, 0, 0, 0, 0, 0, 1, 104, 1, 120, 0, 0, 1, 0, 1]))), (38, some (.cells 5 0 (u8s [0, 4, 1, 0, 0, 1, 0, 0, 0, 0, 0, 0, 1, 104, 1, 120, 0, 0, 1, 0, 1])))]⟩
noncomputable def wt25f_4 : List SV := ovr tb25f 0 [(18, hol 19), (19, p0 43), (105, hol 20), (110, hol 20), (111, hol 19), (122, so 44 5 3), (123, n6 5), (124, hol 20), (126, n6 4), (127, n6 5)]
noncomputable def wm25f_4 : LMem := ⟨50, mrg wm25f_3.blks [Cc 8 57 [hol 19, n6 1, .map 16, so 39 5 3, nS, nS, .map 18, n6 0, n6 0], Cc 9 63 [p0 8, n6 5, n6 1], Cc 11 71 [p0 9, so 19 2 1, nS, n6 1, hol 0, n6 5, bF, n6 0, so 20 1 1, se 21 2, n6 0, n6 0, so 40 5 3, hol 21, .int .i64 (.negSucc 0), .str 0 0, nS, nS, bF, se 23 1, nS, nS, n6 0, n6 0, .nilIface, bF], Dd 35, Dd 36, Ca 39 49 wm25f_3 35 [.str 4 16974337, bF, so 41 21 1], Ca 40 106 wm25f_3 36 [n6 5, .str 4 16974337, so 42 21 1], (41, some (.cells 5 0 (u8s [0, 5, 1, 0, 0, 1, 0, 0, 0, 0, 0, 0, 1, 104, 1, 120, 0, 0, 1, 0, 1]))), (42, some (.cells 5 0 (u8s [0, 5, 1, 0, 0, 1, 0, 0, 0, 0, 0, 0, 1, 104, 1, 120, 0, 0, 1, 0, 1])))]⟩
noncomputable def wt25f_5 : List SV := ovr tb25f 0 [(18, hol 22), (19, p0 47), (105, hol 23), (110, hol 23), (111, hol 22), (122, so 48 6 3), (123, n6 6), (124, hol 23), (126, n6 5), (127, n6 6)]
noncomputable def wm25f_5 : LMem := ⟨55, mrg wm25f_4.blks [Cc 8 57 [hol 22, n6 1, .map 16, so 43 6 3, nS, nS, .map 18, n6 0, n6 0], Cc 9 63 [p0 8, n6 6, n6 1], Cc 11 71 [p0 9, so 19 2 1, nS, n6 1, hol 0, n6 5, bF, n6 0, so 20 1 1, se 21 2, n6 0, n6 0, so 44 6 3, hol 24, .int .i64 (.negSucc 0), .str 0 0, nS, nS, bF, se 23 1, nS, nS, n6 0, n6 0, .nilIface, bF], Dd 39, Dd 40, Ca 43 49 wm25f_4 39 [.str 4 33751553, bF, so 45 21 1], Ca 44 106 wm25f_4 40 [n6 6, .str 4 33751553, so 46 21 1], (45, some (.cells 5 0 (u8s [0, 6, 1, 0, 0, 1, 0, 0, 0, 0, 0, 0, 1, 104, 1, 120, 0, 0, 1, 0, 1]))), (46, some (.cells 5 0 (u8s [0, 6, 1, 0, 0, 1, 0, 0, 0, 0, 0, 0, 1, 104, 1, 120, 0, 0, 1, 0, 1])))]⟩
noncomputable def wt25f_6 : List SV := ovr tb25f 0 [(18, hol 25), (19, p0 51), (105, hol 26), (110, hol 26), (111, hol 25), (122, so 52 7 3), (123, n6 7), (124, hol 26), (126, n6 6), (127, n6 7)]
noncomputable def wm25f_6 : LMem := ⟨60, mrg wm25f_5.blks [Cc 8 57 [hol 25, n6 1, .map 16, so 47 7 3, nS, nS, .map 18, n6 0, n6 0], Cc 9 63 [p0 8, n6 7, n6 1], Cc 11 71 [p0 9, so 19 2 1, nS, n6 1, hol 0, n6 5, bF, n6 0, so 20 1 1, se 21 2, n6 0, n6 0, so 48 7 3, hol 27, .int .i64 (.negSucc 0), .str 0 0, nS, nS, bF, se 23 1, nS, nS, n6 0, n6 0, .nilIface, bF], Dd 43, Dd 44, Ca 47 49 wm25f_5 43 [.str 4 16974337, bF, so 49 21 1], Ca 48 106 wm25f_5 44 [n6 7, .str 4 16974337, so 50 21 1], (49, some (.cells 5 0 (u8s [0, 7, 1, 0, 0, 1, 0, 0, 0, 0, 0, 0, 1, 104, 1, 120, 0, 0, 1, 0, 1]))), (50, some (.cells 5 0 (u8s [0, 7, 1, 0, 0, 1, 0, 0, 0, 0, 0, 0, 1, 104, 1, 120, 0, 0, 1, 0, 1])))]⟩
noncomputable def wt25f_7 : List SV := ovr tb25f 0 [(18, hol 28), (19, p0 55), (105, hol 29), (110, hol 29), (111, hol 28), (122, so 56 8 3), (123, n6 8), (124, hol 29), (126, n6 7), (127, n6 8)]
noncomputable def wm25f_7 : LMem := ⟨65, mrg wm25f_6.blks [Cc 8 57 [hol 28, n6 1, .map 16, so 51 8 3, nS, nS, .map 18, n6 0, n6 0], Cc 9 63 [p0 8, n6 8, n6 1], Cc 11 71 [p0 9, so 19 2 1, nS, n6 1, hol 0, n6 5, bF, n6 0, so 20 1 1, se 21 2, n6 0, n6 0, so 52 8 3, hol 30, .int .i64 (.negSucc 0), .str 0 0, nS, nS, bF, se 23 1, nS, nS, n6 0, n6 0, .nilIface, bF], Dd 47, Dd 48, Ca 51 49 wm25f_6 47 [.str 4 33751553, bF, so 53 21 1], Ca 52 106 wm25f_6 48 [n6 8, .str 4 33751553, so 54 21 1], (53, some (.cells 5 0 (u8s [0, 8, 1, 0, 0, 1, 0, 0, 0, 0, 0, 0, 1, 104, 1, 120, 0, 0, 1, 0, 1]))), (54, some (.cells 5 0 (u8s [0, 8, 1, 0, 0, 1, 0, 0, 0, 0, 0, 0, 1, 104, 1, 120, 0, 0, 1, 0, 1])))]⟩
noncomputable def wt25f_8 : List SV := ovr tb25f 0 [(18, hol 31), (19, p0 59), (105, hol 32), (110, hol 32), (111, hol 31), (122, so 60 9 3), (123, n6 9), (124, hol 32), (126, n6 8), (127, n6 9)]
noncomputable def wm25f_8 : LMem := ⟨70, mrg wm25f_7.blks [Cc 8 57 [hol 31, n6 1, .map 16, so 55 9 3, nS, nS, .map 18, n6 0, n6 0], Cc 9 63 [p0 8, n6 9, n6 1], Cc 11 71 [p0 9, so 19 2 1, nS, n6 1, hol 0, n6 5, bF, n6 0, so 20 1 1, se 21 2, n6 0, n6 0, so 56 9 3, hol 33, .int .i64 (.negSucc 0), .str 0 0, nS, nS, bF, se 23 1, nS, nS, n6 0, n6 0, .nilIface, bF], Dd 51, Dd 52, Ca 55 49 wm25f_7 51 [.str 4 16974337, bF, so 57 21 1], Ca 56 106 wm25f_7 52 [n6 9, .str 4 16974337, so 58 21 1], (57, some (.cells 5 0 (u8s [0, 9, 1, 0, 0, 1, 0, 0, 0, 0, 0, 0, 1, 104, 1, 120, 0, 0, 1, 0, 1]))), (58, some (.cells 5 0 (u8s [0, 9, 1, 0, 0, 1, 0, 0, 0, 0, 0, 0, 1, 104, 1, 120, 0, 0, 1, 0, 1])))]⟩
noncomputable def wt25f_9 : List SV := ovr tb25f 0 [(18, hol 34), (19, p0 63), (105, hol 35), (110, hol 35), (111, hol 34), (122, so 64 10 3), (123, n6 10), (124, hol 35), (126, n6 9), (127, n6 10)]
noncomputable def wm25f_9 : LMem := ⟨75, mrg wm25f_8.blks [Cc 8 57 [hol 34, n6 1, .map 16, so 59 10 3, nS, nS, .map 18, n6 0, n6 0], Cc 9 63 [p0 8, n6 10, n6 1], Cc 11 71 [p0 9, so 19 2 1, nS, n6 1, hol 0, n6 5, bF, n6 0, so 20 1 1, se 21 2, n6 0, n6 0, so 60 10 3, hol 36, .int .i64 (.negSucc 0), .str 0 0, nS, nS, bF, se 23 1, nS, nS, n6 0, n6 0, .nilIface, bF], Dd 55, Dd 56, Ca 59 49 wm25f_8 55 [.str 4 33751553, bF, so 61 21 1], Ca 60 106 wm25f_8 56 [n6 10, .str 4 33751553, so 62 21 1], (61, some (.cells 5 0 (u8s [0, 10, 1, 0, 0, 1, 0, 0, 0, 0, 0, 0, 1, 104, 1, 120, 0, 0, 1, 0, 1]))), (62, some (.cells 5 0 (u8s [0, 10, 1, 0, 0, 1, 0, 0, 0, 0, 0, 0, 1, 104, 1, 120, 0, 0, 1, 0, 1])))]⟩
noncomputable def wt25f_10 : List SV := ovr tb25f 0 [(18, hol 37), (19, p0 67), (105, hol 38), (110, hol 38), (111, hol 37), (122, so 68 11 3), (123, n6 11), (124, hol 38), (126, n6 10), (127, n6 11)]
noncomputable def wm25f_10 : LMem := ⟨80, mrg wm25f_9.blks [Cc 8 57 [hol 37, n6 1, .map 16, so 63 11 3, nS, nS, .map 18, n6 0, n6 0], Cc 9 63 [p0 8, n6 11, n6 1], Cc 11 71 [p0 9, so 19 2 1, nS, n6 1, hol 0, n6 5, bF, n6 0, so 20 1 1, se 21 2, n6 0, n6 1, so 64 1 3, hol 39, .int .i64 (.negSucc 0), .str 0 0, nS, nS, bT, se 23 1, nS, nS, n6 0, n6 0, .nilIface, bF], Dd 26, Dd 30, Dd 34, Dd 38, Dd 42, Dd 46, Dd 50, Dd 54, Dd 58, Dd 59, Dd 60, Dd 62, Ca 63 49 wm25f_9 59 [.str 4 16974337, bF, so 65 21 1], Cc 64 106 [n6 11, .str 4 16974337, so 66 21 1], (65, some (.cells 5 0 (u8s [0, 11, 1, 0, 0, 1, 0, 0, 0, 0, 0, 0, 1, 104, 1, 120, 0, 0, 28, 0, 1]))), (66, some (.cells 5 0 (u8s [0, 11, 1, 0, 0, 1, 0, 0, 0, 0, 0, 0, 1, 104, 1, 120, 0, 0, 28, 0, 1])))]⟩
noncomputable def wt25f_11 : List SV := ovr tb25f 0 [(18, hol 40), (19, p0 71), (105, hol 41), (110, hol 41), (111, hol 40), (122, so 72 12 3), (123, n6 12), (124, hol 41), (126, n6 11), (127, n6 12)]
noncomputable def wm25f_11 : LMem := ⟨85, mrg wm25f_10.blks [Cc 8 57 [hol 40, n6 1, .map 16, so 67 12 3, nS, nS, .map 18, n6 0, n6 0], Cc 9 63 [p0 8, n6 12, n6 1], Cc 11 71 [p0 9, so 19 2 1, nS, n6 1, hol 0, n6 5, bF, n6 0, so 20 1 1, se 21 2, n6 0, n6 1, so 68 2 3, hol 42, .int .i64 (.negSucc 0), .str 0 0, nS, nS, bT, se 23 1, nS, nS, n6 0, n6 0, .nilIface, bF], Dd 63, Dd 64, Ca 67 49 wm25f_10 63 [.str 4 33751553, bF, so 69 21 1], Cc 68 106 [n6 11, .str 4 16974337, so 66 21 1, n6 12, .str 4 33751553, so 70 21 1], (69, some (.cells 5 0 (u8s [0, 12, 1, 0, 0, 1, 0, 0, 0, 0, 0, 0, 1, 104, 1, 120, 0, 0, 28, 0, 1]))), (70, some (.cells 5 0 (u8s [0, 12, 1, 0, 0, 1, 0, 0, 0, 0, 0, 0, 1, 104, 1, 120, 0, 0, 28, 0, 1])))]⟩
noncomputable def wt25f_12 : List SV := ovr tb25f 0 [(18, hol 43), (19, p0 75), (105, hol 44), (110, hol 44), (111, hol 43), (122, so 76 13 3), (123, n6 13), (124, hol 44), (126, n6 12), (127, n6 13)]
noncomputable def wm25f_12 : LMem := ⟨90, mrg wm25f_11.blks [Cc 8 57 [hol 43, n6 1, .map 16, so 71 13 3, nS, nS, .map 18, n6 0, n6 0], Cc 9 63 [p0 8, n6 13, n6 1], Cc 11 71 [p0 9, so 19 2 1, nS, n6 1, hol 0, n6 5, bF, n6 0, so 20 1 1, se 21 2, n6 0, n6 1, so 72 3 3, hol 45, .int .i64 (.negSucc 0), .str 0 0, nS, nS, bT, se 23 1, nS, nS, n6 0, n6 0, .nilIface, bF], Dd 67, Dd 68, Ca 71 49 wm25f_11 67 [.str 4 16974337, bF, so 73 21 1], Cc 72 106 [n6 11, .str 4 16974337, so 66 21 1, n6 12, .str 4 33751553, so 70 21 1, n6 13, .str 4 16974337, so 74 21 1], (73, some (.cells 5 0 (u8s [0, 13, 1, 0, 0, 1, 0, 0, 0, 0, 0, 0, 1, 104, 1, 120, 0, 0, 28, 0, 1]))), (74, some (.cells 5 0 (u8s [0, 13, 1, 0, 0, 1, 0, 0, 0, 0, 0, 0, 1, 104, 1, 120, 0, 0, 28, 0, 1])))]⟩
noncomputable def wt25f_13 : List SV := ovr tb25f 0 [(18, hol 46), (19, p0 79), (105, hol 47), (110, hol 47), (111, hol 46), (122, so 80 14 3), (123, n6 14), (124, hol 47), (126, n6 13), (127, n6 14)]
noncomputable def wm25f_13 : LMem := ⟨95, mrg wm25f_12.blks [Cc 8 57 [hol 46, n6 1, .map 16, so 75 14 3, nS, nS, .map 18, n6 0, n6 0], Cc 9 63 [p0 8, n6 14, n6 1], Cc 11 71 [p0 9, so 19 2 1, nS, n6 1, hol 0, n6 5, bF, n6 0, so 20 1 1, se 21 2, n6 0, n6 1, so 76 4 3, hol 48, .int .i64 (.negSucc 0), .str 0 0, nS, nS, bT, se 23 1, nS, nS, n6 0, n6 0, .nilIface, bF], Dd 71, Dd 72, Ca 75 49 wm25f_12 71 [.str 4 33751553, bF, so 77 21 1], Ca 76 106 wm25f_12 72 [n6 14, .str 4 33751553, so 78 21 1], (77, some (.cells 5 0 (u8s [0, 14, 1, 0, 0, 1, 0, 0, 0, 0, 0, 0, 1, 104, 1, 120, 0, 0, 28, 0, 1]))), (78, some (.cells 5 0 (u8s [0, 14, 1, 0, 0, 1, 0, 0, 0, 0, 0, 0, 1, 104, 1, 120, 0, 0, 28, 0, 1])))]⟩
noncomputable def wt25f_14 : List SV := ovr tb25f 0 [(18, hol 49), (19, p0 83), (105, hol 50), (110, hol 50), (111, hol 49), (122, so 84 15 3), (123, n6 15), (124, hol 50), (126, n6 14), (127, n6 15)]
noncomputable def wm25f_14 : LMem := ⟨100, mrg wm25f_13.blks [Cc 8 57 [hol 49, n6 1, .map 16, so 79 15 3, nS, nS, .map 18, n6 0, n6 0], Cc 9 63 [p0 8, n6 15, n6 1], Cc 11 71 [p0 9, so 19 2 1, nS, n6 1, hol 0, n6 5, bF, n6 0, so 20 1 1, se 21 2, n6 0, n6 1, so 80 5 3, hol 51, .int .i64 (.negSucc 0), .str 0 0, nS, nS, bT, se 23 1, nS, nS, n6 0, n6 0, .nilIface, bF], Dd 75, Dd 76, Ca 79 49 wm25f_13 75 [.str 4 16974337, bF, so 81 21 1], Ca 80 106 wm25f_13 76 [n6 15, .str 4 16974337, so 82 21 1], (81, some (.cells 5 0 (u8s [0, 15, 1, 0, 0, 1, 0, 0, 0, 0, 0, 0, 1, 104, 1, 120, 0, 0, 28, 0, 1]))), (82, some (.cells 5 0 (u8s [0, 15, 1, 0, 0, 1, 0, 0, 0, 0, 0, 0, 1, 104, 1, 120, 0, 0, 28, 0, 1])))]⟩
noncomputable def wt25f_15 : List SV := ovr tb25f 0 [(18, hol 52), (19, p0 87), (105, hol 53), (110, hol 53), (111, hol 52), (122, so 88 16 3), (123, n6 16), (124, hol 53), (126, n6 15), (127, n6 16)]
noncomputable def wm25f_15 : LMem := ⟨105, mrg wm25f_14.blks [Cc 8 57 [hol 52, n6 1, .map 16, so 83 16 3, nS, nS, .map 18, n6 0, n6 0], Cc 9 63 [p0 8, n6 16, n6 1], Cc 11 71 [p0 9, so 19 2 1, nS, n6 1, hol 0, n6 5, bF, n6 0, so 20 1 1, se 21 2, n6 0, n6 1, so 84 6 3, hol 54, .int .i64 (.negSucc 0), .str 0 0, nS, nS, bT, se 23 1, nS, nS, n6 0, n6 0, .nilIface, bF], Dd 79, Dd 80, Ca 83 49 wm25f_14 79 [.str 4 33751553, bF, so 85 21 1], Ca 84 106 wm25f_14 80 [n6 16, .str 4 33751553, so 86 21 1], (85, some (.cells 5 0 (u8s [0, 16, 1, 0, 0, 1, 0, 0, 0, 0, 0, 0, 1, 104, 1, 120, 0, 0, 28, 0, 1]))), (86, some (.cells 5 0 (u8s [0, 16, 1, 0, 0, 1, 0, 0, 0, 0, 0, 0, 1, 104, 1, 120, 0, 0, 28, 0, 1])))]⟩
noncomputable def wt25f_16 : List SV := ovr tb25f 0 [(18, hol 55), (19, p0 91), (105, hol 56), (110, hol 56), (111, hol 55), (122, so 92 17 3), (123, n6 17), (124, hol 56), (126, n6 16), (127, n6 17)]
noncomputable def wm25f_16 : LMem := ⟨110, mrg wm25f_15.blks [Cc 8 57 [hol 55, n6 1, .map 16, so 87 17 3, nS, nS, .map 18, n6 0, n6 0], Cc 9 63 [p0 8, n6 17, n6 1], Cc 11 71 [p0 9, so 19 2 1, nS, n6 1, hol 0, n6 5, bF, n6 0, so 20 1 1, se 21 2, n6 0, n6 1, so 88 7 3, hol 57, .int .i64 (.negSucc 0), .str 0 0, nS, nS, bT, se 23 1, nS, nS, n6 0, n6 0, .nilIface, bF], Dd 83, Dd 84, Ca 87 49 wm25f_15 83 [.str 4 16974337, bF, so 89 21 1], Ca 88 106 wm25f_15 84 [n6 17, .str 4 16974337, so 90 21 1], (89, some (.cells 5 0 (u8s [0, 17, 1, 0, 0, 1, 0, 0, 0, 0, 0, 0, 1, 104, 1, 120, 0, 0, 28, 0, 1]))), (90, some (.cells 5 0 (u8s [0, 17, 1, 0, 0, 1, 0, 0, 0, 0, 0, 0, 1, 104, 1, 120, 0, 0, 28, 0, 1])))]⟩
noncomputable def wt25f_17 : List SV := ovr tb25f 0 [(18, hol 58), (19, p0 95), (105, hol 59), (110, hol 59), (111, hol 58), (122, so 96 18 3), (123, n6 18), (124, hol 59), (126, n6 17), (127, n6 18)]
noncomputable def wm25f_17 : LMem := ⟨115, mrg wm25f_16.blks [Cc 8 57 [hol 58, n6 1, .map 16, so 91 18 3, nS, nS, .map 18, n6 0, n6 0], Cc 9 63 [p0 8, n6 18, n6 1], Cc 11 71 [p0 9, so 19 2 1, nS, n6 1, hol 0, n6 5, bF, n6 0, so 20 1 1, se 21 2, n6 0, n6 1, so 92 8 3, hol 60, .int .i64 (.negSucc 0), .str 0 0, nS, nS, bT, se 23 1, nS, nS, n6 0, n6 0, .nilIface, bF], Dd 87, Dd 88, Ca 91 49 wm25f_16 87 [.str 4 33751553, bF, so 93 21 1], Ca 92 106 wm25f_16 88 [n6 18, .str 4 33751553, so 94 21 1], (93, some (.cells 5 0 (u8s [0, 18, 1, 0, 0, 1, 0, 0, 0, 0, 0, 0, 1, 104, 1, 120, 0, 0, 28, 0, 1]))), (94, some (.cells 5 0 (u8s [0, 18, 1, 0, 0, 1, 0, 0, 0, 0, 0, 0, 1, 104, 1, 120, 0, 0, 28, 0, 1])))]⟩
noncomputable def wt25f_18 : List SV := ovr tb25f 0 [(18, hol 61), (19, p0 99), (105, hol 62), (110, hol 62), (111, hol 61), (122, so 100 19 3), (123, n6 19), (124, hol 62), (126, n6 18), (127, n6 19)]
noncomputable def wm25f_18 : LMem := ⟨120, mrg wm25f_17.blks [Cc 8 57 [hol 61, n6 1, .map 16, so 95 19 3, nS, nS, .map 18, n6 0, n6 0], Cc 9 63 [p0 8, n6 19, n6 1], Cc 11 71 [p0 9, so 19 2 1, nS, n6 1, hol 0, n6 5, bF, n6 0, so 20 1 1, se 21 2, n6 0, n6 1, so 96 9 3, hol 63, .int .i64 (.negSucc 0), .str 0 0, nS, nS, bT, se 23 1, nS, nS, n6 0, n6 0, .nilIface, bF], Dd 91, Dd 92, Ca 95 49 wm25f_17 91 [.str 4 16974337, bF, so 97 21 1], Ca 96 106 wm25f_17 92 [n6 19, .str 4 16974337, so 98 21 1], (97, some (.cells 5 0 (u8s [0, 19, 1, 0, 0, 1, 0, 0, 0, 0, 0, 0, 1, 104, 1, 120, 0, 0, 28, 0, 1]))), (98, some (.cells 5 0 (u8s [0, 19, 1, 0, 0, 1, 0, 0, 0, 0, 0, 0, 1, 104, 1, 120, 0, 0, 28, 0, 1])))]⟩
noncomputable def wt25f_19 : List SV := ovr tb25f 0 [(18, hol 64), (19, p0 103), (105, hol 65), (110, hol 65), (111, hol 64), (122, so 104 20 3), (123, n6 20), (124, hol 65), (126, n6 19), (127, n6 20)]
noncomputable def wm25f_19 : LMem := ⟨125, mrg wm25f_18.blks [Cc 8 57 [hol 64, n6 1, .map 16, so 99 20 3, nS, nS, .map 18, n6 0, n6 0], Cc 9 63 [p0 8, n6 20, n6 1], Cc 11 71 [p0 9, so 19 2 1, nS, n6 1, hol 0, n6 5, bF, n6 0, so 20 1 1, se 21 2, n6 0, n6 1, so 100 10 3, hol 9, .int .i64 (.negSucc 0), .str 0 0, nS, nS, bT, se 23 1, nS, nS, n6 0, n6 0, .nilIface, bF], Dd 95, Dd 96, Ca 99 49 wm25f_18 95 [.str 4 33751553, bF, so 101 21 1], Ca 100 106 wm25f_18 96 [n6 20, .str 4 33751553, so 102 21 1], (101, some (.cells 5 0 (u8s [0, 20, 1, 0, 0, 1, 0, 0, 0, 0, 0, 0, 1, 104, 1, 120, 0, 0, 28, 0, 1]))), (102, some (.cells 5 0 (u8s [0, 20, 1, 0, 0, 1, 0, 0, 0, 0, 0, 0, 1, 104, 1, 120, 0, 0, 28, 0, 1])))]⟩
noncomputable def wt25f : Nat → List SV
  | 0 => wt25f_0
  | 1 => wt25f_1
  | 2 => wt25f_2
  | 3 => wt25f_3
  | 4 => wt25f_4
  | 5 => wt25f_5
  | 6 => wt25f_6
  | 7 => wt25f_7
  | 8 => wt25f_8
  | 9 => wt25f_9
  | 10 => wt25f_10
  | 11 => wt25f_11
  | 12 => wt25f_12
  | 13 => wt25f_13
  | 14 => wt25f_14
  | 15 => wt25f_15
  | 16 => wt25f_16
  | 17 => wt25f_17
  | 18 => wt25f_18
  | _ => wt25f_19
noncomputable def wm25f : Nat → LMem
  | 0 => wm25f_0
  | 1 => wm25f_1
  | 2 => wm25f_2
  | 3 => wm25f_3
  | 4 => wm25f_4
  | 5 => wm25f_5
  | 6 => wm25f_6
  | 7 => wm25f_7
  | 8 => wm25f_8
  | 9 => wm25f_9
  | 10 => wm25f_10
  | 11 => wm25f_11
  | 12 => wm25f_12
  | 13 => wm25f_13
  | 14 => wm25f_14
  | 15 => wm25f_15
  | 16 => wm25f_16
  | 17 => wm25f_17
  | 18 => wm25f_18
  | _ => wm25f_19
noncomputable def hh25f (j : Nat) : Nat := ([27, 31, 35, 39, 43, 47, 51, 55, 59, 63, 67, 71, 75, 79, 83, 87, 91, 95, 99, 103] : List Nat).getD j 0
noncomputable def af25f : List Aff := [⟨some .i64, 0, 1, 0, 0, 0⟩, ⟨none, 67, 3432398830065304857490950399540696608634717650071652704697231729592771591698828026061279820330727277488648155695740429018560993999858321906287014145557528576, 8952479901108913052062571583540260380316113950515147651379530652893922123796258344236856945875257335671107902838194621047969301297948676023287116415901245464942, 0, 0⟩, ⟨some .i64, 0, 1, 48, 0, 0⟩, ⟨some .u8, 0, 1, 48, 0, 0⟩, ⟨none, 1, 1, 48, 0, 0⟩, ⟨none, 28, 105312291668557186697918027683670432318895095400549111254310977536, 5079036958137366426766780345578899612331468940156136225636636455023, 0, 0⟩, ⟨none, 29, 105312291668557186697918027683670432318895095400549111254310977536, 274678503629643764373436931215775206348702913165561861036672738947183, 0, 0⟩, ⟨some .i64, 0, 1, 0, 1, 0⟩, ⟨some .i64, 0, 1, 0, 1, 1⟩, ⟨some .i64, 0, 20, 0, 0, 0⟩, ⟨some .i64, 0, 2, 0, 1, 0⟩, ⟨some .i64, 0, 2, 0, 1, 1⟩, ⟨some .i64, 0, 2, 0, 0, 0⟩, ⟨some .i64, 0, 3, 0, 1, 0⟩, ⟨some .i64, 0, 3, 0, 1, 1⟩, ⟨some .i64, 0, 3, 0, 0, 0⟩, ⟨some .i64, 0, 4, 0, 1, 0⟩, ⟨some .i64, 0, 4, 0, 1, 1⟩, ⟨some .i64, 0, 4, 0, 0, 0⟩, ⟨some .i64, 0, 5, 0, 1, 0⟩, ⟨some .i64, 0, 5, 0, 1, 1⟩, ⟨some .i64, 0, 5, 0, 0, 0⟩, ⟨some .i64, 0, 6, 0, 1, 0⟩, ⟨some .i64, 0, 6, 0, 1, 1⟩, ⟨some .i64, 0, 6, 0, 0, 0⟩, ⟨some .i64, 0, 7, 0, 1, 0⟩, ⟨some .i64, 0, 7, 0, 1, 1⟩, ⟨some .i64, 0, 7, 0, 0, 0⟩, ⟨some .i64, 0, 8, 0, 1, 0⟩, ⟨some .i64, 0, 8, 0, 1, 1⟩, ⟨some .i64, 0, 8, 0, 0, 0⟩, ⟨some .i64, 0, 9, 0, 1, 0⟩, ⟨some .i64, 0, 9, 0, 1, 1⟩, ⟨some .i64, 0, 9, 0, 0, 0⟩, ⟨some .i64, 0, 10, 0, 1, 0⟩, ⟨some .i64, 0, 10, 0, 1, 1⟩, ⟨some .i64, 0, 10, 0, 0, 0⟩, ⟨some .i64, 0, 11, 0, 1, 0⟩, ⟨some .i64, 0, 11, 0, 1, 1⟩, ⟨some .i64, 0, 11, 0, 0, 0⟩, ⟨some .i64, 0, 12, 0, 1, 0⟩, ⟨some .i64, 0, 12, 0, 1, 1⟩, ⟨some .i64, 0, 12, 0, 0, 0⟩, ⟨some .i64, 0, 13, 0, 1, 0⟩, ⟨some .i64, 0, 13, 0, 1, 1⟩, ⟨some .i64, 0, 13, 0, 0, 0⟩, ⟨some .i64, 0, 14, 0, 1, 0⟩, ⟨some .i64, 0, 14, 0, 1, 1⟩, ⟨some .i64, 0, 14, 0, 0, 0⟩, ⟨some .i64, 0, 15, 0, 1, 0⟩, ⟨some .i64, 0, 15, 0, 1, 1⟩, ⟨some .i64, 0, 15, 0, 0, 0⟩, ⟨some .i64, 0, 16, 0, 1, 0⟩, ⟨some .i64, 0, 16, 0, 1, 1⟩, ⟨some .i64, 0, 16, 0, 0, 0⟩, ⟨some .i64, 0, 17, 0, 1, 0⟩, ⟨some .i64, 0, 17, 0, 1, 1⟩, ⟨some .i64, 0, 17, 0, 0, 0⟩, ⟨some .i64, 0, 18, 0, 1, 0⟩, ⟨some .i64, 0, 18, 0, 1, 1⟩, ⟨some .i64, 0, 18, 0, 0, 0⟩, ⟨some .i64, 0, 19, 0, 1, 0⟩, ⟨some .i64, 0, 19, 0, 1, 1⟩, ⟨some .i64, 0, 19, 0, 0, 0⟩, ⟨some .i64, 0, 20, 0, 1, 0⟩, ⟨some .i64, 0, 20, 0, 1, 1⟩]
theorem b25f (W : World) : atHeadI Tryz.f3.ntmps [0, 1, 0, 1, 1, 1, 1, 1, 1, 1, 1, 1, 1, 1, 1, 1, 1, 1, 1, 1] (dpL (rowsA af25f 9 (mx 0) (fun x => x)) pt25f_0) (dpM (rowsA af25f 9 (mx 0) (fun x => x)) pm25f_0) (st0 W 2 5 false) = true := by kernel_rfl
theorem e25f (W : World) : atHeadH Tryz.prog.globals.size Tryz.prog.globals.size Tryz.f3.ntmps [0, 1, 0, 1, 1, 1, 1, 1, 1, 1, 1, 1, 1, 1, 1, 1, 1, 1, 1, 1] (wT 9 (fun _ => af25f) wt25f 0 (mx 0) (fun x => x)) (wL 9 (fun _ => af25f) wm25f 0 (mx 0) (fun x => x)) (seg W [0, 1, 0, 1, 1, 1, 1, 1, 1, 1, 1, 1, 1, 1, 1, 1, 1, 1, 1, 1] (dpL (rowsA af25f 9 (mx 0) (fun x => x)) pt25f_0) (dpM (rowsA af25f 9 (mx 0) (fun x => x)) pm25f_0)) = true := by kernel_rfl
noncomputable def wF25f (W : World) (j d : Nat) : Bool := atHeadH Tryz.prog.globals.size (hh25f j) Tryz.f3.ntmps [0, 1, 0, 1, 1, 1, 1, 1, 1, 1, 1, 1, 1, 1, 1, 1, 1, 1, 1, 1] (wT 9 (fun _ => af25f) wt25f j (mx (d + 1)) (fun _ => d)) (wL 9 (fun _ => af25f) wm25f j (mx (d + 1)) (fun _ => d)) (seg W [0, 1, 0, 1, 1, 1, 1, 1, 1, 1, 1, 1, 1, 1, 1, 1, 1, 1, 1, 1] (wT 9 (fun _ => af25f) wt25f j (mx (d + 1)) (fun _ => d + 1)) (wL 9 (fun _ => af25f) wm25f j (mx (d + 1)) (fun _ => d + 1)))
noncomputable def dF25f (W : World) (j : Nat) : Bool := atHeadH Tryz.prog.globals.size (hh25f j) Tryz.f3.ntmps [0, 1, 0, 1, 1, 1, 1, 1, 1, 1, 1, 1, 1, 1, 1, 1, 1, 1, 1, 1] (wT 9 (fun _ => af25f) wt25f (j + 1) (mx 0) (fun x => x)) (wL 9 (fun _ => af25f) wm25f (j + 1) (mx 0) (fun x => x)) (seg W [0, 1, 0, 1, 1, 1, 1, 1, 1, 1, 1, 1, 1, 1, 1, 1, 1, 1, 1, 1] (wT 9 (fun _ => af25f) wt25f j (mx 0) (fun _ => 0)) (wL 9 (fun _ => af25f) wm25f j (mx 0) (fun _ => 0)))
theorem w25f_0 (W : World) : allK (wF25f W 0) 8 = true := by kernel_rfl
theorem d25f_0 (W : World) : dF25f W 0 = true := by kernel_rfl
theorem w25f_1 (W : World) : allK (wF25f W 1) 8 = true := by kernel_rfl
theorem d25f_1 (W : World) : dF25f W 1 = true := by kernel_rfl
theorem w25f_2 (W : World) : allK (wF25f W 2) 8 = true := by kernel_rfl
theorem d25f_2 (W : World) : dF25f W 2 = true := by kernel_rfl
theorem w25f_3 (W : World) : allK (wF25f W 3) 8 = true := by kernel_rfl
theorem d25f_3 (W : World) : dF25f W 3 = true := by kernel_rfl
theorem w25f_4 (W : World) : allK (wF25f W 4) 8 = true := by kernel_rfl
theorem d25f_4 (W : World) : dF25f W 4 = true := by kernel_rfl
theorem w25f_5 (W : World) : allK (wF25f W 5) 8 = true := by kernel_rfl
theorem d25f_5 (W : World) : dF25f W 5 = true := by kernel_rfl
theorem w25f_6 (W : World) : allK (wF25f W 6) 8 = true := by kernel_rfl
theorem d25f_6 (W : World) : dF25f W 6 = true := by kernel_rfl
theorem w25f_7 (W : World) : allK (wF25f W 7) 8 = true := by kernel_rfl
theorem d25f_7 (W : World) : dF25f W 7 = true := by kernel_rfl
theorem w25f_8 (W : World) : allK (wF25f W 8) 8 = true := by kernel_rfl
theorem d25f_8 (W : World) : dF25f W 8 = true := by kernel_rfl
theorem w25f_9 (W : World) : allK (wF25f W 9) 8 = true := by kernel_rfl
theorem d25f_9 (W : World) : dF25f W 9 = true := by kernel_rfl
theorem w25f_10 (W : World) : allK (wF25f W 10) 8 = true := by kernel_rfl
theorem d25f_10 (W : World) : dF25f W 10 = true := by kernel_rfl
theorem w25f_11 (W : World) : allK (wF25f W 11) 8 = true := by kernel_rfl
theorem d25f_11 (W : World) : dF25f W 11 = true := by kernel_rfl
theorem w25f_12 (W : World) : allK (wF25f W 12) 8 = true := by kernel_rfl
theorem d25f_12 (W : World) : dF25f W 12 = true := by kernel_rfl
theorem w25f_13 (W : World) : allK (wF25f W 13) 8 = true := by kernel_rfl
theorem d25f_13 (W : World) : dF25f W 13 = true := by kernel_rfl
theorem w25f_14 (W : World) : allK (wF25f W 14) 8 = true := by kernel_rfl
theorem d25f_14 (W : World) : dF25f W 14 = true := by kernel_rfl
theorem w25f_15 (W : World) : allK (wF25f W 15) 8 = true := by kernel_rfl
theorem d25f_15 (W : World) : dF25f W 15 = true := by kernel_rfl
theorem w25f_16 (W : World) : allK (wF25f W 16) 8 = true := by kernel_rfl
theorem d25f_16 (W : World) : dF25f W 16 = true := by kernel_rfl
theorem w25f_17 (W : World) : allK (wF25f W 17) 8 = true := by kernel_rfl
theorem d25f_17 (W : World) : dF25f W 17 = true := by kernel_rfl
theorem w25f_18 (W : World) : allK (wF25f W 18) 8 = true := by kernel_rfl
theorem d25f_18 (W : World) : dF25f W 18 = true := by kernel_rfl
theorem w25f_19 (W : World) : allK (wF25f W 19) 8 = true := by kernel_rfl
theorem z25f (W : World) : isFin Tryz.prog Tryz.f3 (seg W [0, 1, 0, 1, 1, 1, 1, 1, 1, 1, 1, 1, 1, 1, 1, 1, 1, 1, 1, 1] (wT 9 (fun _ => af25f) wt25f (20 - 1) (mx 0) (fun _ => 0)) (wL 9 (fun _ => af25f) wm25f (20 - 1) (mx 0) (fun _ => 0))) = true := by kernel_rfl
theorem W25f (W : World) : ∀ j, j < 20 → ∀ d, d + 1 < 9 → wF25f W j d = true
  | 0, _, d, h => allK_of (w25f_0 W) (by omega)
  | 1, _, d, h => allK_of (w25f_1 W) (by omega)
  | 2, _, d, h => allK_of (w25f_2 W) (by omega)
  | 3, _, d, h => allK_of (w25f_3 W) (by omega)
  | 4, _, d, h => allK_of (w25f_4 W) (by omega)
  | 5, _, d, h => allK_of (w25f_5 W) (by omega)
  | 6, _, d, h => allK_of (w25f_6 W) (by omega)
  | 7, _, d, h => allK_of (w25f_7 W) (by omega)
  | 8, _, d, h => allK_of (w25f_8 W) (by omega)
  | 9, _, d, h => allK_of (w25f_9 W) (by omega)
  | 10, _, d, h => allK_of (w25f_10 W) (by omega)
  | 11, _, d, h => allK_of (w25f_11 W) (by omega)
  | 12, _, d, h => allK_of (w25f_12 W) (by omega)
  | 13, _, d, h => allK_of (w25f_13 W) (by omega)
  | 14, _, d, h => allK_of (w25f_14 W) (by omega)
  | 15, _, d, h => allK_of (w25f_15 W) (by omega)
  | 16, _, d, h => allK_of (w25f_16 W) (by omega)
  | 17, _, d, h => allK_of (w25f_17 W) (by omega)
  | 18, _, d, h => allK_of (w25f_18 W) (by omega)
  | 19, _, d, h => allK_of (w25f_19 W) (by omega)
  | j + 20, h, _, _ => absurd h (by omega)
theorem D25f (W : World) : ∀ j, j + 1 < 20 → dF25f W j = true
  | 0, _ => d25f_0 W
  | 1, _ => d25f_1 W
  | 2, _ => d25f_2 W
  | 3, _ => d25f_3 W
  | 4, _ => d25f_4 W
  | 5, _ => d25f_5 W
  | 6, _ => d25f_6 W
  | 7, _ => d25f_7 W
  | 8, _ => d25f_8 W
  | 9, _ => d25f_9 W
  | 10, _ => d25f_10 W
  | 11, _ => d25f_11 W
  | 12, _ => d25f_12 W
  | 13, _ => d25f_13 W
  | 14, _ => d25f_14 W
  | 15, _ => d25f_15 W
  | 16, _ => d25f_16 W
  | 17, _ => d25f_17 W
  | 18, _ => d25f_18 W
  | j + 19, h => absurd h (by omega)
theorem c25f (W : World) (x : Nat) (hx : x < 9) (hw : ∀ [Lane], WR Tryz.prog (fun _ => none) ⟨Tryz.prog.globals.size, .nil, some (W, gl)⟩ W) : Calls Tryz.prog 3 #[.int .i64 (.ofNat 2), .int .i64 (.ofNat 5), .int .i64 (.ofNat (x + 1)), .bool false] W (Fin0 W) := by
  letI : Lane := ⟨x⟩
  have h0 := chainW (w0 := W) snd okB (N := 9) (J := 20) (Af := fun _ => af25f) (Tm := wt25f) (Lm := wm25f) (H := hh25f) hx (by omega) (W25f W) (D25f W) (z25f W)
  have h1 := entryH (e25f W) h0
  exact startI hx hw (b25f W) h1
end Go.Proofs.YtghdjomjcododaaGreatDoor.stubBound
