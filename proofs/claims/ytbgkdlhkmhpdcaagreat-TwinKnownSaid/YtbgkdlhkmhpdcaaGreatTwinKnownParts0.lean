/- The closed statement's run, in parts. Conditions: none. -/
import Derived.Test.YtbgkdlhkmhpdcaaGreatTwinKnownEnv
import Derived.Test.YtbgkdlhkmhpdcaaGreatAmSeven
set_option maxRecDepth 100000
namespace Go.Proofs.AmEnv
open Go Go.AM
noncomputable def d0 : Tr := (.node (.node .nil .und .nil) (.agg [(I 3), (I 1), (I 0), (I 0)]) .nil)
noncomputable def d1 : Tr := (.node d0 (.agg [(I 1), (I 0), (I 2), (I 0)]) (.node .nil .und .nil))
noncomputable def d2 : List AV := [(.str [109, 97, 105, 110]), (I 1), (I 0), (.msl 97 0 2 1), (.msl 104 0 3 5)]
noncomputable def d3 : Tr := (.node d1 (.agg [(I 3), (I 1), (I 0), (I 0)]) (.node d0 (.agg d2) (.node .nil .und .nil)))
noncomputable def d4 : Tr := (.node d0 (.agg [(I 2), (I 1), (I 1), (I 2)]) (.node .nil .und .nil))
noncomputable def d5 : List AV := [(.str [109, 97, 105, 110]), (I 1), (I 0), (.msl 109 0 2 1), (.msl 114 0 2 5)]
noncomputable def d6 : Tr := (.node (.node (.node .nil .und .nil) .und .nil) (.agg d5) (.node .nil .und .nil))
noncomputable def d7 : Tr := (.node d3 (I 0) (.node d4 (.agg [(I 3), (I 1), (I 0), (I 0)]) d6))
noncomputable def d8 : List AV := [(.str [109, 97, 105, 110]), (I 1), (I 0), (.msl 121 0 2 1), (.msl 130 0 4 5)]
noncomputable def d9 : Tr := (.node (.node (.node .nil .und .nil) (.agg d8) .nil) (.msl 82 0 3 4) (.node .nil .und .nil))
noncomputable def d10 : List AV := [(.str [109, 97, 105, 110]), (I 1), (I 0), (.msl 5 0 2 1), (.msl 12 0 3 5)]
noncomputable def d11 : List AV := [(.str [109, 97, 105, 110]), (I 1), (I 0), (.msl 139 0 2 1), (.msl 152 0 6 5)]
noncomputable def d12 : Tr := (.node (.node (.node .nil .und .nil) (.agg d11) .nil) (.agg [(I 1), (I 0), (I 1), (I 0)]) (.node .nil .und .nil))
noncomputable def d13 : Tr := (.node (.node .nil .und .nil) (.agg [(I 1), (I 0), (I 4), (I 0)]) .nil)
noncomputable def d14 : Tr := (.node d13 (.agg [(I 1), (I 0), (I 2), (I 0)]) (.node .nil .und .nil))
noncomputable def d15 : List AV := [(.str [109, 97, 105, 110]), (I 1), (I 0), (.msl 75 0 2 1), (.msl 78 0 1 5)]
noncomputable def d16 : Tr := (.node (.node (.node .nil .und .nil) .und .nil) (.agg [(I 2), (I 1), (I 2), (I 1)]) (.node .nil .und .nil))
noncomputable def d17 : Tr := (.node (.node d9 (.agg d10) d12) (.agg [(I 2), (I 1), (I 1), (I 2)]) (.node d14 (.agg d15) d16))
noncomputable def d18 : Tr := (.node (.node .nil .und .nil) (.msl 119 0 4 4) .nil)
noncomputable def d19 : Tr := (.node d18 (.agg [(I 1), (I 0), (I 1), (I 0)]) (.node .nil .und .nil))
noncomputable def d20 : Tr := (.node (.node .nil .und .nil) (.msl 137 0 6 4) .nil)
noncomputable def d21 : Tr := (.node d20 (.agg [(I 1), (I 0), (I 1), (I 0)]) (.node .nil .und .nil))
noncomputable def d22 : Tr := (.node (.node .nil .und .nil) (.agg [(I 1), (I 0), (I 1), (I 0)]) .nil)
noncomputable def d23 : Tr := (.node d22 (.agg [(I 1), (I 0), (I 1), (I 0)]) (.node .nil .und .nil))
noncomputable def d24 : Tr := (.node (.node d19 (.msl 3 0 3 4) d21) .und (.node d23 (.msl 73 0 1 4) d16))
noncomputable def d25 : Tr := (.node (.node .nil .und .nil) (.agg [(I 1), (I 0), (I 3), (I 0)]) .nil)
noncomputable def d26 : List AV := [(.str [109, 97, 105, 110]), (I 1), (I 0), (.msl 84 0 2 1), (.msl 91 0 3 5)]
noncomputable def d27 : List AV := [(.str [109, 97, 105, 110]), (I 1), (I 0), (.msl 16 0 2 1), (.msl 18 0 3 5)]
noncomputable def d28 : Tr := (.node (.node .nil .und .nil) (.msl 153 0 6 5) .nil)
noncomputable def d29 : Tr := (.node d28 (.msl 107 0 2 4) (.node .nil .und .nil))
noncomputable def d30 : Tr := (.node (.node d25 (.agg d26) (.node .nil .und .nil)) (.agg d27) d29)
noncomputable def d31 : Tr := (.node (.node .nil .und .nil) (.agg [(I 1), (I 0), (I 2), (I 0)]) .nil)
noncomputable def d32 : Tr := (.node d31 (.msl 95 0 3 4) (.node .nil .und .nil))
noncomputable def d33 : Tr := (.node (.node .nil .und .nil) (.agg [(I 3), (I 1), (I 0), (I 0)]) (.node .nil .und .nil))
noncomputable def d34 : Tr := (.node d32 (.agg [(I 1), (I 0), (I 1), (I 0)]) d33)
noncomputable def d35 : Tr := (.node d30 (.agg [(I 3), (I 1), (I 0), (I 0)]) d34)
noncomputable def d36 : Tr := (.node (.node d7 (.ptr 71 0 0) d17) (.bool false) (.node d24 (.msl 153 0 6 5) d35))
noncomputable def d37 : List AV := [(.agg [(I 2), (I 1), (I 1), (I 2)]), (.agg [(I 3), (I 1), (I 0), (I 0)]), (.agg [(I 3), (I 1), (I 0), (I 0)])]
noncomputable def d38 : List AV := [(.agg [.nilsl, (I 2), (I 1), (I 1), (I 2)]), (.agg [.nilsl, (I 3), (I 1), (I 0), (I 0)]), (.agg [.nilsl, (I 3), (I 1), (I 0), (I 0)])]
noncomputable def d39 : List AV := [(.agg [.nilsl, (I 2), (I 1), (I 1), (I 1)]), (.agg [.nilsl, (I 3), (I 1), (I 0), (I 0)]), (.agg [.nilsl, (I 3), (I 1), (I 0), (I 0)])]
noncomputable def d40 : List AV := [(.agg [(I 1), (I 0), (I 1), (I 0)]), (.agg [(I 1), (I 0), (I 2), (I 0)]), (.agg [(I 1), (I 0), (I 1), (I 0)])]
noncomputable def d41 : List AV := [(.agg [.nilsl, (I 1), (I 0), (I 1), (I 0)]), (.agg [.nilsl, (I 1), (I 0), (I 2), (I 0)]), (.agg [.nilsl, (I 1), (I 0), (I 1), (I 0)])]
noncomputable def d42 : List AV := [(.agg [(I 2), (I 1), (I 1), (I 2)]), (.agg [(I 1), (I 0), (I 1), (I 0)]), (.agg [(I 1), (I 0), (I 2), (I 0)])]
noncomputable def d43 : List AV := [(.agg [.nilsl, (I 2), (I 1), (I 1), (I 2)]), (.agg [.nilsl, (I 1), (I 0), (I 1), (I 0)]), (.agg [.nilsl, (I 1), (I 0), (I 2), (I 0)])]
noncomputable def d44 : List AV := [(.agg [(I 1), (I 0), (I 1), (I 0)]), (.agg [(I 1), (I 0), (I 1), (I 0)])]
noncomputable def h0_0 : Heap := hApp Heap.empty 0 [] [(0, R 4 [(.agg [(I 2), (I 1), (I 1), (I 2)])]), (1, R 4 [(.agg [(I 3), (I 1), (I 0), (I 0)])]), (2, R 4 [(.agg [(I 3), (I 1), (I 0), (I 0)])]), (3, R 4 d37), (4, R 5 [(.agg d10)]), (5, R 1 [(I 1), (I 1)]), (6, R 5 [(.agg d10)]), (7, R 5 [(.agg [.nilsl, (I 2), (I 1), (I 1), (I 2)])]), (9, R 5 [(.agg [.nilsl, (I 3), (I 1), (I 0), (I 0)])]), (11, R 5 [(.agg [.nilsl, (I 3), (I 1), (I 0), (I 0)])]), (12, R 5 d38), (13, R 5 [(.agg d27)]), (14, R 5 [(.agg d27)]), (16, R 1 [(I 1), (I 1)]), (18, R 5 d39), (19, R 1 [(.bool true)]), (20, R 5 [(.agg [.nilsl, (I 2), (I 1), (I 1), (I 2)])]), (21, R 5 [(.agg [.nilsl, (I 2), (I 1), (I 1), (I 2)])]), (22, R 5 [(.agg [.nilsl, (I 2), (I 1), (I 1), (I 2)])]), (23, R 5 [(.agg [.nilsl, (I 2), (I 1), (I 1), (I 2)])]), (24, R 1 [(I 0)]), (26, R 5 [(.agg [.nilsl, (I 3), (I 1), (I 0), (I 0)])]), (27, R 5 [(.agg [.nilsl, (I 2), (I 1), (I 1), (I 2)])]), (28, R 5 [(.agg [.nilsl, (I 2), (I 1), (I 1), (I 2)])]), (29, R 5 [(.agg [.nilsl, (I 3), (I 1), (I 0), (I 0)])]), (30, R 5 [(.agg [.nilsl, (I 3), (I 1), (I 0), (I 0)])]), (31, R 5 [(.agg [.nilsl, (I 3), (I 1), (I 0), (I 0)])]), (32, R 5 [(.agg [.nilsl, (I 3), (I 1), (I 0), (I 0)])]), (33, R 1 [(I 1)]), (35, R 5 [(.agg [.nilsl, (I 3), (I 1), (I 0), (I 0)])]), (36, R 5 [(.agg [.nilsl, (I 2), (I 1), (I 1), (I 2)])]), (37, R 5 [(.agg [.nilsl, (I 2), (I 1), (I 1), (I 2)])]), (38, R 5 [(.agg [.nilsl, (I 3), (I 1), (I 0), (I 0)])]), (39, R 5 [(.agg [.nilsl, (I 3), (I 1), (I 0), (I 0)])]), (40, R 5 [(.agg [.nilsl, (I 3), (I 1), (I 0), (I 0)])]), (41, R 5 [(.agg [.nilsl, (I 3), (I 1), (I 0), (I 0)])]), (42, R 1 [(I 1)]), (43, R 1 [(I 0), (I 1), (I 1)]), (44, R 1 [(.msl 43 0 3 1)]), (45, R 1 [(.bool false)]), (46, R 5 [(.agg [.nilsl, (I 2), (I 1), (I 1), (I 1)])]), (47, R 5 [(.agg [.nilsl, (I 2), (I 1), (I 1), (I 1)])]), (48, R 5 [(.agg [.nilsl, (I 2), (I 1), (I 1), (I 1)])]), (49, R 5 [(.agg [.nilsl, (I 2), (I 1), (I 1), (I 1)])]), (50, R 1 [(I 0)]), (52, R 5 [(.agg [.nilsl, (I 3), (I 1), (I 0), (I 0)])]), (53, R 5 [(.agg [.nilsl, (I 2), (I 1), (I 1), (I 1)])]), (54, R 5 [(.agg [.nilsl, (I 2), (I 1), (I 1), (I 1)])]), (55, R 5 [(.agg [.nilsl, (I 3), (I 1), (I 0), (I 0)])]), (56, R 5 [(.agg [.nilsl, (I 3), (I 1), (I 0), (I 0)])]), (57, R 5 [(.agg [.nilsl, (I 3), (I 1), (I 0), (I 0)])]), (58, R 5 [(.agg [.nilsl, (I 3), (I 1), (I 0), (I 0)])]), (59, R 1 [(I 1)]), (61, R 5 [(.agg [.nilsl, (I 3), (I 1), (I 0), (I 0)])]), (62, R 5 [(.agg [.nilsl, (I 2), (I 1), (I 1), (I 1)])]), (63, R 5 [(.agg [.nilsl, (I 2), (I 1), (I 1), (I 1)])]), (64, R 5 [(.agg [.nilsl, (I 3), (I 1), (I 0), (I 0)])]), (65, R 5 [(.agg [.nilsl, (I 3), (I 1), (I 0), (I 0)])]), (66, R 5 [(.agg [.nilsl, (I 3), (I 1), (I 0), (I 0)])]), (67, R 5 [(.agg [.nilsl, (I 3), (I 1), (I 0), (I 0)])]), (68, R 1 [(I 1)]), (69, R 1 [(I 0), (I 1), (I 1)]), (70, R 1 [(.msl 69 0 3 1)]), (71, R 5 [(.agg d27)]), (72, R 4 [(.agg [(I 3), (I 1), (I 0), (I 0)])]), (73, R 4 [(.agg [(I 3), (I 1), (I 0), (I 0)])]), (74, R 5 [(.agg d15)]), (75, R 1 [(I 1), (I 1)]), (76, R 5 [(.agg d15)]), (77, R 5 [(.agg [.nilsl, (I 3), (I 1), (I 0), (I 0)])]), (78, R 5 [(.agg [.nilsl, (I 3), (I 1), (I 0), (I 0)])]), (79, R 4 [(.agg [(I 1), (I 0), (I 1), (I 0)])]), (80, R 4 [(.agg [(I 1), (I 0), (I 2), (I 0)])]), (81, R 4 [(.agg [(I 1), (I 0), (I 1), (I 0)])]), (82, R 4 d40), (83, R 5 [(.agg d26)]), (84, R 1 [(I 1), (I 1)]), (85, R 5 [(.agg d26)]), (86, R 5 [(.agg [.nilsl, (I 1), (I 0), (I 1), (I 0)])]), (88, R 5 [(.agg [.nilsl, (I 1), (I 0), (I 2), (I 0)])]), (90, R 5 [(.agg [.nilsl, (I 1), (I 0), (I 1), (I 0)])]), (91, R 5 d41), (92, R 4 [(.agg [(I 2), (I 1), (I 1), (I 2)])]), (93, R 4 [(.agg [(I 1), (I 0), (I 1), (I 0)])]), (94, R 4 [(.agg [(I 1), (I 0), (I 2), (I 0)])]), (95, R 4 d42), (96, R 5 [(.agg d2)]), (97, R 1 [(I 1), (I 1)]), (98, R 5 [(.agg d2)]), (99, R 5 [(.agg [.nilsl, (I 2), (I 1), (I 1), (I 2)])]), (100, none), (101, R 5 [(.agg [.nilsl, (I 1), (I 0), (I 1), (I 0)])]), (102, none), (103, R 5 [(.agg [.nilsl, (I 1), (I 0), (I 2), (I 0)])]), (104, R 5 d43), (105, R 4 [(.agg [(I 1), (I 0), (I 1), (I 0)])]), (106, R 4 [(.agg [(I 1), (I 0), (I 1), (I 0)])]), (107, R 4 d44), (108, R 5 [(.agg d5)]), (109, R 1 [(I 1), (I 1)])]
noncomputable def d45 : List AV := [(.agg [.nilsl, (I 1), (I 0), (I 1), (I 0)]), (.agg [.nilsl, (I 1), (I 0), (I 1), (I 0)])]
noncomputable def d46 : List AV := [(.agg [(I 2), (I 1), (I 2), (I 1)]), (.agg [(I 2), (I 1), (I 2), (I 1)]), (.agg [(I 3), (I 1), (I 0), (I 0)]), (.agg [(I 3), (I 1), (I 0), (I 0)])]
noncomputable def d47 : List AV := [(.agg [.nilsl, (I 2), (I 1), (I 2), (I 1)]), (.agg [.nilsl, (I 2), (I 1), (I 2), (I 1)]), (.agg [.nilsl, (I 3), (I 1), (I 0), (I 0)]), (.agg [.nilsl, (I 3), (I 1), (I 0), (I 0)])]
noncomputable def d48 : List AV := [(.agg [(I 1), (I 0), (I 3), (I 0)]), (.agg [(I 3), (I 1), (I 0), (I 0)]), (.agg [(I 1), (I 0), (I 1), (I 0)]), (.agg [(I 1), (I 0), (I 4), (I 0)]), (.agg [(I 1), (I 0), (I 2), (I 0)]), (.agg [(I 3), (I 1), (I 0), (I 0)])]
noncomputable def d49 : List AV := [(.agg [.nilsl, (I 1), (I 0), (I 3), (I 0)]), (.agg [.nilsl, (I 3), (I 1), (I 0), (I 0)]), (.agg [.nilsl, (I 1), (I 0), (I 1), (I 0)]), (.agg [.nilsl, (I 1), (I 0), (I 4), (I 0)]), (.agg [.nilsl, (I 1), (I 0), (I 2), (I 0)]), (.agg [.nilsl, (I 3), (I 1), (I 0), (I 0)])]
noncomputable def d50 : List AV := [(.agg d15), (.agg d26), (.agg d2), (.agg d5), (.agg d8), (.agg d11)]
noncomputable def h0 : Heap := hApp h0_0 154 (appN2 [138, 140, 150, 140, 148, 140, 146, 140, 144, 140, 142, 140, 140, 136, 135, 134, 133, 132, 131, 120, 122, 128, 122, 126, 122, 124, 122, 122, 118, 117, 116, 115, 108, 110, 112, 110, 110, 106, 105, 96, 98, 102, 98, 100, 98, 98, 94, 93, 92, 83, 85, 89, 85, 87, 85, 85, 81, 80, 79, 74, 76, 76, 72, 71, 14, 45, 18, 45, 18, 45, 70, 60, 61, 51, 52, 46, 19, 18, 19, 18, 19, 44, 34, 35, 25, 26, 20, 18, 18, 18, 13, 13, 17, 4, 6, 10, 6, 8, 6, 6, 2, 1, 0] Heap.empty.tch) [(110, R 5 [(.agg d5)]), (111, R 5 [(.agg [.nilsl, (I 1), (I 0), (I 1), (I 0)])]), (112, none), (113, R 5 [(.agg [.nilsl, (I 1), (I 0), (I 1), (I 0)])]), (114, R 5 d45), (115, R 4 [(.agg [(I 2), (I 1), (I 2), (I 1)])]), (116, R 4 [(.agg [(I 2), (I 1), (I 2), (I 1)])]), (117, R 4 [(.agg [(I 3), (I 1), (I 0), (I 0)])]), (118, R 4 [(.agg [(I 3), (I 1), (I 0), (I 0)])]), (119, R 4 d46), (120, R 5 [(.agg d8)]), (121, R 1 [(I 1), (I 1)]), (122, R 5 [(.agg d8)]), (123, R 5 [(.agg [.nilsl, (I 2), (I 1), (I 2), (I 1)])]), (124, none), (125, R 5 [(.agg [.nilsl, (I 2), (I 1), (I 2), (I 1)])]), (126, none), (127, R 5 [(.agg [.nilsl, (I 3), (I 1), (I 0), (I 0)])]), (128, none), (129, R 5 [(.agg [.nilsl, (I 3), (I 1), (I 0), (I 0)])]), (130, R 5 d47), (131, R 4 [(.agg [(I 1), (I 0), (I 3), (I 0)])]), (132, R 4 [(.agg [(I 3), (I 1), (I 0), (I 0)])]), (133, R 4 [(.agg [(I 1), (I 0), (I 1), (I 0)])]), (134, R 4 [(.agg [(I 1), (I 0), (I 4), (I 0)])]), (135, R 4 [(.agg [(I 1), (I 0), (I 2), (I 0)])]), (136, R 4 [(.agg [(I 3), (I 1), (I 0), (I 0)])]), (137, R 4 d48), (138, R 5 [(.agg d11)]), (139, R 1 [(I 1), (I 1)]), (140, R 5 [(.agg d11)]), (141, R 5 [(.agg [.nilsl, (I 1), (I 0), (I 3), (I 0)])]), (142, none), (143, R 5 [(.agg [.nilsl, (I 3), (I 1), (I 0), (I 0)])]), (144, none), (145, R 5 [(.agg [.nilsl, (I 1), (I 0), (I 1), (I 0)])]), (146, none), (147, R 5 [(.agg [.nilsl, (I 1), (I 0), (I 4), (I 0)])]), (148, none), (149, R 5 [(.agg [.nilsl, (I 1), (I 0), (I 2), (I 0)])]), (150, none), (151, R 5 [(.agg [.nilsl, (I 3), (I 1), (I 0), (I 0)])]), (152, R 5 d49), (153, R 5 d50)]
noncomputable def d51 : Tr := (.node (.node .nil (.bool false) .nil) (.agg [(I 3), (I 1), (I 0), (I 0)]) .nil)
noncomputable def d52 : Tr := (.node d51 (.agg [(I 1), (I 0), (I 2), (I 0)]) (.node .nil (I 2) .nil))
noncomputable def d53 : Tr := (.node .nil (.agg [.nilsl, (.msl 2179 0 1 5)]) .nil)
noncomputable def d54 : Tr := (.node d52 (.agg [(I 3), (I 1), (I 0), (I 0)]) (.node d0 (.agg d2) d53))
noncomputable def d55 : Tr := (.node d51 (.agg [(I 2), (I 1), (I 1), (I 2)]) (.node .nil (.ptr 153 2 0) .nil))
noncomputable def d56 : Tr := (.node (.node (.node .nil .und .nil) (I 2) .nil) (.agg d5) d53)
noncomputable def d57 : Tr := (.node d55 (.agg [(I 3), (I 1), (I 0), (I 0)]) d56)
noncomputable def d58 : Tr := (.node (.node .nil (.bool true) .nil) (.agg d8) .nil)
noncomputable def d59 : Tr := (.node d58 (.msl 82 0 3 4) (.node .nil (.msl 153 0 6 5) .nil))
noncomputable def d60 : Tr := (.node (.node (.node .nil .und .nil) (.agg d11) .nil) (.agg [(I 1), (I 0), (I 1), (I 0)]) (.node .nil (.bool false) .nil))
noncomputable def d61 : Tr := (.node d13 (.agg [(I 1), (I 0), (I 2), (I 0)]) (.node .nil (.msl 2179 0 1 5) .nil))
noncomputable def d62 : Tr := (.node (.node (.node .nil .und .nil) (I 6) .nil) (.agg [(I 2), (I 1), (I 2), (I 1)]) (.node .nil (.bool false) .nil))
noncomputable def d63 : Tr := (.node (.node d59 (.agg d10) d60) (.agg [(I 2), (I 1), (I 1), (I 2)]) (.node d61 (.agg d15) d62))
noncomputable def d64 : Tr := (.node (.node d53 (.msl 119 0 4 4) .nil) (.agg [(I 1), (I 0), (I 1), (I 0)]) (.node .nil (I 3) .nil))
noncomputable def d65 : Tr := (.node d20 (.agg [(I 1), (I 0), (I 1), (I 0)]) (.node .nil (.bool true) .nil))
noncomputable def d66 : Tr := (.node d22 (.agg [(I 1), (I 0), (I 1), (I 0)]) (.node .nil (.agg d2) .nil))
noncomputable def d67 : Tr := (.node d28 (.agg [(I 2), (I 1), (I 2), (I 1)]) (.node .nil (.bool true) .nil))
noncomputable def d68 : Tr := (.node (.node d64 (.msl 3 0 3 4) d65) (.ptr 2180 0 0) (.node d66 (.msl 73 0 1 4) d67))
noncomputable def d69 : Tr := (.node (.node .nil (.bool false) .nil) (.agg [(I 1), (I 0), (I 3), (I 0)]) .nil)
noncomputable def d70 : Tr := (.node d28 (.msl 107 0 2 4) (.node .nil (.bool false) .nil))
noncomputable def d71 : Tr := (.node (.node d69 (.agg d26) (.node .nil (I 2) .nil)) (.agg d27) d70)
noncomputable def d72 : Tr := (.node (.node .nil (.bool true) .nil) (.agg [(I 3), (I 1), (I 0), (I 0)]) (.node .nil (.bool false) .nil))
noncomputable def d73 : Tr := (.node (.node d31 (.msl 95 0 3 4) d53) (.agg [(I 1), (I 0), (I 1), (I 0)]) d72)
noncomputable def d74 : Tr := (.node d71 (.agg [(I 3), (I 1), (I 0), (I 0)]) d73)
noncomputable def d75 : Tr := (.node (.node (.node d54 (I 3) d57) (.ptr 71 0 0) d63) (.bool false) (.node d68 (.msl 153 0 6 5) d74))
noncomputable def h1 : Heap := hApp h0 3285 (appN2 [2180, 1006, 155] h0.tch) [(154, R 5 [(.agg d15)]), (155, R 2 [(.agg [.nilsl, (.msl 154 0 1 5)])]), (1005, R 5 [(.agg d26)]), (1006, R 2 [(.agg [.nilsl, (.msl 1005 0 1 5)])]), (2179, R 5 [(.agg d2)]), (2180, R 2 [(.agg [.nilsl, (.msl 2179 0 1 5)])])]
theorem t0 : ev env 99994 (XC.reps 3 c3.r.r.r.l.r.l.l) d36 h0 = .ok .normal d75 h1 := nfC_of (by kernel_rfl)
noncomputable def d76 : Tr := (.node d51 (.agg [(I 1), (I 0), (I 2), (I 0)]) (.node .nil (I 4) .nil))
noncomputable def d77 : Tr := (.node .nil (.agg [.nilsl, (.msl 4342 0 1 5)]) .nil)
noncomputable def d78 : Tr := (.node d76 (.agg [(I 3), (I 1), (I 0), (I 0)]) (.node d0 (.agg d2) d77))
noncomputable def d79 : Tr := (.node d51 (.agg [(I 2), (I 1), (I 1), (I 2)]) (.node .nil (.ptr 153 4 0) .nil))
noncomputable def d80 : Tr := (.node (.node (.node .nil .und .nil) (I 4) .nil) (.agg d5) d77)
noncomputable def d81 : Tr := (.node d79 (.agg [(I 3), (I 1), (I 0), (I 0)]) d80)
noncomputable def d82 : Tr := (.node d13 (.agg [(I 1), (I 0), (I 2), (I 0)]) (.node .nil (.msl 4342 0 1 5) .nil))
noncomputable def d83 : Tr := (.node (.node d59 (.agg d10) d60) (.agg [(I 2), (I 1), (I 1), (I 2)]) (.node d82 (.agg d15) d62))
noncomputable def d84 : Tr := (.node (.node d77 (.msl 119 0 4 4) .nil) (.agg [(I 1), (I 0), (I 1), (I 0)]) (.node .nil (I 5) .nil))
noncomputable def d85 : Tr := (.node d22 (.agg [(I 1), (I 0), (I 1), (I 0)]) (.node .nil (.agg d8) .nil))
noncomputable def d86 : Tr := (.node (.node d84 (.msl 3 0 3 4) d65) (.ptr 4343 0 0) (.node d85 (.msl 73 0 1 4) d67))
noncomputable def d87 : Tr := (.node (.node d69 (.agg d26) (.node .nil (I 4) .nil)) (.agg d27) d70)
noncomputable def d88 : Tr := (.node (.node d31 (.msl 95 0 3 4) d77) (.agg [(I 1), (I 0), (I 1), (I 0)]) d72)
noncomputable def d89 : Tr := (.node d87 (.agg [(I 3), (I 1), (I 0), (I 0)]) d88)
noncomputable def d90 : Tr := (.node (.node (.node d78 (I 5) d81) (.ptr 71 0 0) d83) (.bool false) (.node d86 (.msl 153 0 6 5) d89))
noncomputable def h2 : Heap := hApp h1 5687 (appN2 [4343, 3286] h1.tch) [(3285, R 5 [(.agg d5)]), (3286, R 2 [(.agg [.nilsl, (.msl 3285 0 1 5)])]), (4342, R 5 [(.agg d8)]), (4343, R 2 [(.agg [.nilsl, (.msl 4342 0 1 5)])])]
theorem t1 : ev env 99991 (XC.reps 2 c3.r.r.r.l.r.l.l) d75 h1 = .ok .normal d90 h2 := nfC_of (by kernel_rfl)
noncomputable def d91 : Tr := (.node d51 (.agg [(I 1), (I 0), (I 2), (I 0)]) (.node .nil (I 5) .nil))
noncomputable def d92 : Tr := (.node .nil (.agg [.nilsl, (.msl 5687 0 1 5)]) .nil)
noncomputable def d93 : Tr := (.node d91 (.agg [(I 3), (I 1), (I 0), (I 0)]) (.node d0 (.agg d2) d92))
noncomputable def d94 : Tr := (.node d51 (.agg [(I 2), (I 1), (I 1), (I 2)]) (.node .nil (.ptr 153 5 0) .nil))
noncomputable def d95 : Tr := (.node (.node (.node .nil .und .nil) (I 6) .nil) (.agg d5) d92)
noncomputable def d96 : Tr := (.node d94 (.agg [(I 3), (I 1), (I 0), (I 0)]) d95)
noncomputable def d97 : Tr := (.node d13 (.agg [(I 1), (I 0), (I 2), (I 0)]) (.node .nil (.msl 5687 0 1 5) .nil))
noncomputable def d98 : Tr := (.node (.node d59 (.agg d10) d60) (.agg [(I 2), (I 1), (I 1), (I 2)]) (.node d97 (.agg d15) d62))
noncomputable def d99 : Tr := (.node (.node d92 (.msl 119 0 4 4) .nil) (.agg [(I 1), (I 0), (I 1), (I 0)]) (.node .nil (I 6) .nil))
noncomputable def d100 : Tr := (.node d22 (.agg [(I 1), (I 0), (I 1), (I 0)]) (.node .nil (.agg d11) .nil))
noncomputable def d101 : Tr := (.node (.node d99 (.msl 3 0 3 4) d65) (.ptr 5688 0 0) (.node d100 (.msl 73 0 1 4) d67))
noncomputable def d102 : Tr := (.node (.node d69 (.agg d26) (.node .nil (I 5) .nil)) (.agg d27) d70)
noncomputable def d103 : Tr := (.node (.node .nil (.bool false) .nil) (.agg [(I 3), (I 1), (I 0), (I 0)]) (.node .nil (.bool false) .nil))
noncomputable def d104 : Tr := (.node (.node d31 (.msl 95 0 3 4) d92) (.agg [(I 1), (I 0), (I 1), (I 0)]) d103)
noncomputable def d105 : Tr := (.node d102 (.agg [(I 3), (I 1), (I 0), (I 0)]) d104)
noncomputable def d106 : Tr := (.node (.node (.node d93 (I 6) d96) (.ptr 71 0 0) d98) (.bool false) (.node d101 (.msl 153 0 6 5) d105))
noncomputable def h3 : Heap := hApp h2 7013 (appN2 [5688] h2.tch) [(5687, R 5 [(.agg d11)]), (5688, R 2 [(.agg [.nilsl, (.msl 5687 0 1 5)])])]
theorem t2 : ev env 99989 c3.r.r.r.l.r.l d90 h2 = .ok (.exit 0) d106 h3 := nfC_of (by kernel_rfl)
theorem t3 : ev env 99991 c3.r.r.r.l.r.l d75 h1 = .ok (.exit 0) d106 h3 := ev_reps 2 (n := 99989) (a := c3.r.r.r.l.r.l.l) (by kernel_rfl) (by kernel_rfl) t1 t2
theorem t4 : ev env 99994 c3.r.r.r.l.r.l d36 h0 = .ok (.exit 0) d106 h3 := ev_reps 3 (n := 99991) (a := c3.r.r.r.l.r.l.l) (by kernel_rfl) (by kernel_rfl) t0 t3
theorem t5 : ev env 99995 c3.r.r.r.l.r d36 h0 = .ok .normal d106 h3 := ev_block (i := 0) (n := 99994) (a := c3.r.r.r.l.r.l) (by kernel_rfl) (by kernel_rfl) t4 (by kernel_rfl)
noncomputable def d107 : Tr := (.node d3 .und (.node d4 (.agg [(I 3), (I 1), (I 0), (I 0)]) d6))
noncomputable def d108 : Tr := (.node (.node d107 (.ptr 71 0 0) d17) (.bool false) (.node d24 (.msl 153 0 6 5) d35))
theorem t6 : ev env 99995 c3.r.r.r.l.l d108 h0 = .ok .normal d36 h0 := nfC_of (by kernel_rfl)
theorem t7 : ev env 99996 c3.r.r.r.l d108 h0 = .ok .normal d106 h3 := ev_seq (n := 99995) (a := c3.r.r.r.l.l) (b := c3.r.r.r.l.r) (by kernel_rfl) (by kernel_rfl) t6 t5
noncomputable def d109 : Tr := (.node (.node (.node .nil .und .nil) .und .nil) .und (.node .nil .und .nil))
noncomputable def d110 : Tr := (.node (.node d109 .und d109) .und (.node d109 .und d109))
noncomputable def d111 : Tr := (.node (.node .nil .und .nil) .und (.node .nil .und .nil))
noncomputable def d112 : Tr := (.node (.node d109 .und d109) .und (.node d109 .und d111))
noncomputable def d113 : Tr := (.node (.node d110 .und d110) .und (.node d110 .und d112))
theorem t8 : ev env 100000 (XC.pre 3 c3) d113 Heap.empty = .ok .normal d108 h0 := nfC_of (by kernel_rfl)
noncomputable def d114 : Tr := (.node .nil (.agg [(I 3), (I 1), (I 0), (I 0)]) .nil)
noncomputable def d115 : Tr := (.node d114 (.agg [(I 3), (I 1), (I 0), (I 0)]) .nil)
noncomputable def d116 : Tr := (.node d91 (.agg [(I 3), (I 1), (I 0), (I 0)]) (.node d115 (.agg d2) d92))
noncomputable def d117 : Tr := (.node (.node (.node .nil (.bool true) .nil) (I 6) .nil) (.agg d5) d92)
noncomputable def d118 : Tr := (.node d94 (.agg [(I 3), (I 1), (I 0), (I 0)]) d117)
noncomputable def d119 : List AV := [(.str [109, 97, 105, 110]), (I 1), (I 0), (.msl 7018 0 2 1), (.msl 7025 0 3 5)]
noncomputable def d120 : Tr := (.node (.node .nil (.agg d119) .nil) (.agg d11) .nil)
noncomputable def d121 : Tr := (.node d120 (.agg [(I 1), (I 0), (I 1), (I 0)]) (.node .nil (.bool false) .nil))
noncomputable def d122 : Tr := (.node .nil (.agg [(I 2), (I 1), (I 1), (I 1)]) .nil)
noncomputable def d123 : Tr := (.node d122 (.agg [(I 1), (I 0), (I 4), (I 0)]) .nil)
noncomputable def d124 : Tr := (.node d123 (.agg [(I 1), (I 0), (I 2), (I 0)]) (.node .nil (.msl 5687 0 1 5) .nil))
noncomputable def d125 : Tr := (.node (.node (.node .nil (.bool true) .nil) (I 6) .nil) (.agg [(I 2), (I 1), (I 2), (I 1)]) (.node .nil (.bool false) .nil))
noncomputable def d126 : Tr := (.node (.node d59 (.agg d10) d121) (.agg [(I 2), (I 1), (I 1), (I 2)]) (.node d124 (.agg d15) d125))
noncomputable def d127 : Tr := (.node (.node d116 (I 6) d118) (.ptr 71 0 0) d126)
noncomputable def d128 : Tr := (.node (.node .nil (.msl 7016 0 3 4) .nil) (.msl 137 0 6 4) .nil)
noncomputable def d129 : Tr := (.node d128 (.agg [(I 1), (I 0), (I 1), (I 0)]) (.node .nil (.bool true) .nil))
noncomputable def d130 : Tr := (.node (.node .nil (.agg d27) .nil) (.agg [(I 1), (I 0), (I 1), (I 0)]) .nil)
noncomputable def d131 : Tr := (.node d130 (.agg [(I 1), (I 0), (I 1), (I 0)]) (.node .nil (.agg d11) .nil))
noncomputable def d132 : Tr := (.node (.node .nil (.bool true) .nil) (.msl 153 0 6 5) .nil)
noncomputable def d133 : Tr := (.node d132 (.agg [(I 2), (I 1), (I 2), (I 1)]) (.node .nil (.bool true) .nil))
noncomputable def d134 : Tr := (.node (.node d99 (.msl 3 0 3 4) d129) (.ptr 5688 0 0) (.node d131 (.msl 73 0 1 4) d133))
noncomputable def d135 : Tr := (.node d132 (.msl 107 0 2 4) (.node .nil (.bool false) .nil))
noncomputable def d136 : Tr := (.node (.node d69 (.agg d26) (.node .nil (I 5) .nil)) (.agg d27) d135)
noncomputable def d137 : Tr := (.node d114 (.agg [(I 1), (I 0), (I 2), (I 0)]) .nil)
noncomputable def d138 : Tr := (.node (.node d137 (.msl 95 0 3 4) d92) (.agg [(I 1), (I 0), (I 1), (I 0)]) d103)
noncomputable def d139 : Tr := (.node d136 (.agg [(I 3), (I 1), (I 0), (I 0)]) d138)
noncomputable def d140 : Tr := (.node d127 (.bool true) (.node d134 (.msl 153 0 6 5) d139))
noncomputable def d141 : List AV := [(.agg [(I 2), (I 1), (I 1), (I 1)]), (.agg [(I 3), (I 1), (I 0), (I 0)]), (.agg [(I 3), (I 1), (I 0), (I 0)])]
noncomputable def h4 : Heap := hApp h3 7246 (appN2 [] h3.tch) [(7013, R 4 [(.agg [(I 2), (I 1), (I 1), (I 1)])]), (7014, R 4 [(.agg [(I 3), (I 1), (I 0), (I 0)])]), (7015, R 4 [(.agg [(I 3), (I 1), (I 0), (I 0)])]), (7016, R 4 d141), (7017, R 5 [(.agg d119)]), (7018, R 1 [(I 1), (I 1)]), (7019, R 5 [(.agg d119)]), (7020, R 5 [(.agg [.nilsl, (I 2), (I 1), (I 1), (I 1)])]), (7021, none), (7022, R 5 [(.agg [.nilsl, (I 3), (I 1), (I 0), (I 0)])]), (7023, none), (7024, R 5 [(.agg [.nilsl, (I 3), (I 1), (I 0), (I 0)])]), (7025, R 5 d39)]
theorem t9 : ev env 99995 c3.r.r.r.r.l d106 h3 = .ok .normal d140 h4 := nfC_of (by kernel_rfl)
theorem t10 : ev env 99995 c3.r.r.r.r.r d140 h4 = .ok .ret d140 h4 := nfC_of (by kernel_rfl)
theorem t11 : ev env 99996 c3.r.r.r.r d106 h3 = .ok .ret d140 h4 := ev_seq (n := 99995) (a := c3.r.r.r.r.l) (b := c3.r.r.r.r.r) (by kernel_rfl) (by kernel_rfl) t9 t10
theorem t12 : ev env 99997 c3.r.r.r d108 h0 = .ok .ret d140 h4 := ev_seq (n := 99996) (a := c3.r.r.r.l) (b := c3.r.r.r.r) (by kernel_rfl) (by kernel_rfl) t7 t11
theorem t13 : ev env 100000 c3 d113 Heap.empty = .ok .ret d140 h4 := ev_pre 3 (n := 99997) (a := c3.r.r.r) (by kernel_rfl) (by kernel_rfl) t8 t12
noncomputable def h5 : Heap := hApp Heap.empty 7246 (appN2 [] Heap.empty.tch) []
theorem t14 : callA env (ev env 100000) 3 [] Heap.empty = .ok (.bool true) h5 := call_gc (c := c3) (nt := fi3.ntmps) (rs := fi3.results) (by kernel_rfl) (by kernel_rfl) (by kernel_rfl) (by kernel_rfl) (by kernel_rfl) (by kernel_rfl) t13 (by kernel_rfl) (by kernel_rfl)
theorem told_split : isTrue (run env 100000 3 [] Heap.empty) = true := by
  rw [show run env 100000 3 [] Heap.empty = .ok (.bool true) h5 from t14]; rfl
end Go.Proofs.AmEnv
