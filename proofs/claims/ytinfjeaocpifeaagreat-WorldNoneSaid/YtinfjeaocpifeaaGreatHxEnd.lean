/- It is proved that the law answers true, whatever its numbers are; there are no conditions. -/
import Derived.KernelRfl
import Derived.Test.YtinfjeaocpifeaaGreatRows
import Derived.WalkKit
import Derived.ProofKit
import Derived.OpenShut
import Derived.ShutString
import Derived.ChangeOld
import Derived.Below
import Derived.SizedLaws
import Derived.Test.YtinfjeaocpifeaaGreatHx6
import Derived.Test.YtinfjeaocpifeaaGreatHx7
import Derived.Test.YtinfjeaocpifeaaGreatHx8
import Derived.Test.YtinfjeaocpifeaaGreatHx9
import Derived.Test.YtinfjeaocpifeaaGreatHx10
import Derived.Test.YtinfjeaocpifeaaGreatHx11
import Derived.Test.YtinfjeaocpifeaaGreatHx12
import Derived.Test.YtinfjeaocpifeaaGreatHx13
import Derived.Test.YtinfjeaocpifeaaGreatHx14
import Derived.Test.YtinfjeaocpifeaaGreatHx15
import Derived.Test.YtinfjeaocpifeaaGreatHx16
import Derived.Test.YtinfjeaocpifeaaGreatHx17
import Derived.Test.YtinfjeaocpifeaaGreatHx18
import Derived.Test.YtinfjeaocpifeaaGreatHx19
import Derived.Test.YtinfjeaocpifeaaGreatHx20
set_option linter.all false
/- All of the printed code is the program's. -/
namespace Wn
set_option autoImplicit false
open Go Go.Proofs Go.Hx Go.Hx.Fx
def rows (f : Nat) : Bool := Nat.beq f 198
set_option maxRecDepth 100000 in
theorem ents_eq : Tr.ents codeF id = [(3, d3), (7, d7), (15, d15), (31, d31), (63, d63), (255, d255), (383, d383), (191, d191), (95, d95), (159, d159), (223, d223), (351, d351), (47, d47), (79, d79), (143, d143), (271, d271), (335, d335), (111, d111), (175, d175), (239, d239), (23, d23), (39, d39), (71, d71), (135, d135), (263, d263), (199, d199), (327, d327), (103, d103), (167, d167), (295, d295), (359, d359), (55, d55), (151, d151), (119, d119), (183, d183), (247, d247), (375, d375), (11, d11), (19, d19), (35, d35), (259, d259), (195, d195), (99, d99), (163, d163), (227, d227), (51, d51), (83, d83), (339, d339), (307, d307), (243, d243), (371, d371), (27, d27), (43, d43), (75, d75), (139, d139), (203, d203), (331, d331), (107, d107), (171, d171), (59, d59), (91, d91), (155, d155), (283, d283), (123, d123), (187, d187), (5, d5), (9, d9), (17, d17), (33, d33), (65, d65), (129, d129), (193, d193), (97, d97), (353, d353), (49, d49), (81, d81), (145, d145), (209, d209), (337, d337), (113, d113), (177, d177), (241, d241), (369, d369), (73, d73), (265, d265), (201, d201), (105, d105), (169, d169), (297, d297), (233, d233), (57, d57), (89, d89), (153, d153), (217, d217), (345, d345), (249, d249), (13, d13), (21, d21), (37, d37), (133, d133), (261, d261), (197, d197), (101, d101), (165, d165), (229, d229), (357, d357), (53, d53), (85, d85), (117, d117), (437, d437), (373, d373), (29, d29), (45, d45), (77, d77), (141, d141), (269, d269), (205, d205), (109, d109), (237, d237), (61, d61), (93, d93), (157, d157), (285, d285), (317, d317), (4, d4), (8, d8), (16, d16), (32, d32), (64, d64), (128, d128), (384, d384), (192, d192), (96, d96), (160, d160), (352, d352), (80, d80), (144, d144), (336, d336), (112, d112), (176, d176), (240, d240), (368, d368), (24, d24), (40, d40), (72, d72), (136, d136), (264, d264), (392, d392), (200, d200), (104, d104), (168, d168), (232, d232), (56, d56), (88, d88), (152, d152), (280, d280), (216, d216), (120, d120), (184, d184), (248, d248), (12, d12), (20, d20), (36, d36), (68, d68), (132, d132), (260, d260), (196, d196), (100, d100), (164, d164), (228, d228), (356, d356), (52, d52), (84, d84), (212, d212), (180, d180), (436, d436), (244, d244), (372, d372), (28, d28), (44, d44), (76, d76), (140, d140), (268, d268), (108, d108), (172, d172), (60, d60), (92, d92), (156, d156), (284, d284), (220, d220), (252, d252), (6, d6), (10, d10), (34, d34), (194, d194), (162, d162), (226, d226), (354, d354), (50, d50), (82, d82), (146, d146), (338, d338), (114, d114), (306, d306), (242, d242), (42, d42), (74, d74), (138, d138), (202, d202), (106, d106), (170, d170), (58, d58), (90, d90), (154, d154), (282, d282), (250, d250), (14, d14), (22, d22), (38, d38), (70, d70), (262, d262), (198, d198), (326, d326), (102, d102), (166, d166), (294, d294), (358, d358), (54, d54), (86, d86), (150, d150), (342, d342), (118, d118), (182, d182), (246, d246), (374, d374), (30, d30), (46, d46), (78, d78), (142, d142), (270, d270), (206, d206), (110, d110), (62, d62), (94, d94), (158, d158), (286, d286), (222, d222), (190, d190), (382, d382)] := by kernel_rfl
set_option maxRecDepth 100000 in
theorem all_same : ∀ f g, getR codeF f = some g → SameF Tryz.prog f g (rows f) := by
  intro f g h
  rw [getR_eq] at h
  have hm := Tr.mem_ents codeF id f g h
  rw [ents_eq] at hm
  have key : ∀ p ∈ [((3 : Nat), d3), ((7 : Nat), d7), ((15 : Nat), d15), ((31 : Nat), d31), ((63 : Nat), d63), ((255 : Nat), d255), ((383 : Nat), d383), ((191 : Nat), d191), ((95 : Nat), d95), ((159 : Nat), d159), ((223 : Nat), d223), ((351 : Nat), d351), ((47 : Nat), d47), ((79 : Nat), d79), ((143 : Nat), d143), ((271 : Nat), d271), ((335 : Nat), d335), ((111 : Nat), d111), ((175 : Nat), d175), ((239 : Nat), d239), ((23 : Nat), d23), ((39 : Nat), d39), ((71 : Nat), d71), ((135 : Nat), d135), ((263 : Nat), d263), ((199 : Nat), d199), ((327 : Nat), d327), ((103 : Nat), d103), ((167 : Nat), d167), ((295 : Nat), d295), ((359 : Nat), d359), ((55 : Nat), d55), ((151 : Nat), d151), ((119 : Nat), d119), ((183 : Nat), d183), ((247 : Nat), d247), ((375 : Nat), d375), ((11 : Nat), d11), ((19 : Nat), d19), ((35 : Nat), d35), ((259 : Nat), d259), ((195 : Nat), d195), ((99 : Nat), d99), ((163 : Nat), d163), ((227 : Nat), d227), ((51 : Nat), d51), ((83 : Nat), d83), ((339 : Nat), d339), ((307 : Nat), d307), ((243 : Nat), d243), ((371 : Nat), d371), ((27 : Nat), d27), ((43 : Nat), d43), ((75 : Nat), d75), ((139 : Nat), d139), ((203 : Nat), d203), ((331 : Nat), d331), ((107 : Nat), d107), ((171 : Nat), d171), ((59 : Nat), d59), ((91 : Nat), d91), ((155 : Nat), d155), ((283 : Nat), d283), ((123 : Nat), d123), ((187 : Nat), d187), ((5 : Nat), d5), ((9 : Nat), d9), ((17 : Nat), d17), ((33 : Nat), d33), ((65 : Nat), d65), ((129 : Nat), d129), ((193 : Nat), d193), ((97 : Nat), d97), ((353 : Nat), d353), ((49 : Nat), d49), ((81 : Nat), d81), ((145 : Nat), d145), ((209 : Nat), d209), ((337 : Nat), d337), ((113 : Nat), d113), ((177 : Nat), d177), ((241 : Nat), d241), ((369 : Nat), d369), ((73 : Nat), d73), ((265 : Nat), d265), ((201 : Nat), d201), ((105 : Nat), d105), ((169 : Nat), d169), ((297 : Nat), d297), ((233 : Nat), d233), ((57 : Nat), d57), ((89 : Nat), d89), ((153 : Nat), d153), ((217 : Nat), d217), ((345 : Nat), d345), ((249 : Nat), d249), ((13 : Nat), d13), ((21 : Nat), d21), ((37 : Nat), d37), ((133 : Nat), d133), ((261 : Nat), d261), ((197 : Nat), d197), ((101 : Nat), d101), ((165 : Nat), d165), ((229 : Nat), d229), ((357 : Nat), d357), ((53 : Nat), d53), ((85 : Nat), d85), ((117 : Nat), d117), ((437 : Nat), d437), ((373 : Nat), d373), ((29 : Nat), d29), ((45 : Nat), d45), ((77 : Nat), d77), ((141 : Nat), d141), ((269 : Nat), d269), ((205 : Nat), d205), ((109 : Nat), d109), ((237 : Nat), d237), ((61 : Nat), d61), ((93 : Nat), d93), ((157 : Nat), d157), ((285 : Nat), d285), ((317 : Nat), d317), ((4 : Nat), d4), ((8 : Nat), d8), ((16 : Nat), d16), ((32 : Nat), d32), ((64 : Nat), d64), ((128 : Nat), d128), ((384 : Nat), d384), ((192 : Nat), d192), ((96 : Nat), d96), ((160 : Nat), d160), ((352 : Nat), d352), ((80 : Nat), d80), ((144 : Nat), d144), ((336 : Nat), d336), ((112 : Nat), d112), ((176 : Nat), d176), ((240 : Nat), d240), ((368 : Nat), d368), ((24 : Nat), d24), ((40 : Nat), d40), ((72 : Nat), d72), ((136 : Nat), d136), ((264 : Nat), d264), ((392 : Nat), d392), ((200 : Nat), d200), ((104 : Nat), d104), ((168 : Nat), d168), ((232 : Nat), d232), ((56 : Nat), d56), ((88 : Nat), d88), ((152 : Nat), d152), ((280 : Nat), d280), ((216 : Nat), d216), ((120 : Nat), d120), ((184 : Nat), d184), ((248 : Nat), d248), ((12 : Nat), d12), ((20 : Nat), d20), ((36 : Nat), d36), ((68 : Nat), d68), ((132 : Nat), d132), ((260 : Nat), d260), ((196 : Nat), d196), ((100 : Nat), d100), ((164 : Nat), d164), ((228 : Nat), d228), ((356 : Nat), d356), ((52 : Nat), d52), ((84 : Nat), d84), ((212 : Nat), d212), ((180 : Nat), d180), ((436 : Nat), d436), ((244 : Nat), d244), ((372 : Nat), d372), ((28 : Nat), d28), ((44 : Nat), d44), ((76 : Nat), d76), ((140 : Nat), d140), ((268 : Nat), d268), ((108 : Nat), d108), ((172 : Nat), d172), ((60 : Nat), d60), ((92 : Nat), d92), ((156 : Nat), d156), ((284 : Nat), d284), ((220 : Nat), d220), ((252 : Nat), d252), ((6 : Nat), d6), ((10 : Nat), d10), ((34 : Nat), d34), ((194 : Nat), d194), ((162 : Nat), d162), ((226 : Nat), d226), ((354 : Nat), d354), ((50 : Nat), d50), ((82 : Nat), d82), ((146 : Nat), d146), ((338 : Nat), d338), ((114 : Nat), d114), ((306 : Nat), d306), ((242 : Nat), d242), ((42 : Nat), d42), ((74 : Nat), d74), ((138 : Nat), d138), ((202 : Nat), d202), ((106 : Nat), d106), ((170 : Nat), d170), ((58 : Nat), d58), ((90 : Nat), d90), ((154 : Nat), d154), ((282 : Nat), d282), ((250 : Nat), d250), ((14 : Nat), d14), ((22 : Nat), d22), ((38 : Nat), d38), ((70 : Nat), d70), ((262 : Nat), d262), ((198 : Nat), d198), ((326 : Nat), d326), ((102 : Nat), d102), ((166 : Nat), d166), ((294 : Nat), d294), ((358 : Nat), d358), ((54 : Nat), d54), ((86 : Nat), d86), ((150 : Nat), d150), ((342 : Nat), d342), ((118 : Nat), d118), ((182 : Nat), d182), ((246 : Nat), d246), ((374 : Nat), d374), ((30 : Nat), d30), ((46 : Nat), d46), ((78 : Nat), d78), ((142 : Nat), d142), ((270 : Nat), d270), ((206 : Nat), d206), ((110 : Nat), d110), ((62 : Nat), d62), ((94 : Nat), d94), ((158 : Nat), d158), ((286 : Nat), d286), ((222 : Nat), d222), ((190 : Nat), d190), ((382 : Nat), d382)], SameF Tryz.prog p.1 p.2 (rows p.1) :=
    List.forall_mem_cons.2 ⟨s3, List.forall_mem_cons.2 ⟨s7, List.forall_mem_cons.2 ⟨s15, List.forall_mem_cons.2 ⟨s31, List.forall_mem_cons.2 ⟨s63, List.forall_mem_cons.2 ⟨s255, List.forall_mem_cons.2 ⟨s383, List.forall_mem_cons.2 ⟨s191, List.forall_mem_cons.2 ⟨s95, List.forall_mem_cons.2 ⟨s159, List.forall_mem_cons.2 ⟨s223, List.forall_mem_cons.2 ⟨s351, List.forall_mem_cons.2 ⟨s47, List.forall_mem_cons.2 ⟨s79, List.forall_mem_cons.2 ⟨s143, List.forall_mem_cons.2 ⟨s271, List.forall_mem_cons.2 ⟨s335, List.forall_mem_cons.2 ⟨s111, List.forall_mem_cons.2 ⟨s175, List.forall_mem_cons.2 ⟨s239, List.forall_mem_cons.2 ⟨s23, List.forall_mem_cons.2 ⟨s39, List.forall_mem_cons.2 ⟨s71, List.forall_mem_cons.2 ⟨s135, List.forall_mem_cons.2 ⟨s263, List.forall_mem_cons.2 ⟨s199, List.forall_mem_cons.2 ⟨s327, List.forall_mem_cons.2 ⟨s103, List.forall_mem_cons.2 ⟨s167, List.forall_mem_cons.2 ⟨s295, List.forall_mem_cons.2 ⟨s359, List.forall_mem_cons.2 ⟨s55, List.forall_mem_cons.2 ⟨s151, List.forall_mem_cons.2 ⟨s119, List.forall_mem_cons.2 ⟨s183, List.forall_mem_cons.2 ⟨s247, List.forall_mem_cons.2 ⟨s375, List.forall_mem_cons.2 ⟨s11, List.forall_mem_cons.2 ⟨s19, List.forall_mem_cons.2 ⟨s35, List.forall_mem_cons.2 ⟨s259, List.forall_mem_cons.2 ⟨s195, List.forall_mem_cons.2 ⟨s99, List.forall_mem_cons.2 ⟨s163, List.forall_mem_cons.2 ⟨s227, List.forall_mem_cons.2 ⟨s51, List.forall_mem_cons.2 ⟨s83, List.forall_mem_cons.2 ⟨s339, List.forall_mem_cons.2 ⟨s307, List.forall_mem_cons.2 ⟨s243, List.forall_mem_cons.2 ⟨s371, List.forall_mem_cons.2 ⟨s27, List.forall_mem_cons.2 ⟨s43, List.forall_mem_cons.2 ⟨s75, List.forall_mem_cons.2 ⟨s139, List.forall_mem_cons.2 ⟨s203, List.forall_mem_cons.2 ⟨s331, List.forall_mem_cons.2 ⟨s107, List.forall_mem_cons.2 ⟨s171, List.forall_mem_cons.2 ⟨s59, List.forall_mem_cons.2 ⟨s91, List.forall_mem_cons.2 ⟨s155, List.forall_mem_cons.2 ⟨s283, List.forall_mem_cons.2 ⟨s123, List.forall_mem_cons.2 ⟨s187, List.forall_mem_cons.2 ⟨s5, List.forall_mem_cons.2 ⟨s9, List.forall_mem_cons.2 ⟨s17, List.forall_mem_cons.2 ⟨s33, List.forall_mem_cons.2 ⟨s65, List.forall_mem_cons.2 ⟨s129, List.forall_mem_cons.2 ⟨s193, List.forall_mem_cons.2 ⟨s97, List.forall_mem_cons.2 ⟨s353, List.forall_mem_cons.2 ⟨s49, List.forall_mem_cons.2 ⟨s81, List.forall_mem_cons.2 ⟨s145, List.forall_mem_cons.2 ⟨s209, List.forall_mem_cons.2 ⟨s337, List.forall_mem_cons.2 ⟨s113, List.forall_mem_cons.2 ⟨s177, List.forall_mem_cons.2 ⟨s241, List.forall_mem_cons.2 ⟨s369, List.forall_mem_cons.2 ⟨s73, List.forall_mem_cons.2 ⟨s265, List.forall_mem_cons.2 ⟨s201, List.forall_mem_cons.2 ⟨s105, List.forall_mem_cons.2 ⟨s169, List.forall_mem_cons.2 ⟨s297, List.forall_mem_cons.2 ⟨s233, List.forall_mem_cons.2 ⟨s57, List.forall_mem_cons.2 ⟨s89, List.forall_mem_cons.2 ⟨s153, List.forall_mem_cons.2 ⟨s217, List.forall_mem_cons.2 ⟨s345, List.forall_mem_cons.2 ⟨s249, List.forall_mem_cons.2 ⟨s13, List.forall_mem_cons.2 ⟨s21, List.forall_mem_cons.2 ⟨s37, List.forall_mem_cons.2 ⟨s133, List.forall_mem_cons.2 ⟨s261, List.forall_mem_cons.2 ⟨s197, List.forall_mem_cons.2 ⟨s101, List.forall_mem_cons.2 ⟨s165, List.forall_mem_cons.2 ⟨s229, List.forall_mem_cons.2 ⟨s357, List.forall_mem_cons.2 ⟨s53, List.forall_mem_cons.2 ⟨s85, List.forall_mem_cons.2 ⟨s117, List.forall_mem_cons.2 ⟨s437, List.forall_mem_cons.2 ⟨s373, List.forall_mem_cons.2 ⟨s29, List.forall_mem_cons.2 ⟨s45, List.forall_mem_cons.2 ⟨s77, List.forall_mem_cons.2 ⟨s141, List.forall_mem_cons.2 ⟨s269, List.forall_mem_cons.2 ⟨s205, List.forall_mem_cons.2 ⟨s109, List.forall_mem_cons.2 ⟨s237, List.forall_mem_cons.2 ⟨s61, List.forall_mem_cons.2 ⟨s93, List.forall_mem_cons.2 ⟨s157, List.forall_mem_cons.2 ⟨s285, List.forall_mem_cons.2 ⟨s317, List.forall_mem_cons.2 ⟨s4, List.forall_mem_cons.2 ⟨s8, List.forall_mem_cons.2 ⟨s16, List.forall_mem_cons.2 ⟨s32, List.forall_mem_cons.2 ⟨s64, List.forall_mem_cons.2 ⟨s128, List.forall_mem_cons.2 ⟨s384, List.forall_mem_cons.2 ⟨s192, List.forall_mem_cons.2 ⟨s96, List.forall_mem_cons.2 ⟨s160, List.forall_mem_cons.2 ⟨s352, List.forall_mem_cons.2 ⟨s80, List.forall_mem_cons.2 ⟨s144, List.forall_mem_cons.2 ⟨s336, List.forall_mem_cons.2 ⟨s112, List.forall_mem_cons.2 ⟨s176, List.forall_mem_cons.2 ⟨s240, List.forall_mem_cons.2 ⟨s368, List.forall_mem_cons.2 ⟨s24, List.forall_mem_cons.2 ⟨s40, List.forall_mem_cons.2 ⟨s72, List.forall_mem_cons.2 ⟨s136, List.forall_mem_cons.2 ⟨s264, List.forall_mem_cons.2 ⟨s392, List.forall_mem_cons.2 ⟨s200, List.forall_mem_cons.2 ⟨s104, List.forall_mem_cons.2 ⟨s168, List.forall_mem_cons.2 ⟨s232, List.forall_mem_cons.2 ⟨s56, List.forall_mem_cons.2 ⟨s88, List.forall_mem_cons.2 ⟨s152, List.forall_mem_cons.2 ⟨s280, List.forall_mem_cons.2 ⟨s216, List.forall_mem_cons.2 ⟨s120, List.forall_mem_cons.2 ⟨s184, List.forall_mem_cons.2 ⟨s248, List.forall_mem_cons.2 ⟨s12, List.forall_mem_cons.2 ⟨s20, List.forall_mem_cons.2 ⟨s36, List.forall_mem_cons.2 ⟨s68, List.forall_mem_cons.2 ⟨s132, List.forall_mem_cons.2 ⟨s260, List.forall_mem_cons.2 ⟨s196, List.forall_mem_cons.2 ⟨s100, List.forall_mem_cons.2 ⟨s164, List.forall_mem_cons.2 ⟨s228, List.forall_mem_cons.2 ⟨s356, List.forall_mem_cons.2 ⟨s52, List.forall_mem_cons.2 ⟨s84, List.forall_mem_cons.2 ⟨s212, List.forall_mem_cons.2 ⟨s180, List.forall_mem_cons.2 ⟨s436, List.forall_mem_cons.2 ⟨s244, List.forall_mem_cons.2 ⟨s372, List.forall_mem_cons.2 ⟨s28, List.forall_mem_cons.2 ⟨s44, List.forall_mem_cons.2 ⟨s76, List.forall_mem_cons.2 ⟨s140, List.forall_mem_cons.2 ⟨s268, List.forall_mem_cons.2 ⟨s108, List.forall_mem_cons.2 ⟨s172, List.forall_mem_cons.2 ⟨s60, List.forall_mem_cons.2 ⟨s92, List.forall_mem_cons.2 ⟨s156, List.forall_mem_cons.2 ⟨s284, List.forall_mem_cons.2 ⟨s220, List.forall_mem_cons.2 ⟨s252, List.forall_mem_cons.2 ⟨s6, List.forall_mem_cons.2 ⟨s10, List.forall_mem_cons.2 ⟨s34, List.forall_mem_cons.2 ⟨s194, List.forall_mem_cons.2 ⟨s162, List.forall_mem_cons.2 ⟨s226, List.forall_mem_cons.2 ⟨s354, List.forall_mem_cons.2 ⟨s50, List.forall_mem_cons.2 ⟨s82, List.forall_mem_cons.2 ⟨s146, List.forall_mem_cons.2 ⟨s338, List.forall_mem_cons.2 ⟨s114, List.forall_mem_cons.2 ⟨s306, List.forall_mem_cons.2 ⟨s242, List.forall_mem_cons.2 ⟨s42, List.forall_mem_cons.2 ⟨s74, List.forall_mem_cons.2 ⟨s138, List.forall_mem_cons.2 ⟨s202, List.forall_mem_cons.2 ⟨s106, List.forall_mem_cons.2 ⟨s170, List.forall_mem_cons.2 ⟨s58, List.forall_mem_cons.2 ⟨s90, List.forall_mem_cons.2 ⟨s154, List.forall_mem_cons.2 ⟨s282, List.forall_mem_cons.2 ⟨s250, List.forall_mem_cons.2 ⟨s14, List.forall_mem_cons.2 ⟨s22, List.forall_mem_cons.2 ⟨s38, List.forall_mem_cons.2 ⟨s70, List.forall_mem_cons.2 ⟨s262, List.forall_mem_cons.2 ⟨s198, List.forall_mem_cons.2 ⟨s326, List.forall_mem_cons.2 ⟨s102, List.forall_mem_cons.2 ⟨s166, List.forall_mem_cons.2 ⟨s294, List.forall_mem_cons.2 ⟨s358, List.forall_mem_cons.2 ⟨s54, List.forall_mem_cons.2 ⟨s86, List.forall_mem_cons.2 ⟨s150, List.forall_mem_cons.2 ⟨s342, List.forall_mem_cons.2 ⟨s118, List.forall_mem_cons.2 ⟨s182, List.forall_mem_cons.2 ⟨s246, List.forall_mem_cons.2 ⟨s374, List.forall_mem_cons.2 ⟨s30, List.forall_mem_cons.2 ⟨s46, List.forall_mem_cons.2 ⟨s78, List.forall_mem_cons.2 ⟨s142, List.forall_mem_cons.2 ⟨s270, List.forall_mem_cons.2 ⟨s206, List.forall_mem_cons.2 ⟨s110, List.forall_mem_cons.2 ⟨s62, List.forall_mem_cons.2 ⟨s94, List.forall_mem_cons.2 ⟨s158, List.forall_mem_cons.2 ⟨s286, List.forall_mem_cons.2 ⟨s222, List.forall_mem_cons.2 ⟨s190, List.forall_mem_cons.2 ⟨s382, (fun _ h => nomatch h)⟩⟩⟩⟩⟩⟩⟩⟩⟩⟩⟩⟩⟩⟩⟩⟩⟩⟩⟩⟩⟩⟩⟩⟩⟩⟩⟩⟩⟩⟩⟩⟩⟩⟩⟩⟩⟩⟩⟩⟩⟩⟩⟩⟩⟩⟩⟩⟩⟩⟩⟩⟩⟩⟩⟩⟩⟩⟩⟩⟩⟩⟩⟩⟩⟩⟩⟩⟩⟩⟩⟩⟩⟩⟩⟩⟩⟩⟩⟩⟩⟩⟩⟩⟩⟩⟩⟩⟩⟩⟩⟩⟩⟩⟩⟩⟩⟩⟩⟩⟩⟩⟩⟩⟩⟩⟩⟩⟩⟩⟩⟩⟩⟩⟩⟩⟩⟩⟩⟩⟩⟩⟩⟩⟩⟩⟩⟩⟩⟩⟩⟩⟩⟩⟩⟩⟩⟩⟩⟩⟩⟩⟩⟩⟩⟩⟩⟩⟩⟩⟩⟩⟩⟩⟩⟩⟩⟩⟩⟩⟩⟩⟩⟩⟩⟩⟩⟩⟩⟩⟩⟩⟩⟩⟩⟩⟩⟩⟩⟩⟩⟩⟩⟩⟩⟩⟩⟩⟩⟩⟩⟩⟩⟩⟩⟩⟩⟩⟩⟩⟩⟩⟩⟩⟩⟩⟩⟩⟩⟩⟩⟩⟩⟩⟩⟩⟩⟩⟩⟩⟩⟩⟩⟩⟩⟩⟩⟩⟩⟩⟩⟩⟩⟩⟩⟩⟩⟩⟩⟩⟩⟩⟩⟩⟩⟩⟩⟩⟩⟩
  exact key (f, g) hm
end Wn

/- The functions alone, from nothing. -/
namespace Wn
set_option autoImplicit false
open Go Go.Proofs Go.Hx Go.Hx.Fx
theorem noEscape (x : Value) (w : World) : (callFunc 137 #[x]).run Tryz.prog w = .ok (.value x) w := by kernel_rfl
theorem ok0 : FormsOk Tryz.prog cx0 rows := ⟨by kernel_rfl, all_same, (fun f p h => by cases h), putX_ok noEscape⟩
end Wn

/- The levels stand. -/
namespace Wn
set_option autoImplicit false
open Go Go.Proofs Go.Hx Go.Hx.Fx
set_option maxRecDepth 100000 in
theorem tab74_ok : ∀ l s v s', memoK tab74 l s = .ok v s' → TgtOk Tryz.prog s v s' (.fn 74 l) :=
  memoK_ok tab74 (by kernel_rfl) (show ∀ p ∈ [q0, q1, q2, q3, q4, q5, q6, q7, q8, q9, q10, q11, q12, q13, q14, q15, q16, q17, q18, q19, q20, q21, q22, q23, q24, q25, q26, q27, q28, q29, q30, q31, q32, q33, q34, q35, q36, q37, q38, q39, q40, q41, q42, q43, q44, q45, q46, q47, q48, q49, q50, q51, q52, q53, q54, q55, q56, q57, q58, q59, q60, q61, q62, q63, q64, q65, q66, q67, q68, q69, q70, q71, q72, q73, q74, q75, q76, q77, q78, q79, q80, q81, q82, q83, q84, q85, q86, q87, q88, q89, q90, q91, q92, q93, q94, q95, q96, q97, q98, q99, q100, q101, q102, q103, q104, q105, q106, q107, q108, q109, q110, q111, q112, q113, q114, q115, q116, q117, q118, q119, q120, q121, q122, q123, q124, q125, q126, q127, q128, q129, q130, q131, q132, q133, q134, q135, q136, q137, q138, q139, q140, q141, q142, q143, q144, q145, q146], _ from List.forall_mem_cons.2 ⟨ok0.memo m0, List.forall_mem_cons.2 ⟨ok0.memo m1, List.forall_mem_cons.2 ⟨ok0.memo m2, List.forall_mem_cons.2 ⟨ok0.memo m3, List.forall_mem_cons.2 ⟨ok0.memo m4, List.forall_mem_cons.2 ⟨ok0.memo m5, List.forall_mem_cons.2 ⟨ok0.memo m6, List.forall_mem_cons.2 ⟨ok0.memo m7, List.forall_mem_cons.2 ⟨ok0.memo m8, List.forall_mem_cons.2 ⟨ok0.memo m9, List.forall_mem_cons.2 ⟨ok0.memo m10, List.forall_mem_cons.2 ⟨ok0.memo m11, List.forall_mem_cons.2 ⟨ok0.memo m12, List.forall_mem_cons.2 ⟨ok0.memo m13, List.forall_mem_cons.2 ⟨ok0.memo m14, List.forall_mem_cons.2 ⟨ok0.memo m15, List.forall_mem_cons.2 ⟨ok0.memo m16, List.forall_mem_cons.2 ⟨ok0.memo m17, List.forall_mem_cons.2 ⟨ok0.memo m18, List.forall_mem_cons.2 ⟨ok0.memo m19, List.forall_mem_cons.2 ⟨ok0.memo m20, List.forall_mem_cons.2 ⟨ok0.memo m21, List.forall_mem_cons.2 ⟨ok0.memo m22, List.forall_mem_cons.2 ⟨ok0.memo m23, List.forall_mem_cons.2 ⟨ok0.memo m24, List.forall_mem_cons.2 ⟨ok0.memo m25, List.forall_mem_cons.2 ⟨ok0.memo m26, List.forall_mem_cons.2 ⟨ok0.memo m27, List.forall_mem_cons.2 ⟨ok0.memo m28, List.forall_mem_cons.2 ⟨ok0.memo m29, List.forall_mem_cons.2 ⟨ok0.memo m30, List.forall_mem_cons.2 ⟨ok0.memo m31, List.forall_mem_cons.2 ⟨ok0.memo m32, List.forall_mem_cons.2 ⟨ok0.memo m33, List.forall_mem_cons.2 ⟨ok0.memo m34, List.forall_mem_cons.2 ⟨ok0.memo m35, List.forall_mem_cons.2 ⟨ok0.memo m36, List.forall_mem_cons.2 ⟨ok0.memo m37, List.forall_mem_cons.2 ⟨ok0.memo m38, List.forall_mem_cons.2 ⟨ok0.memo m39, List.forall_mem_cons.2 ⟨ok0.memo m40, List.forall_mem_cons.2 ⟨ok0.memo m41, List.forall_mem_cons.2 ⟨ok0.memo m42, List.forall_mem_cons.2 ⟨ok0.memo m43, List.forall_mem_cons.2 ⟨ok0.memo m44, List.forall_mem_cons.2 ⟨ok0.memo m45, List.forall_mem_cons.2 ⟨ok0.memo m46, List.forall_mem_cons.2 ⟨ok0.memo m47, List.forall_mem_cons.2 ⟨ok0.memo m48, List.forall_mem_cons.2 ⟨ok0.memo m49, List.forall_mem_cons.2 ⟨ok0.memo m50, List.forall_mem_cons.2 ⟨ok0.memo m51, List.forall_mem_cons.2 ⟨ok0.memo m52, List.forall_mem_cons.2 ⟨ok0.memo m53, List.forall_mem_cons.2 ⟨ok0.memo m54, List.forall_mem_cons.2 ⟨ok0.memo m55, List.forall_mem_cons.2 ⟨ok0.memo m56, List.forall_mem_cons.2 ⟨ok0.memo m57, List.forall_mem_cons.2 ⟨ok0.memo m58, List.forall_mem_cons.2 ⟨ok0.memo m59, List.forall_mem_cons.2 ⟨ok0.memo m60, List.forall_mem_cons.2 ⟨ok0.memo m61, List.forall_mem_cons.2 ⟨ok0.memo m62, List.forall_mem_cons.2 ⟨ok0.memo m63, List.forall_mem_cons.2 ⟨ok0.memo m64, List.forall_mem_cons.2 ⟨ok0.memo m65, List.forall_mem_cons.2 ⟨ok0.memo m66, List.forall_mem_cons.2 ⟨ok0.memo m67, List.forall_mem_cons.2 ⟨ok0.memo m68, List.forall_mem_cons.2 ⟨ok0.memo m69, List.forall_mem_cons.2 ⟨ok0.memo m70, List.forall_mem_cons.2 ⟨ok0.memo m71, List.forall_mem_cons.2 ⟨ok0.memo m72, List.forall_mem_cons.2 ⟨ok0.memo m73, List.forall_mem_cons.2 ⟨ok0.memo m74, List.forall_mem_cons.2 ⟨ok0.memo m75, List.forall_mem_cons.2 ⟨ok0.memo m76, List.forall_mem_cons.2 ⟨ok0.memo m77, List.forall_mem_cons.2 ⟨ok0.memo m78, List.forall_mem_cons.2 ⟨ok0.memo m79, List.forall_mem_cons.2 ⟨ok0.memo m80, List.forall_mem_cons.2 ⟨ok0.memo m81, List.forall_mem_cons.2 ⟨ok0.memo m82, List.forall_mem_cons.2 ⟨ok0.memo m83, List.forall_mem_cons.2 ⟨ok0.memo m84, List.forall_mem_cons.2 ⟨ok0.memo m85, List.forall_mem_cons.2 ⟨ok0.memo m86, List.forall_mem_cons.2 ⟨ok0.memo m87, List.forall_mem_cons.2 ⟨ok0.memo m88, List.forall_mem_cons.2 ⟨ok0.memo m89, List.forall_mem_cons.2 ⟨ok0.memo m90, List.forall_mem_cons.2 ⟨ok0.memo m91, List.forall_mem_cons.2 ⟨ok0.memo m92, List.forall_mem_cons.2 ⟨ok0.memo m93, List.forall_mem_cons.2 ⟨ok0.memo m94, List.forall_mem_cons.2 ⟨ok0.memo m95, List.forall_mem_cons.2 ⟨ok0.memo m96, List.forall_mem_cons.2 ⟨ok0.memo m97, List.forall_mem_cons.2 ⟨ok0.memo m98, List.forall_mem_cons.2 ⟨ok0.memo m99, List.forall_mem_cons.2 ⟨ok0.memo m100, List.forall_mem_cons.2 ⟨ok0.memo m101, List.forall_mem_cons.2 ⟨ok0.memo m102, List.forall_mem_cons.2 ⟨ok0.memo m103, List.forall_mem_cons.2 ⟨ok0.memo m104, List.forall_mem_cons.2 ⟨ok0.memo m105, List.forall_mem_cons.2 ⟨ok0.memo m106, List.forall_mem_cons.2 ⟨ok0.memo m107, List.forall_mem_cons.2 ⟨ok0.memo m108, List.forall_mem_cons.2 ⟨ok0.memo m109, List.forall_mem_cons.2 ⟨ok0.memo m110, List.forall_mem_cons.2 ⟨ok0.memo m111, List.forall_mem_cons.2 ⟨ok0.memo m112, List.forall_mem_cons.2 ⟨ok0.memo m113, List.forall_mem_cons.2 ⟨ok0.memo m114, List.forall_mem_cons.2 ⟨ok0.memo m115, List.forall_mem_cons.2 ⟨ok0.memo m116, List.forall_mem_cons.2 ⟨ok0.memo m117, List.forall_mem_cons.2 ⟨ok0.memo m118, List.forall_mem_cons.2 ⟨ok0.memo m119, List.forall_mem_cons.2 ⟨ok0.memo m120, List.forall_mem_cons.2 ⟨ok0.memo m121, List.forall_mem_cons.2 ⟨ok0.memo m122, List.forall_mem_cons.2 ⟨ok0.memo m123, List.forall_mem_cons.2 ⟨ok0.memo m124, List.forall_mem_cons.2 ⟨ok0.memo m125, List.forall_mem_cons.2 ⟨ok0.memo m126, List.forall_mem_cons.2 ⟨ok0.memo m127, List.forall_mem_cons.2 ⟨ok0.memo m128, List.forall_mem_cons.2 ⟨ok0.memo m129, List.forall_mem_cons.2 ⟨ok0.memo m130, List.forall_mem_cons.2 ⟨ok0.memo m131, List.forall_mem_cons.2 ⟨ok0.memo m132, List.forall_mem_cons.2 ⟨ok0.memo m133, List.forall_mem_cons.2 ⟨ok0.memo m134, List.forall_mem_cons.2 ⟨ok0.memo m135, List.forall_mem_cons.2 ⟨ok0.memo m136, List.forall_mem_cons.2 ⟨ok0.memo m137, List.forall_mem_cons.2 ⟨ok0.memo m138, List.forall_mem_cons.2 ⟨ok0.memo m139, List.forall_mem_cons.2 ⟨ok0.memo m140, List.forall_mem_cons.2 ⟨ok0.memo m141, List.forall_mem_cons.2 ⟨ok0.memo m142, List.forall_mem_cons.2 ⟨ok0.memo m143, List.forall_mem_cons.2 ⟨ok0.memo m144, List.forall_mem_cons.2 ⟨ok0.memo m145, List.forall_mem_cons.2 ⟨ok0.memo m146, (fun _ h => nomatch h)⟩⟩⟩⟩⟩⟩⟩⟩⟩⟩⟩⟩⟩⟩⟩⟩⟩⟩⟩⟩⟩⟩⟩⟩⟩⟩⟩⟩⟩⟩⟩⟩⟩⟩⟩⟩⟩⟩⟩⟩⟩⟩⟩⟩⟩⟩⟩⟩⟩⟩⟩⟩⟩⟩⟩⟩⟩⟩⟩⟩⟩⟩⟩⟩⟩⟩⟩⟩⟩⟩⟩⟩⟩⟩⟩⟩⟩⟩⟩⟩⟩⟩⟩⟩⟩⟩⟩⟩⟩⟩⟩⟩⟩⟩⟩⟩⟩⟩⟩⟩⟩⟩⟩⟩⟩⟩⟩⟩⟩⟩⟩⟩⟩⟩⟩⟩⟩⟩⟩⟩⟩⟩⟩⟩⟩⟩⟩⟩⟩⟩⟩⟩⟩⟩⟩⟩⟩⟩⟩⟩⟩⟩⟩⟩⟩⟩⟩)
theorem ok1 : FormsOk Tryz.prog cx1 rows := ⟨by kernel_rfl, all_same, putP_ok tab74_ok (fun f p h => by cases h), putX_ok noEscape⟩
theorem tab33_ok : ∀ l s v s', memoK tab33 l s = .ok v s' → TgtOk Tryz.prog s v s' (.fn 33 l) :=
  memoK_ok tab33 (by kernel_rfl) (show ∀ p ∈ [p0, p1], _ from List.forall_mem_cons.2 ⟨ok1.memo mp0, List.forall_mem_cons.2 ⟨ok1.memo mp1, (fun _ h => nomatch h)⟩⟩)
theorem tab317_ok : ∀ l s v s', memoK tab317 l s = .ok v s' → TgtOk Tryz.prog s v s' (.fn 317 l) :=
  memoK_ok tab317 (by kernel_rfl) (show ∀ p ∈ [h0, h1, h2], _ from List.forall_mem_cons.2 ⟨ok0.memo mh0, List.forall_mem_cons.2 ⟨ok0.memo mh1, List.forall_mem_cons.2 ⟨ok0.memo mh2, (fun _ h => nomatch h)⟩⟩⟩)
theorem ok2 : FormsOk Tryz.prog cx2 rows := ⟨by kernel_rfl, all_same, putP_ok tab33_ok (putP_ok tab317_ok (fun f p h => by cases h)), putX_ok noEscape⟩
theorem tab11_ok : ∀ l s v s', memoK tab11 l s = .ok v s' → TgtOk Tryz.prog s v s' (.fn 11 l) :=
  memoK_ok tab11 (by kernel_rfl) (show ∀ p ∈ [a0], _ from List.forall_mem_cons.2 ⟨ok2.memo ma0, (fun _ h => nomatch h)⟩)
theorem place8 : ∀ l s v s', placeP l s = .ok v s' → TgtOk Tryz.prog s v s' (.fn 8 l) := place_ok (frz := true) (rows := false) (by kernel_rfl) Tryz.func8 (by decide) (by kernel_rfl)
theorem ok3 : FormsOk Tryz.prog cx3 rows := ⟨by kernel_rfl, all_same, putP_ok tab33_ok (putP_ok tab317_ok (putP_ok tab11_ok (putP_ok place8 (fun f p h => by cases h)))), putX_ok noEscape⟩
end Wn

/- The law WorldNone: it says true, whatever the numbers. -/
namespace Wn
set_option autoImplicit false
open Go Go.Proofs Go.Hx Go.Hx.Fx Go.RowKit
theorem allB_get {f : Nat → Bool} : ∀ (n : Nat), allB n f = true → ∀ k, k < n → f k = true := by
  intro n
  induction n with
  | zero => intro _ k hk; omega
  | succ n ih =>
    intro h k hk
    have h' : bif' false (allB n f) (f n) = true := h
    cases hf : f n with
    | false => rw [hf] at h'; cases h'
    | true =>
      rw [hf] at h'
      by_cases e : k = n
      · rw [e]; exact hf
      · exact ih h' k (by omega)
theorem runs (x y : AV) (h k : Nat) (hh : h < 7) (hk : k < 100) : run3 h k x y = true := by
  have : h = 0 ∨ h = 1 ∨ h = 2 ∨ h = 3 ∨ h = 4 ∨ h = 5 ∨ h = 6 := by omega
  rcases this with rfl | rfl | rfl | rfl | rfl | rfl | rfl
  · exact allB_get 100 (l0 x y) k hk
  · exact allB_get 100 (l1 x y) k hk
  · exact allB_get 100 (l2 x y) k hk
  · exact allB_get 100 (l3 x y) k hk
  · exact allB_get 100 (l4 x y) k hk
  · exact allB_get 100 (l5 x y) k hk
  · exact allB_get 100 (l6 x y) k hk
def R (h k : Nat) : RP := ⟨2, 7, 8, [(1, 100, k), (0, 7, h)]⟩
def val (a b : Int) (p : Nat) : AV := match p with | 0 => .int .i64 a | _ => .int .i64 b
theorem forms (h k : Nat) : ((fnOf Tryz.prog d3.o.frz (rows 3) Tryz.f3).map fun b => fastC (replC (R h k) b.body)) = some (r3 h k).body := by kernel_rfl
theorem keeps : ((fnOf Tryz.prog d3.o.frz (rows 3) Tryz.f3).map fun b => keepC 2 b.body) = some true := by kernel_rfl
theorem stays (h k : Nat) (a b : Int) : Stay (R h k) (val a b) (initEnv 0 [.int .i64 a, .int .i64 b] (Tr.full 7)) where
  deep := Tr.deep_set (Tr.deep_set (Tr.deep_full 7) _ _) _ _
  at_ := fun p hp => by
    have : p = 0 ∨ p = 1 := by have : p < 2 := hp; omega
    rcases this with rfl | rfl <;> rfl
theorem walk (a b : Int) (w : World) : Calls Tryz.prog 3 #[.int .i64 a, .int .i64 b] w fun e w' => e = .returned (.bool true) ∧ Below w.heap.size w w' := by
  have key : ∃ s', call (ctxOf Tryz.prog cx3 rows) 2001 (.fn 3 [.int .i64 a, .int .i64 b]) St.start = .ok (.bool true) s' := by
    have e100 : (b.emod (99 + 1 : Nat)).toNat < 100 := by
      have h1 := Int.emod_nonneg b (show ((100 : Nat) : Int) ≠ 0 by decide)
      have h2 := Int.emod_lt_of_pos b (show (0 : Int) < ((100 : Nat) : Int) by decide)
      show (b % ((100 : Nat) : Int)).toNat < 100
      omega
    have e7 : (a.emod (6 + 1 : Nat)).toNat < 7 := by
      have h1 := Int.emod_nonneg a (show ((7 : Nat) : Int) ≠ 0 by decide)
      have h2 := Int.emod_lt_of_pos a (show (0 : Int) < ((7 : Nat) : Int) by decide)
      show (a % ((7 : Nat) : Int)).toNat < 7
      omega
    refine ok3.law (k := 2000) (g := d3) (gr := r3 (a.emod (6 + 1 : Nat)).toNat (b.emod (99 + 1 : Nat)).toNat) (R := R (a.emod (6 + 1 : Nat)).toNat (b.emod (99 + 1 : Nat)).toNat) (val := val a b) (by kernel_rfl) (by kernel_rfl) Tryz.func3 keeps (forms _ _) (stays _ _ a b) ?_ rfl (runs _ _ _ _ e7 e100)
    intro q hq s
    simp only [R, List.mem_cons, List.not_mem_nil, or_false] at hq
    rcases hq with rfl | rfl <;> rfl
  exact law_ints ok3.ok [a, b] key w
end Wn

/- It is proved that the law WorldNone answers true, whatever the two numbers are; the given row, with no condition. -/
namespace Go.Proofs.YtinfjeaocpifeaaGreat.worldNone
open Go.ChangeShapes Go.WideShapes Go.ChangeAt Go.RowKit
open Go.ChangeMaps (open_string shut_string)
set_option linter.unusedVariables false
theorem own : ownKnob Tryz.prog.godebug = none := by kernel_rfl
set_option maxRecDepth 100000 in
theorem lifted (os : Os) (started : os.Started) (H : Type) (enc : TypeId × Value → H) :
    ReturnsInHanded {} Tryz.checked os 3 .any (Rows.worldNoneSpec.pre6 enc Tryz.prog Tryz.f3 Rows.worldNoneRow.domain false) (Rows.worldNoneSpec.post enc Tryz.prog Tryz.f3 false true false false) := by
  refine returnsInHanded_of_change_sized (C := Tryz.checked) own started (by kernel_rfl) Tryz.func3
    (ChangeSpec.witness6 (enc := enc) (C := Tryz.checked) false ⟨#[], #[.int .i64 0, .int .i64 0], []⟩ 8 (by kernel_rfl) (by kernel_rfl) (by kernel_rfl) (by kernel_rfl)) ?_
  intro W base args ds gs before hval0 hW hcnd hsz0 _
  have hval : ∀ (j : Nat) t v, Tryz.f3.params[j]? = some t → args[j]? = some v → Value.okWide Tryz.prog W .any base t v := hval0
  have hW' := hW
  obtain ⟨p, q, hA0, hV, rfl, hfz, hnd⟩ := hW
  have hA : DataW.TrodAll enc Tryz.prog W 0 (fun _ => true) true Tryz.f3.params.toList args.toList ds p := hA0
  rw [Tryz.params3] at hA hval
  obtain ⟨v0, vs0, d0, ds0, p0, q0, hargs, rfl, rfl, h0, r0⟩ := trodAll_cons hA
  obtain ⟨v1, vs1, d1, ds1, p1, q1, rfl, rfl, rfl, h1, r1⟩ := trodAll_cons r0
  obtain ⟨rfl, rfl, rfl⟩ := trodAll_nil r1
  obtain rfl : args = #[v0, v1] := by cases args; simp_all
  obtain ⟨rfl, rfl⟩ := trodVars_none hV
  obtain ⟨a0, rfl, rfl, rfl, w0⟩ := open_int Tryz.underlying3 (hval 0 3 v0 rfl rfl) h0
  obtain ⟨a1, rfl, rfl, rfl, w1⟩ := open_int Tryz.underlying3 (hval 1 3 v1 rfl rfl) h1
  clear hA0 hval0 hsz0
  refine (Wn.walk a0 a1 W).mono fun e W' ⟨he, bel⟩ => ?_
  subst he
  exact ⟨_, rfl, _, _, _, [], _, [], hW', trodAll_mk1 (shut_bool Tryz.underlying4 _), (trodAll_cons_mk (shut_int Tryz.underlying3 w0) (trodAll_cons_mk (shut_int Tryz.underlying3 w1) trodAll_mk0)), rfl, bel.frame _, fun h => by cases h⟩
theorem closed : joinedFacts Tryz.pinned.checked.prog 3 Tryz.f3 Rows.worldNoneSpec Rows.worldNoneRow = true := by
  unfold joinedFacts
  rw [k2, k3, k4, k10, k11, k12, k13]
  kernel_rfl
theorem over : Rows.worldNoneRow.holds Tryz.pinned (OpenSpec.ofChange Rows.worldNoneSpec) :=
  OpenClaim.holds_of_wide 3 Tryz.f3 rfl rfl rfl rfl rfl rfl rfl ⟨rfl, rfl, rfl, rfl, rfl⟩ rfl rfl rfl rfl rfl hfn Tryz.func3 closed
    (of_decide_eq_true (by kernel_rfl)) (by unfold Func.isWrapper; first | (rw [if_pos (by decide +kernel)]; kernel_rfl) | (rw [if_neg (by decide +kernel)]; exact ⟨rfl, rfl⟩))
    (fun os started H enc _ => lifted os started H enc)
theorem proved : Rows.WorldNoneSaid := over
#print axioms proved
end Go.Proofs.YtinfjeaocpifeaaGreat.worldNone
namespace Go.Proofs.YtinfjeaocpifeaaGreat
/-- The row, under a short name, for the claim. -/
theorem worldNone_holds : Rows.WorldNoneSaid := worldNone.proved
end Go.Proofs.YtinfjeaocpifeaaGreat
