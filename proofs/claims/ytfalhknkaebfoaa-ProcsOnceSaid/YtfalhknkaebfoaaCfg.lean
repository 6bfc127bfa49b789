/- The zero values of this seat's types, by their numbers, and that they are the program's. No condition. Written by a program of the claimant's own. -/
import Derived.Test.YtfalhknkaebfoaaRows
import Derived.Test.YtfalhknkaebfoaaSxE3
import Derived.KernelRfl
namespace Go.Proofs.Ytfalhknkaebfoaa
open Go.Sx
def zl : List (Nat × V) := [
  (1, .nl .nilFunc),
  (2, .ci .i64 0),
  (3, .ci .i64 0),
  (4, .cb false),
  (5, .ci .u8 0),
  (9, .st ByteArray.empty),
  (12, .ci .u64 0),
  (15, .nl (.pointer none)),
  (16, .nl (.pointer none)),
  (17, .nl (.pointer none)),
  (20, .nl .nilIface),
  (21, .ci .i32 0),
  (22, .nl (.slice none 0 0)),
  (23, .nl .nilFunc),
  (24, .ci .i64 0),
  (25, .ci .i64 0),
  (26, .ci .i64 0),
  (27, .key void),
  (28, .key void),
  (29, .sl noSlots),
  (30, .by noBytes),
  (31, .ob Sx.free),
  (32, .ob Sx.free),
  (33, .nl (.slice none 0 0)),
  (34, .nl (.pointer none)),
  (35, .nl .nilFunc),
  (36, .ci .i64 0),
  (38, .nl .nilFunc),
  (40, .nl .nilFunc),
  (41, .nl .nilFunc),
  (42, .nl .nilFunc),
  (43, .nl .nilFunc),
  (44, .nl .nilFunc),
  (45, .nl (.slice none 0 0)),
  (46, .ag [.ci .i64 0, .nl (.slice none 0 0)]),
  (47, .ag [.ci .i64 0, .nl (.slice none 0 0)]),
  (49, .nl .nilFunc),
  (50, .nl .nilFunc),
  (51, .nl .nilFunc),
  (52, .nl .nilFunc),
  (53, .ag [.key void, .key void, .key void]),
  (54, .ag [.ci .i64 0, .st ByteArray.empty, .ag [.key void, .key void, .key void]]),
  (55, .ag [.ci .i64 0, .st ByteArray.empty, .ag [.key void, .key void, .key void]]),
  (56, .ag [.ci .i64 0, .ci .i64 0]),
  (57, .ag [.ci .i64 0, .ci .i64 0]),
  (58, .nl .nilFunc),
  (59, .nl .nilFunc),
  (60, .ci .i64 0),
  (62, .nl .nilFunc),
  (64, .nl .nilFunc),
  (65, .ci .i64 0),
  (67, .nl .nilFunc),
  (68, .nl .nilFunc),
  (69, .nl .nilFunc),
  (70, .ag [.ci .i64 0, .ci .i64 0, .key void, .key void, .ci .i64 0]),
  (71, .ag [.ci .i64 0, .ci .i64 0, .key void, .key void, .ci .i64 0]),
  (72, .nl .nilFunc),
  (73, .nl (.slice none 0 0)),
  (74, .ag [.nl (.slice none 0 0)]),
  (75, .ag [.nl (.slice none 0 0)]),
  (77, .nl .nilFunc),
  (78, .nl .nilFunc),
  (79, .nl (.slice none 0 0)),
  (80, .nl (.slice none 0 0)),
  (81, .nl (.slice none 0 0)),
  (82, .nl .nilFunc),
  (84, .nl .nilFunc),
  (85, .nl .nilFunc),
  (87, .nl .nilFunc),
  (88, .nl .nilFunc),
  (89, .nl (.slice none 0 0)),
  (90, .nl .nilFunc),
  (91, .nl .nilFunc),
  (92, .ag [.ci .i64 0, .ci .i64 0, .key void, .ci .i64 0, .ci .i64 0, .ag [.ci .i64 0, .st ByteArray.empty, .ag [.key void, .key void, .key void]]]),
  (93, .ag [.ci .i64 0, .ci .i64 0, .key void, .ci .i64 0, .ci .i64 0, .ag [.ci .i64 0, .st ByteArray.empty, .ag [.key void, .key void, .key void]]]),
  (94, .nl .nilFunc),
  (95, .nl .nilFunc),
  (96, .nl .nilFunc),
  (97, .nl (.slice none 0 0)),
  (98, .nl .nilFunc),
  (99, .nl .nilFunc),
  (100, .nl .nilFunc),
  (101, .nl .nilFunc),
  (102, .nl .nilFunc),
  (104, .nl .nilFunc),
  (105, .nl .nilFunc),
  (106, .nl .nilFunc),
  (107, .nl (.pointer none)),
  (108, .ag [.ob Sx.free, .nl (.pointer none), .ci .i64 0, .ci .i64 0, .ci .i64 0]),
  (109, .ag [.ob Sx.free, .nl (.pointer none), .ci .i64 0, .ci .i64 0, .ci .i64 0]),
  (110, .nl .nilFunc),
  (111, .nl .nilFunc),
  (113, .nl .nilFunc),
  (114, .nl .nilFunc),
  (115, .nl .nilFunc),
  (116, .nl .nilFunc),
  (117, .nl .nilFunc),
  (118, .nl (.pointer none)),
  (119, .nl .nilFunc),
  (120, .nl .nilFunc),
  (121, .nl .nilFunc),
  (122, .nl .nilFunc),
  (123, .nl .nilFunc),
  (125, .nl .nilFunc),
  (126, .nl (.pointer none)),
  (127, .ag [.ag [.ci .i64 0, .st ByteArray.empty, .ag [.key void, .key void, .key void]], .nl (.pointer none), .ci .i64 0, .key void, .ci .i64 0]),
  (128, .ag [.ag [.ci .i64 0, .st ByteArray.empty, .ag [.key void, .key void, .key void]], .nl (.pointer none), .ci .i64 0, .key void, .ci .i64 0]),
  (129, .nl (.map none)),
  (130, .nl .nilFunc),
  (131, .nl .nilFunc),
  (132, .nl .nilFunc),
  (134, .nl (.map none)),
  (135, .nl .nilFunc),
  (136, .nl .nilFunc),
  (137, .nl .nilFunc),
  (138, .nl .nilFunc),
  (139, .nl (.slice none 0 0)),
  (140, .nl .nilFunc),
  (141, .nl .nilFunc),
  (142, .nl .nilFunc),
  (143, .nl .nilFunc),
  (144, .nl .nilFunc),
  (146, .nl .nilFunc),
  (147, .nl .nilFunc),
  (148, .nl .nilFunc),
  (150, .nl .nilFunc),
  (152, .nl .nilFunc),
  (154, .nl .nilFunc),
  (156, .nl .nilFunc),
  (158, .nl .nilFunc),
  (159, .nl .nilFunc),
  (160, .nl .nilFunc),
  (161, .nl .nilFunc),
  (162, .nl .nilFunc),
  (164, .nl .nilFunc),
  (165, .nl .nilFunc),
  (166, .nl .nilFunc),
  (167, .nl .nilFunc),
  (168, .ag [.ci .i64 0]),
  (169, .ag [.ci .i64 0]),
  (170, .nl .nilFunc),
  (171, .nl .nilFunc),
  (172, .nl .nilFunc),
  (173, .nl .nilFunc),
  (174, .nl .nilFunc),
  (175, .ag [.ci .i64 0]),
  (176, .ag [.ci .i64 0]),
  (177, .nl .nilFunc),
  (178, .ag [.st ByteArray.empty, .cb false, .cb false, .cb false, .cb false, .ci .i64 0, .ci .i64 0]),
  (179, .ag [.st ByteArray.empty, .cb false, .cb false, .cb false, .cb false, .ci .i64 0, .ci .i64 0]),
  (181, .nl .nilFunc),
  (182, .nl .nilFunc),
  (183, .nl .nilFunc),
  (184, .nl .nilFunc),
  (185, .nl .nilFunc),
  (186, .nl .nilFunc),
  (187, .nl .nilFunc),
  (188, .nl .nilFunc),
  (189, .nl .nilFunc),
  (190, .ag [.ag [.st ByteArray.empty, .cb false, .cb false, .cb false, .cb false, .ci .i64 0, .ci .i64 0], .ag [.st ByteArray.empty, .cb false, .cb false, .cb false, .cb false, .ci .i64 0, .ci .i64 0], .ag [.st ByteArray.empty, .cb false, .cb false, .cb false, .cb false, .ci .i64 0, .ci .i64 0], .ag [.st ByteArray.empty, .cb false, .cb false, .cb false, .cb false, .ci .i64 0, .ci .i64 0], .ag [.st ByteArray.empty, .cb false, .cb false, .cb false, .cb false, .ci .i64 0, .ci .i64 0], .ag [.st ByteArray.empty, .cb false, .cb false, .cb false, .cb false, .ci .i64 0, .ci .i64 0], .ag [.st ByteArray.empty, .cb false, .cb false, .cb false, .cb false, .ci .i64 0, .ci .i64 0], .ag [.st ByteArray.empty, .cb false, .cb false, .cb false, .cb false, .ci .i64 0, .ci .i64 0], .ag [.st ByteArray.empty, .cb false, .cb false, .cb false, .cb false, .ci .i64 0, .ci .i64 0], .ag [.st ByteArray.empty, .cb false, .cb false, .cb false, .cb false, .ci .i64 0, .ci .i64 0], .ag [.st ByteArray.empty, .cb false, .cb false, .cb false, .cb false, .ci .i64 0, .ci .i64 0]]),
  (191, .nl .nilFunc),
  (192, .nl .nilFunc),
  (193, .nl .nilFunc),
  (194, .nl .nilFunc),
  (197, .ag []),
  (198, .ag [.ag []]),
  (200, .ci .u32 0),
  (203, .nl .nilFunc),
  (204, .nl (.pointer none))]
theorem zp1 : ZP Try.prog 1 (.nl .nilFunc) :=
  ⟨(Try.prog.info? 1).getD default, by kernel_rfl, fun ρ => by kernel_rfl, by kernel_rfl, by kernel_rfl⟩
theorem zp2 : ZP Try.prog 2 (.ci .i64 0) :=
  ⟨(Try.prog.info? 2).getD default, by kernel_rfl, fun ρ => by kernel_rfl, by kernel_rfl, by kernel_rfl⟩
theorem zp3 : ZP Try.prog 3 (.ci .i64 0) :=
  ⟨(Try.prog.info? 3).getD default, by kernel_rfl, fun ρ => by kernel_rfl, by kernel_rfl, by kernel_rfl⟩
theorem zp4 : ZP Try.prog 4 (.cb false) :=
  ⟨(Try.prog.info? 4).getD default, by kernel_rfl, fun ρ => by kernel_rfl, by kernel_rfl, by kernel_rfl⟩
theorem zp5 : ZP Try.prog 5 (.ci .u8 0) :=
  ⟨(Try.prog.info? 5).getD default, by kernel_rfl, fun ρ => by kernel_rfl, by kernel_rfl, by kernel_rfl⟩
theorem zp9 : ZP Try.prog 9 (.st ByteArray.empty) :=
  ⟨(Try.prog.info? 9).getD default, by kernel_rfl, fun ρ => by kernel_rfl, by kernel_rfl, by kernel_rfl⟩
theorem zp12 : ZP Try.prog 12 (.ci .u64 0) :=
  ⟨(Try.prog.info? 12).getD default, by kernel_rfl, fun ρ => by kernel_rfl, by kernel_rfl, by kernel_rfl⟩
theorem zp15 : ZP Try.prog 15 (.nl (.pointer none)) :=
  ⟨(Try.prog.info? 15).getD default, by kernel_rfl, fun ρ => by kernel_rfl, by kernel_rfl, by kernel_rfl⟩
theorem zp16 : ZP Try.prog 16 (.nl (.pointer none)) :=
  ⟨(Try.prog.info? 16).getD default, by kernel_rfl, fun ρ => by kernel_rfl, by kernel_rfl, by kernel_rfl⟩
theorem zp17 : ZP Try.prog 17 (.nl (.pointer none)) :=
  ⟨(Try.prog.info? 17).getD default, by kernel_rfl, fun ρ => by kernel_rfl, by kernel_rfl, by kernel_rfl⟩
theorem zp20 : ZP Try.prog 20 (.nl .nilIface) :=
  ⟨(Try.prog.info? 20).getD default, by kernel_rfl, fun ρ => by kernel_rfl, by kernel_rfl, by kernel_rfl⟩
theorem zp21 : ZP Try.prog 21 (.ci .i32 0) :=
  ⟨(Try.prog.info? 21).getD default, by kernel_rfl, fun ρ => by kernel_rfl, by kernel_rfl, by kernel_rfl⟩
theorem zp22 : ZP Try.prog 22 (.nl (.slice none 0 0)) :=
  ⟨(Try.prog.info? 22).getD default, by kernel_rfl, fun ρ => by kernel_rfl, by kernel_rfl, by kernel_rfl⟩
theorem zp23 : ZP Try.prog 23 (.nl .nilFunc) :=
  ⟨(Try.prog.info? 23).getD default, by kernel_rfl, fun ρ => by kernel_rfl, by kernel_rfl, by kernel_rfl⟩
theorem zp24 : ZP Try.prog 24 (.ci .i64 0) :=
  ⟨(Try.prog.info? 24).getD default, by kernel_rfl, fun ρ => by kernel_rfl, by kernel_rfl, by kernel_rfl⟩
theorem zp25 : ZP Try.prog 25 (.ci .i64 0) :=
  ⟨(Try.prog.info? 25).getD default, by kernel_rfl, fun ρ => by kernel_rfl, by kernel_rfl, by kernel_rfl⟩
theorem zp26 : ZP Try.prog 26 (.ci .i64 0) :=
  ⟨(Try.prog.info? 26).getD default, by kernel_rfl, fun ρ => by kernel_rfl, by kernel_rfl, by kernel_rfl⟩
theorem zp27 : ZP Try.prog 27 (.key void) :=
  ⟨(Try.prog.info? 27).getD default, by kernel_rfl, fun ρ => by kernel_rfl, by kernel_rfl, by kernel_rfl⟩
theorem zp28 : ZP Try.prog 28 (.key void) :=
  ⟨(Try.prog.info? 28).getD default, by kernel_rfl, fun ρ => by kernel_rfl, by kernel_rfl, by kernel_rfl⟩
theorem zp29 : ZP Try.prog 29 (.sl noSlots) :=
  ⟨(Try.prog.info? 29).getD default, by kernel_rfl, fun ρ => by kernel_rfl, by kernel_rfl, by kernel_rfl⟩
theorem zp30 : ZP Try.prog 30 (.by noBytes) :=
  ⟨(Try.prog.info? 30).getD default, by kernel_rfl, fun ρ => by kernel_rfl, by kernel_rfl, by kernel_rfl⟩
theorem zp31 : ZP Try.prog 31 (.ob Sx.free) :=
  ⟨(Try.prog.info? 31).getD default, by kernel_rfl, fun ρ => by kernel_rfl, by kernel_rfl, by kernel_rfl⟩
theorem zp32 : ZP Try.prog 32 (.ob Sx.free) :=
  ⟨(Try.prog.info? 32).getD default, by kernel_rfl, fun ρ => by kernel_rfl, by kernel_rfl, by kernel_rfl⟩
theorem zp33 : ZP Try.prog 33 (.nl (.slice none 0 0)) :=
  ⟨(Try.prog.info? 33).getD default, by kernel_rfl, fun ρ => by kernel_rfl, by kernel_rfl, by kernel_rfl⟩
theorem zp34 : ZP Try.prog 34 (.nl (.pointer none)) :=
  ⟨(Try.prog.info? 34).getD default, by kernel_rfl, fun ρ => by kernel_rfl, by kernel_rfl, by kernel_rfl⟩
theorem zp35 : ZP Try.prog 35 (.nl .nilFunc) :=
  ⟨(Try.prog.info? 35).getD default, by kernel_rfl, fun ρ => by kernel_rfl, by kernel_rfl, by kernel_rfl⟩
theorem zp36 : ZP Try.prog 36 (.ci .i64 0) :=
  ⟨(Try.prog.info? 36).getD default, by kernel_rfl, fun ρ => by kernel_rfl, by kernel_rfl, by kernel_rfl⟩
theorem zp38 : ZP Try.prog 38 (.nl .nilFunc) :=
  ⟨(Try.prog.info? 38).getD default, by kernel_rfl, fun ρ => by kernel_rfl, by kernel_rfl, by kernel_rfl⟩
theorem zp40 : ZP Try.prog 40 (.nl .nilFunc) :=
  ⟨(Try.prog.info? 40).getD default, by kernel_rfl, fun ρ => by kernel_rfl, by kernel_rfl, by kernel_rfl⟩
theorem zp41 : ZP Try.prog 41 (.nl .nilFunc) :=
  ⟨(Try.prog.info? 41).getD default, by kernel_rfl, fun ρ => by kernel_rfl, by kernel_rfl, by kernel_rfl⟩
theorem zp42 : ZP Try.prog 42 (.nl .nilFunc) :=
  ⟨(Try.prog.info? 42).getD default, by kernel_rfl, fun ρ => by kernel_rfl, by kernel_rfl, by kernel_rfl⟩
theorem zp43 : ZP Try.prog 43 (.nl .nilFunc) :=
  ⟨(Try.prog.info? 43).getD default, by kernel_rfl, fun ρ => by kernel_rfl, by kernel_rfl, by kernel_rfl⟩
theorem zp44 : ZP Try.prog 44 (.nl .nilFunc) :=
  ⟨(Try.prog.info? 44).getD default, by kernel_rfl, fun ρ => by kernel_rfl, by kernel_rfl, by kernel_rfl⟩
theorem zp45 : ZP Try.prog 45 (.nl (.slice none 0 0)) :=
  ⟨(Try.prog.info? 45).getD default, by kernel_rfl, fun ρ => by kernel_rfl, by kernel_rfl, by kernel_rfl⟩
theorem zp46 : ZP Try.prog 46 (.ag [.ci .i64 0, .nl (.slice none 0 0)]) :=
  ⟨(Try.prog.info? 46).getD default, by kernel_rfl, fun ρ => by kernel_rfl, by kernel_rfl, by kernel_rfl⟩
theorem zp47 : ZP Try.prog 47 (.ag [.ci .i64 0, .nl (.slice none 0 0)]) :=
  ⟨(Try.prog.info? 47).getD default, by kernel_rfl, fun ρ => by kernel_rfl, by kernel_rfl, by kernel_rfl⟩
theorem zp49 : ZP Try.prog 49 (.nl .nilFunc) :=
  ⟨(Try.prog.info? 49).getD default, by kernel_rfl, fun ρ => by kernel_rfl, by kernel_rfl, by kernel_rfl⟩
theorem zp50 : ZP Try.prog 50 (.nl .nilFunc) :=
  ⟨(Try.prog.info? 50).getD default, by kernel_rfl, fun ρ => by kernel_rfl, by kernel_rfl, by kernel_rfl⟩
theorem zp51 : ZP Try.prog 51 (.nl .nilFunc) :=
  ⟨(Try.prog.info? 51).getD default, by kernel_rfl, fun ρ => by kernel_rfl, by kernel_rfl, by kernel_rfl⟩
theorem zp52 : ZP Try.prog 52 (.nl .nilFunc) :=
  ⟨(Try.prog.info? 52).getD default, by kernel_rfl, fun ρ => by kernel_rfl, by kernel_rfl, by kernel_rfl⟩
theorem zp53 : ZP Try.prog 53 (.ag [.key void, .key void, .key void]) :=
  ⟨(Try.prog.info? 53).getD default, by kernel_rfl, fun ρ => by kernel_rfl, by kernel_rfl, by kernel_rfl⟩
theorem zp54 : ZP Try.prog 54 (.ag [.ci .i64 0, .st ByteArray.empty, .ag [.key void, .key void, .key void]]) :=
  ⟨(Try.prog.info? 54).getD default, by kernel_rfl, fun ρ => by kernel_rfl, by kernel_rfl, by kernel_rfl⟩
theorem zp55 : ZP Try.prog 55 (.ag [.ci .i64 0, .st ByteArray.empty, .ag [.key void, .key void, .key void]]) :=
  ⟨(Try.prog.info? 55).getD default, by kernel_rfl, fun ρ => by kernel_rfl, by kernel_rfl, by kernel_rfl⟩
theorem zp56 : ZP Try.prog 56 (.ag [.ci .i64 0, .ci .i64 0]) :=
  ⟨(Try.prog.info? 56).getD default, by kernel_rfl, fun ρ => by kernel_rfl, by kernel_rfl, by kernel_rfl⟩
theorem zp57 : ZP Try.prog 57 (.ag [.ci .i64 0, .ci .i64 0]) :=
  ⟨(Try.prog.info? 57).getD default, by kernel_rfl, fun ρ => by kernel_rfl, by kernel_rfl, by kernel_rfl⟩
theorem zp58 : ZP Try.prog 58 (.nl .nilFunc) :=
  ⟨(Try.prog.info? 58).getD default, by kernel_rfl, fun ρ => by kernel_rfl, by kernel_rfl, by kernel_rfl⟩
theorem zp59 : ZP Try.prog 59 (.nl .nilFunc) :=
  ⟨(Try.prog.info? 59).getD default, by kernel_rfl, fun ρ => by kernel_rfl, by kernel_rfl, by kernel_rfl⟩
theorem zp60 : ZP Try.prog 60 (.ci .i64 0) :=
  ⟨(Try.prog.info? 60).getD default, by kernel_rfl, fun ρ => by kernel_rfl, by kernel_rfl, by kernel_rfl⟩
theorem zp62 : ZP Try.prog 62 (.nl .nilFunc) :=
  ⟨(Try.prog.info? 62).getD default, by kernel_rfl, fun ρ => by kernel_rfl, by kernel_rfl, by kernel_rfl⟩
theorem zp64 : ZP Try.prog 64 (.nl .nilFunc) :=
  ⟨(Try.prog.info? 64).getD default, by kernel_rfl, fun ρ => by kernel_rfl, by kernel_rfl, by kernel_rfl⟩
theorem zp65 : ZP Try.prog 65 (.ci .i64 0) :=
  ⟨(Try.prog.info? 65).getD default, by kernel_rfl, fun ρ => by kernel_rfl, by kernel_rfl, by kernel_rfl⟩
theorem zp67 : ZP Try.prog 67 (.nl .nilFunc) :=
  ⟨(Try.prog.info? 67).getD default, by kernel_rfl, fun ρ => by kernel_rfl, by kernel_rfl, by kernel_rfl⟩
theorem zp68 : ZP Try.prog 68 (.nl .nilFunc) :=
  ⟨(Try.prog.info? 68).getD default, by kernel_rfl, fun ρ => by kernel_rfl, by kernel_rfl, by kernel_rfl⟩
theorem zp69 : ZP Try.prog 69 (.nl .nilFunc) :=
  ⟨(Try.prog.info? 69).getD default, by kernel_rfl, fun ρ => by kernel_rfl, by kernel_rfl, by kernel_rfl⟩
theorem zp70 : ZP Try.prog 70 (.ag [.ci .i64 0, .ci .i64 0, .key void, .key void, .ci .i64 0]) :=
  ⟨(Try.prog.info? 70).getD default, by kernel_rfl, fun ρ => by kernel_rfl, by kernel_rfl, by kernel_rfl⟩
theorem zp71 : ZP Try.prog 71 (.ag [.ci .i64 0, .ci .i64 0, .key void, .key void, .ci .i64 0]) :=
  ⟨(Try.prog.info? 71).getD default, by kernel_rfl, fun ρ => by kernel_rfl, by kernel_rfl, by kernel_rfl⟩
theorem zp72 : ZP Try.prog 72 (.nl .nilFunc) :=
  ⟨(Try.prog.info? 72).getD default, by kernel_rfl, fun ρ => by kernel_rfl, by kernel_rfl, by kernel_rfl⟩
theorem zp73 : ZP Try.prog 73 (.nl (.slice none 0 0)) :=
  ⟨(Try.prog.info? 73).getD default, by kernel_rfl, fun ρ => by kernel_rfl, by kernel_rfl, by kernel_rfl⟩
theorem zp74 : ZP Try.prog 74 (.ag [.nl (.slice none 0 0)]) :=
  ⟨(Try.prog.info? 74).getD default, by kernel_rfl, fun ρ => by kernel_rfl, by kernel_rfl, by kernel_rfl⟩
theorem zp75 : ZP Try.prog 75 (.ag [.nl (.slice none 0 0)]) :=
  ⟨(Try.prog.info? 75).getD default, by kernel_rfl, fun ρ => by kernel_rfl, by kernel_rfl, by kernel_rfl⟩
theorem zp77 : ZP Try.prog 77 (.nl .nilFunc) :=
  ⟨(Try.prog.info? 77).getD default, by kernel_rfl, fun ρ => by kernel_rfl, by kernel_rfl, by kernel_rfl⟩
theorem zp78 : ZP Try.prog 78 (.nl .nilFunc) :=
  ⟨(Try.prog.info? 78).getD default, by kernel_rfl, fun ρ => by kernel_rfl, by kernel_rfl, by kernel_rfl⟩
theorem zp79 : ZP Try.prog 79 (.nl (.slice none 0 0)) :=
  ⟨(Try.prog.info? 79).getD default, by kernel_rfl, fun ρ => by kernel_rfl, by kernel_rfl, by kernel_rfl⟩
theorem zp80 : ZP Try.prog 80 (.nl (.slice none 0 0)) :=
  ⟨(Try.prog.info? 80).getD default, by kernel_rfl, fun ρ => by kernel_rfl, by kernel_rfl, by kernel_rfl⟩
theorem zp81 : ZP Try.prog 81 (.nl (.slice none 0 0)) :=
  ⟨(Try.prog.info? 81).getD default, by kernel_rfl, fun ρ => by kernel_rfl, by kernel_rfl, by kernel_rfl⟩
theorem zp82 : ZP Try.prog 82 (.nl .nilFunc) :=
  ⟨(Try.prog.info? 82).getD default, by kernel_rfl, fun ρ => by kernel_rfl, by kernel_rfl, by kernel_rfl⟩
theorem zp84 : ZP Try.prog 84 (.nl .nilFunc) :=
  ⟨(Try.prog.info? 84).getD default, by kernel_rfl, fun ρ => by kernel_rfl, by kernel_rfl, by kernel_rfl⟩
theorem zp85 : ZP Try.prog 85 (.nl .nilFunc) :=
  ⟨(Try.prog.info? 85).getD default, by kernel_rfl, fun ρ => by kernel_rfl, by kernel_rfl, by kernel_rfl⟩
theorem zp87 : ZP Try.prog 87 (.nl .nilFunc) :=
  ⟨(Try.prog.info? 87).getD default, by kernel_rfl, fun ρ => by kernel_rfl, by kernel_rfl, by kernel_rfl⟩
theorem zp88 : ZP Try.prog 88 (.nl .nilFunc) :=
  ⟨(Try.prog.info? 88).getD default, by kernel_rfl, fun ρ => by kernel_rfl, by kernel_rfl, by kernel_rfl⟩
theorem zp89 : ZP Try.prog 89 (.nl (.slice none 0 0)) :=
  ⟨(Try.prog.info? 89).getD default, by kernel_rfl, fun ρ => by kernel_rfl, by kernel_rfl, by kernel_rfl⟩
theorem zp90 : ZP Try.prog 90 (.nl .nilFunc) :=
  ⟨(Try.prog.info? 90).getD default, by kernel_rfl, fun ρ => by kernel_rfl, by kernel_rfl, by kernel_rfl⟩
theorem zp91 : ZP Try.prog 91 (.nl .nilFunc) :=
  ⟨(Try.prog.info? 91).getD default, by kernel_rfl, fun ρ => by kernel_rfl, by kernel_rfl, by kernel_rfl⟩
theorem zp92 : ZP Try.prog 92 (.ag [.ci .i64 0, .ci .i64 0, .key void, .ci .i64 0, .ci .i64 0, .ag [.ci .i64 0, .st ByteArray.empty, .ag [.key void, .key void, .key void]]]) :=
  ⟨(Try.prog.info? 92).getD default, by kernel_rfl, fun ρ => by kernel_rfl, by kernel_rfl, by kernel_rfl⟩
theorem zp93 : ZP Try.prog 93 (.ag [.ci .i64 0, .ci .i64 0, .key void, .ci .i64 0, .ci .i64 0, .ag [.ci .i64 0, .st ByteArray.empty, .ag [.key void, .key void, .key void]]]) :=
  ⟨(Try.prog.info? 93).getD default, by kernel_rfl, fun ρ => by kernel_rfl, by kernel_rfl, by kernel_rfl⟩
theorem zp94 : ZP Try.prog 94 (.nl .nilFunc) :=
  ⟨(Try.prog.info? 94).getD default, by kernel_rfl, fun ρ => by kernel_rfl, by kernel_rfl, by kernel_rfl⟩
theorem zp95 : ZP Try.prog 95 (.nl .nilFunc) :=
  ⟨(Try.prog.info? 95).getD default, by kernel_rfl, fun ρ => by kernel_rfl, by kernel_rfl, by kernel_rfl⟩
theorem zp96 : ZP Try.prog 96 (.nl .nilFunc) :=
  ⟨(Try.prog.info? 96).getD default, by kernel_rfl, fun ρ => by kernel_rfl, by kernel_rfl, by kernel_rfl⟩
theorem zp97 : ZP Try.prog 97 (.nl (.slice none 0 0)) :=
  ⟨(Try.prog.info? 97).getD default, by kernel_rfl, fun ρ => by kernel_rfl, by kernel_rfl, by kernel_rfl⟩
theorem zp98 : ZP Try.prog 98 (.nl .nilFunc) :=
  ⟨(Try.prog.info? 98).getD default, by kernel_rfl, fun ρ => by kernel_rfl, by kernel_rfl, by kernel_rfl⟩
theorem zp99 : ZP Try.prog 99 (.nl .nilFunc) :=
  ⟨(Try.prog.info? 99).getD default, by kernel_rfl, fun ρ => by kernel_rfl, by kernel_rfl, by kernel_rfl⟩
theorem zp100 : ZP Try.prog 100 (.nl .nilFunc) :=
  ⟨(Try.prog.info? 100).getD default, by kernel_rfl, fun ρ => by kernel_rfl, by kernel_rfl, by kernel_rfl⟩
theorem zp101 : ZP Try.prog 101 (.nl .nilFunc) :=
  ⟨(Try.prog.info? 101).getD default, by kernel_rfl, fun ρ => by kernel_rfl, by kernel_rfl, by kernel_rfl⟩
theorem zp102 : ZP Try.prog 102 (.nl .nilFunc) :=
  ⟨(Try.prog.info? 102).getD default, by kernel_rfl, fun ρ => by kernel_rfl, by kernel_rfl, by kernel_rfl⟩
theorem zp104 : ZP Try.prog 104 (.nl .nilFunc) :=
  ⟨(Try.prog.info? 104).getD default, by kernel_rfl, fun ρ => by kernel_rfl, by kernel_rfl, by kernel_rfl⟩
theorem zp105 : ZP Try.prog 105 (.nl .nilFunc) :=
  ⟨(Try.prog.info? 105).getD default, by kernel_rfl, fun ρ => by kernel_rfl, by kernel_rfl, by kernel_rfl⟩
theorem zp106 : ZP Try.prog 106 (.nl .nilFunc) :=
  ⟨(Try.prog.info? 106).getD default, by kernel_rfl, fun ρ => by kernel_rfl, by kernel_rfl, by kernel_rfl⟩
theorem zp107 : ZP Try.prog 107 (.nl (.pointer none)) :=
  ⟨(Try.prog.info? 107).getD default, by kernel_rfl, fun ρ => by kernel_rfl, by kernel_rfl, by kernel_rfl⟩
theorem zp108 : ZP Try.prog 108 (.ag [.ob Sx.free, .nl (.pointer none), .ci .i64 0, .ci .i64 0, .ci .i64 0]) :=
  ⟨(Try.prog.info? 108).getD default, by kernel_rfl, fun ρ => by kernel_rfl, by kernel_rfl, by kernel_rfl⟩
theorem zp109 : ZP Try.prog 109 (.ag [.ob Sx.free, .nl (.pointer none), .ci .i64 0, .ci .i64 0, .ci .i64 0]) :=
  ⟨(Try.prog.info? 109).getD default, by kernel_rfl, fun ρ => by kernel_rfl, by kernel_rfl, by kernel_rfl⟩
theorem zp110 : ZP Try.prog 110 (.nl .nilFunc) :=
  ⟨(Try.prog.info? 110).getD default, by kernel_rfl, fun ρ => by kernel_rfl, by kernel_rfl, by kernel_rfl⟩
theorem zp111 : ZP Try.prog 111 (.nl .nilFunc) :=
  ⟨(Try.prog.info? 111).getD default, by kernel_rfl, fun ρ => by kernel_rfl, by kernel_rfl, by kernel_rfl⟩
theorem zp113 : ZP Try.prog 113 (.nl .nilFunc) :=
  ⟨(Try.prog.info? 113).getD default, by kernel_rfl, fun ρ => by kernel_rfl, by kernel_rfl, by kernel_rfl⟩
theorem zp114 : ZP Try.prog 114 (.nl .nilFunc) :=
  ⟨(Try.prog.info? 114).getD default, by kernel_rfl, fun ρ => by kernel_rfl, by kernel_rfl, by kernel_rfl⟩
theorem zp115 : ZP Try.prog 115 (.nl .nilFunc) :=
  ⟨(Try.prog.info? 115).getD default, by kernel_rfl, fun ρ => by kernel_rfl, by kernel_rfl, by kernel_rfl⟩
theorem zp116 : ZP Try.prog 116 (.nl .nilFunc) :=
  ⟨(Try.prog.info? 116).getD default, by kernel_rfl, fun ρ => by kernel_rfl, by kernel_rfl, by kernel_rfl⟩
theorem zp117 : ZP Try.prog 117 (.nl .nilFunc) :=
  ⟨(Try.prog.info? 117).getD default, by kernel_rfl, fun ρ => by kernel_rfl, by kernel_rfl, by kernel_rfl⟩
theorem zp118 : ZP Try.prog 118 (.nl (.pointer none)) :=
  ⟨(Try.prog.info? 118).getD default, by kernel_rfl, fun ρ => by kernel_rfl, by kernel_rfl, by kernel_rfl⟩
theorem zp119 : ZP Try.prog 119 (.nl .nilFunc) :=
  ⟨(Try.prog.info? 119).getD default, by kernel_rfl, fun ρ => by kernel_rfl, by kernel_rfl, by kernel_rfl⟩
theorem zp120 : ZP Try.prog 120 (.nl .nilFunc) :=
  ⟨(Try.prog.info? 120).getD default, by kernel_rfl, fun ρ => by kernel_rfl, by kernel_rfl, by kernel_rfl⟩
theorem zp121 : ZP Try.prog 121 (.nl .nilFunc) :=
  ⟨(Try.prog.info? 121).getD default, by kernel_rfl, fun ρ => by kernel_rfl, by kernel_rfl, by kernel_rfl⟩
theorem zp122 : ZP Try.prog 122 (.nl .nilFunc) :=
  ⟨(Try.prog.info? 122).getD default, by kernel_rfl, fun ρ => by kernel_rfl, by kernel_rfl, by kernel_rfl⟩
theorem zp123 : ZP Try.prog 123 (.nl .nilFunc) :=
  ⟨(Try.prog.info? 123).getD default, by kernel_rfl, fun ρ => by kernel_rfl, by kernel_rfl, by kernel_rfl⟩
theorem zp125 : ZP Try.prog 125 (.nl .nilFunc) :=
  ⟨(Try.prog.info? 125).getD default, by kernel_rfl, fun ρ => by kernel_rfl, by kernel_rfl, by kernel_rfl⟩
theorem zp126 : ZP Try.prog 126 (.nl (.pointer none)) :=
  ⟨(Try.prog.info? 126).getD default, by kernel_rfl, fun ρ => by kernel_rfl, by kernel_rfl, by kernel_rfl⟩
theorem zp127 : ZP Try.prog 127 (.ag [.ag [.ci .i64 0, .st ByteArray.empty, .ag [.key void, .key void, .key void]], .nl (.pointer none), .ci .i64 0, .key void, .ci .i64 0]) :=
  ⟨(Try.prog.info? 127).getD default, by kernel_rfl, fun ρ => by kernel_rfl, by kernel_rfl, by kernel_rfl⟩
theorem zp128 : ZP Try.prog 128 (.ag [.ag [.ci .i64 0, .st ByteArray.empty, .ag [.key void, .key void, .key void]], .nl (.pointer none), .ci .i64 0, .key void, .ci .i64 0]) :=
  ⟨(Try.prog.info? 128).getD default, by kernel_rfl, fun ρ => by kernel_rfl, by kernel_rfl, by kernel_rfl⟩
theorem zp129 : ZP Try.prog 129 (.nl (.map none)) :=
  ⟨(Try.prog.info? 129).getD default, by kernel_rfl, fun ρ => by kernel_rfl, by kernel_rfl, by kernel_rfl⟩
theorem zp130 : ZP Try.prog 130 (.nl .nilFunc) :=
  ⟨(Try.prog.info? 130).getD default, by kernel_rfl, fun ρ => by kernel_rfl, by kernel_rfl, by kernel_rfl⟩
theorem zp131 : ZP Try.prog 131 (.nl .nilFunc) :=
  ⟨(Try.prog.info? 131).getD default, by kernel_rfl, fun ρ => by kernel_rfl, by kernel_rfl, by kernel_rfl⟩
theorem zp132 : ZP Try.prog 132 (.nl .nilFunc) :=
  ⟨(Try.prog.info? 132).getD default, by kernel_rfl, fun ρ => by kernel_rfl, by kernel_rfl, by kernel_rfl⟩
theorem zp134 : ZP Try.prog 134 (.nl (.map none)) :=
  ⟨(Try.prog.info? 134).getD default, by kernel_rfl, fun ρ => by kernel_rfl, by kernel_rfl, by kernel_rfl⟩
theorem zp135 : ZP Try.prog 135 (.nl .nilFunc) :=
  ⟨(Try.prog.info? 135).getD default, by kernel_rfl, fun ρ => by kernel_rfl, by kernel_rfl, by kernel_rfl⟩
theorem zp136 : ZP Try.prog 136 (.nl .nilFunc) :=
  ⟨(Try.prog.info? 136).getD default, by kernel_rfl, fun ρ => by kernel_rfl, by kernel_rfl, by kernel_rfl⟩
theorem zp137 : ZP Try.prog 137 (.nl .nilFunc) :=
  ⟨(Try.prog.info? 137).getD default, by kernel_rfl, fun ρ => by kernel_rfl, by kernel_rfl, by kernel_rfl⟩
theorem zp138 : ZP Try.prog 138 (.nl .nilFunc) :=
  ⟨(Try.prog.info? 138).getD default, by kernel_rfl, fun ρ => by kernel_rfl, by kernel_rfl, by kernel_rfl⟩
theorem zp139 : ZP Try.prog 139 (.nl (.slice none 0 0)) :=
  ⟨(Try.prog.info? 139).getD default, by kernel_rfl, fun ρ => by kernel_rfl, by kernel_rfl, by kernel_rfl⟩
theorem zp140 : ZP Try.prog 140 (.nl .nilFunc) :=
  ⟨(Try.prog.info? 140).getD default, by kernel_rfl, fun ρ => by kernel_rfl, by kernel_rfl, by kernel_rfl⟩
theorem zp141 : ZP Try.prog 141 (.nl .nilFunc) :=
  ⟨(Try.prog.info? 141).getD default, by kernel_rfl, fun ρ => by kernel_rfl, by kernel_rfl, by kernel_rfl⟩
theorem zp142 : ZP Try.prog 142 (.nl .nilFunc) :=
  ⟨(Try.prog.info? 142).getD default, by kernel_rfl, fun ρ => by kernel_rfl, by kernel_rfl, by kernel_rfl⟩
theorem zp143 : ZP Try.prog 143 (.nl .nilFunc) :=
  ⟨(Try.prog.info? 143).getD default, by kernel_rfl, fun ρ => by kernel_rfl, by kernel_rfl, by kernel_rfl⟩
theorem zp144 : ZP Try.prog 144 (.nl .nilFunc) :=
  ⟨(Try.prog.info? 144).getD default, by kernel_rfl, fun ρ => by kernel_rfl, by kernel_rfl, by kernel_rfl⟩
theorem zp146 : ZP Try.prog 146 (.nl .nilFunc) :=
  ⟨(Try.prog.info? 146).getD default, by kernel_rfl, fun ρ => by kernel_rfl, by kernel_rfl, by kernel_rfl⟩
theorem zp147 : ZP Try.prog 147 (.nl .nilFunc) :=
  ⟨(Try.prog.info? 147).getD default, by kernel_rfl, fun ρ => by kernel_rfl, by kernel_rfl, by kernel_rfl⟩
theorem zp148 : ZP Try.prog 148 (.nl .nilFunc) :=
  ⟨(Try.prog.info? 148).getD default, by kernel_rfl, fun ρ => by kernel_rfl, by kernel_rfl, by kernel_rfl⟩
theorem zp150 : ZP Try.prog 150 (.nl .nilFunc) :=
  ⟨(Try.prog.info? 150).getD default, by kernel_rfl, fun ρ => by kernel_rfl, by kernel_rfl, by kernel_rfl⟩
theorem zp152 : ZP Try.prog 152 (.nl .nilFunc) :=
  ⟨(Try.prog.info? 152).getD default, by kernel_rfl, fun ρ => by kernel_rfl, by kernel_rfl, by kernel_rfl⟩
theorem zp154 : ZP Try.prog 154 (.nl .nilFunc) :=
  ⟨(Try.prog.info? 154).getD default, by kernel_rfl, fun ρ => by kernel_rfl, by kernel_rfl, by kernel_rfl⟩
theorem zp156 : ZP Try.prog 156 (.nl .nilFunc) :=
  ⟨(Try.prog.info? 156).getD default, by kernel_rfl, fun ρ => by kernel_rfl, by kernel_rfl, by kernel_rfl⟩
theorem zp158 : ZP Try.prog 158 (.nl .nilFunc) :=
  ⟨(Try.prog.info? 158).getD default, by kernel_rfl, fun ρ => by kernel_rfl, by kernel_rfl, by kernel_rfl⟩
theorem zp159 : ZP Try.prog 159 (.nl .nilFunc) :=
  ⟨(Try.prog.info? 159).getD default, by kernel_rfl, fun ρ => by kernel_rfl, by kernel_rfl, by kernel_rfl⟩
theorem zp160 : ZP Try.prog 160 (.nl .nilFunc) :=
  ⟨(Try.prog.info? 160).getD default, by kernel_rfl, fun ρ => by kernel_rfl, by kernel_rfl, by kernel_rfl⟩
theorem zp161 : ZP Try.prog 161 (.nl .nilFunc) :=
  ⟨(Try.prog.info? 161).getD default, by kernel_rfl, fun ρ => by kernel_rfl, by kernel_rfl, by kernel_rfl⟩
theorem zp162 : ZP Try.prog 162 (.nl .nilFunc) :=
  ⟨(Try.prog.info? 162).getD default, by kernel_rfl, fun ρ => by kernel_rfl, by kernel_rfl, by kernel_rfl⟩
theorem zp164 : ZP Try.prog 164 (.nl .nilFunc) :=
  ⟨(Try.prog.info? 164).getD default, by kernel_rfl, fun ρ => by kernel_rfl, by kernel_rfl, by kernel_rfl⟩
theorem zp165 : ZP Try.prog 165 (.nl .nilFunc) :=
  ⟨(Try.prog.info? 165).getD default, by kernel_rfl, fun ρ => by kernel_rfl, by kernel_rfl, by kernel_rfl⟩
theorem zp166 : ZP Try.prog 166 (.nl .nilFunc) :=
  ⟨(Try.prog.info? 166).getD default, by kernel_rfl, fun ρ => by kernel_rfl, by kernel_rfl, by kernel_rfl⟩
theorem zp167 : ZP Try.prog 167 (.nl .nilFunc) :=
  ⟨(Try.prog.info? 167).getD default, by kernel_rfl, fun ρ => by kernel_rfl, by kernel_rfl, by kernel_rfl⟩
theorem zp168 : ZP Try.prog 168 (.ag [.ci .i64 0]) :=
  ⟨(Try.prog.info? 168).getD default, by kernel_rfl, fun ρ => by kernel_rfl, by kernel_rfl, by kernel_rfl⟩
theorem zp169 : ZP Try.prog 169 (.ag [.ci .i64 0]) :=
  ⟨(Try.prog.info? 169).getD default, by kernel_rfl, fun ρ => by kernel_rfl, by kernel_rfl, by kernel_rfl⟩
theorem zp170 : ZP Try.prog 170 (.nl .nilFunc) :=
  ⟨(Try.prog.info? 170).getD default, by kernel_rfl, fun ρ => by kernel_rfl, by kernel_rfl, by kernel_rfl⟩
theorem zp171 : ZP Try.prog 171 (.nl .nilFunc) :=
  ⟨(Try.prog.info? 171).getD default, by kernel_rfl, fun ρ => by kernel_rfl, by kernel_rfl, by kernel_rfl⟩
theorem zp172 : ZP Try.prog 172 (.nl .nilFunc) :=
  ⟨(Try.prog.info? 172).getD default, by kernel_rfl, fun ρ => by kernel_rfl, by kernel_rfl, by kernel_rfl⟩
theorem zp173 : ZP Try.prog 173 (.nl .nilFunc) :=
  ⟨(Try.prog.info? 173).getD default, by kernel_rfl, fun ρ => by kernel_rfl, by kernel_rfl, by kernel_rfl⟩
theorem zp174 : ZP Try.prog 174 (.nl .nilFunc) :=
  ⟨(Try.prog.info? 174).getD default, by kernel_rfl, fun ρ => by kernel_rfl, by kernel_rfl, by kernel_rfl⟩
theorem zp175 : ZP Try.prog 175 (.ag [.ci .i64 0]) :=
  ⟨(Try.prog.info? 175).getD default, by kernel_rfl, fun ρ => by kernel_rfl, by kernel_rfl, by kernel_rfl⟩
theorem zp176 : ZP Try.prog 176 (.ag [.ci .i64 0]) :=
  ⟨(Try.prog.info? 176).getD default, by kernel_rfl, fun ρ => by kernel_rfl, by kernel_rfl, by kernel_rfl⟩
theorem zp177 : ZP Try.prog 177 (.nl .nilFunc) :=
  ⟨(Try.prog.info? 177).getD default, by kernel_rfl, fun ρ => by kernel_rfl, by kernel_rfl, by kernel_rfl⟩
theorem zp178 : ZP Try.prog 178 (.ag [.st ByteArray.empty, .cb false, .cb false, .cb false, .cb false, .ci .i64 0, .ci .i64 0]) :=
  ⟨(Try.prog.info? 178).getD default, by kernel_rfl, fun ρ => by kernel_rfl, by kernel_rfl, by kernel_rfl⟩
theorem zp179 : ZP Try.prog 179 (.ag [.st ByteArray.empty, .cb false, .cb false, .cb false, .cb false, .ci .i64 0, .ci .i64 0]) :=
  ⟨(Try.prog.info? 179).getD default, by kernel_rfl, fun ρ => by kernel_rfl, by kernel_rfl, by kernel_rfl⟩
theorem zp181 : ZP Try.prog 181 (.nl .nilFunc) :=
  ⟨(Try.prog.info? 181).getD default, by kernel_rfl, fun ρ => by kernel_rfl, by kernel_rfl, by kernel_rfl⟩
theorem zp182 : ZP Try.prog 182 (.nl .nilFunc) :=
  ⟨(Try.prog.info? 182).getD default, by kernel_rfl, fun ρ => by kernel_rfl, by kernel_rfl, by kernel_rfl⟩
theorem zp183 : ZP Try.prog 183 (.nl .nilFunc) :=
  ⟨(Try.prog.info? 183).getD default, by kernel_rfl, fun ρ => by kernel_rfl, by kernel_rfl, by kernel_rfl⟩
theorem zp184 : ZP Try.prog 184 (.nl .nilFunc) :=
  ⟨(Try.prog.info? 184).getD default, by kernel_rfl, fun ρ => by kernel_rfl, by kernel_rfl, by kernel_rfl⟩
theorem zp185 : ZP Try.prog 185 (.nl .nilFunc) :=
  ⟨(Try.prog.info? 185).getD default, by kernel_rfl, fun ρ => by kernel_rfl, by kernel_rfl, by kernel_rfl⟩
theorem zp186 : ZP Try.prog 186 (.nl .nilFunc) :=
  ⟨(Try.prog.info? 186).getD default, by kernel_rfl, fun ρ => by kernel_rfl, by kernel_rfl, by kernel_rfl⟩
theorem zp187 : ZP Try.prog 187 (.nl .nilFunc) :=
  ⟨(Try.prog.info? 187).getD default, by kernel_rfl, fun ρ => by kernel_rfl, by kernel_rfl, by kernel_rfl⟩
theorem zp188 : ZP Try.prog 188 (.nl .nilFunc) :=
  ⟨(Try.prog.info? 188).getD default, by kernel_rfl, fun ρ => by kernel_rfl, by kernel_rfl, by kernel_rfl⟩
theorem zp189 : ZP Try.prog 189 (.nl .nilFunc) :=
  ⟨(Try.prog.info? 189).getD default, by kernel_rfl, fun ρ => by kernel_rfl, by kernel_rfl, by kernel_rfl⟩
theorem zp190 : ZP Try.prog 190 (.ag [.ag [.st ByteArray.empty, .cb false, .cb false, .cb false, .cb false, .ci .i64 0, .ci .i64 0], .ag [.st ByteArray.empty, .cb false, .cb false, .cb false, .cb false, .ci .i64 0, .ci .i64 0], .ag [.st ByteArray.empty, .cb false, .cb false, .cb false, .cb false, .ci .i64 0, .ci .i64 0], .ag [.st ByteArray.empty, .cb false, .cb false, .cb false, .cb false, .ci .i64 0, .ci .i64 0], .ag [.st ByteArray.empty, .cb false, .cb false, .cb false, .cb false, .ci .i64 0, .ci .i64 0], .ag [.st ByteArray.empty, .cb false, .cb false, .cb false, .cb false, .ci .i64 0, .ci .i64 0], .ag [.st ByteArray.empty, .cb false, .cb false, .cb false, .cb false, .ci .i64 0, .ci .i64 0], .ag [.st ByteArray.empty, .cb false, .cb false, .cb false, .cb false, .ci .i64 0, .ci .i64 0], .ag [.st ByteArray.empty, .cb false, .cb false, .cb false, .cb false, .ci .i64 0, .ci .i64 0], .ag [.st ByteArray.empty, .cb false, .cb false, .cb false, .cb false, .ci .i64 0, .ci .i64 0], .ag [.st ByteArray.empty, .cb false, .cb false, .cb false, .cb false, .ci .i64 0, .ci .i64 0]]) :=
  ⟨(Try.prog.info? 190).getD default, by kernel_rfl, fun ρ => by kernel_rfl, by kernel_rfl, by kernel_rfl⟩
theorem zp191 : ZP Try.prog 191 (.nl .nilFunc) :=
  ⟨(Try.prog.info? 191).getD default, by kernel_rfl, fun ρ => by kernel_rfl, by kernel_rfl, by kernel_rfl⟩
theorem zp192 : ZP Try.prog 192 (.nl .nilFunc) :=
  ⟨(Try.prog.info? 192).getD default, by kernel_rfl, fun ρ => by kernel_rfl, by kernel_rfl, by kernel_rfl⟩
theorem zp193 : ZP Try.prog 193 (.nl .nilFunc) :=
  ⟨(Try.prog.info? 193).getD default, by kernel_rfl, fun ρ => by kernel_rfl, by kernel_rfl, by kernel_rfl⟩
theorem zp194 : ZP Try.prog 194 (.nl .nilFunc) :=
  ⟨(Try.prog.info? 194).getD default, by kernel_rfl, fun ρ => by kernel_rfl, by kernel_rfl, by kernel_rfl⟩
theorem zp197 : ZP Try.prog 197 (.ag []) :=
  ⟨(Try.prog.info? 197).getD default, by kernel_rfl, fun ρ => by kernel_rfl, by kernel_rfl, by kernel_rfl⟩
theorem zp198 : ZP Try.prog 198 (.ag [.ag []]) :=
  ⟨(Try.prog.info? 198).getD default, by kernel_rfl, fun ρ => by kernel_rfl, by kernel_rfl, by kernel_rfl⟩
theorem zp200 : ZP Try.prog 200 (.ci .u32 0) :=
  ⟨(Try.prog.info? 200).getD default, by kernel_rfl, fun ρ => by kernel_rfl, by kernel_rfl, by kernel_rfl⟩
theorem zp203 : ZP Try.prog 203 (.nl .nilFunc) :=
  ⟨(Try.prog.info? 203).getD default, by kernel_rfl, fun ρ => by kernel_rfl, by kernel_rfl, by kernel_rfl⟩
theorem zp204 : ZP Try.prog 204 (.nl (.pointer none)) :=
  ⟨(Try.prog.info? 204).getD default, by kernel_rfl, fun ρ => by kernel_rfl, by kernel_rfl, by kernel_rfl⟩
def zeroOf (t : Nat) : Option V := zf zl t
theorem zeroOf_ok : ∀ t v, zeroOf t = some v → ZP Try.prog t v :=
  zAll_spec (l := zl) (And.intro zp1 <| And.intro zp2 <| And.intro zp3 <| And.intro zp4 <| And.intro zp5 <| And.intro zp9 <| And.intro zp12 <| And.intro zp15 <| And.intro zp16 <| And.intro zp17 <| And.intro zp20 <| And.intro zp21 <| And.intro zp22 <| And.intro zp23 <| And.intro zp24 <| And.intro zp25 <| And.intro zp26 <| And.intro zp27 <| And.intro zp28 <| And.intro zp29 <| And.intro zp30 <| And.intro zp31 <| And.intro zp32 <| And.intro zp33 <| And.intro zp34 <| And.intro zp35 <| And.intro zp36 <| And.intro zp38 <| And.intro zp40 <| And.intro zp41 <| And.intro zp42 <| And.intro zp43 <| And.intro zp44 <| And.intro zp45 <| And.intro zp46 <| And.intro zp47 <| And.intro zp49 <| And.intro zp50 <| And.intro zp51 <| And.intro zp52 <| And.intro zp53 <| And.intro zp54 <| And.intro zp55 <| And.intro zp56 <| And.intro zp57 <| And.intro zp58 <| And.intro zp59 <| And.intro zp60 <| And.intro zp62 <| And.intro zp64 <| And.intro zp65 <| And.intro zp67 <| And.intro zp68 <| And.intro zp69 <| And.intro zp70 <| And.intro zp71 <| And.intro zp72 <| And.intro zp73 <| And.intro zp74 <| And.intro zp75 <| And.intro zp77 <| And.intro zp78 <| And.intro zp79 <| And.intro zp80 <| And.intro zp81 <| And.intro zp82 <| And.intro zp84 <| And.intro zp85 <| And.intro zp87 <| And.intro zp88 <| And.intro zp89 <| And.intro zp90 <| And.intro zp91 <| And.intro zp92 <| And.intro zp93 <| And.intro zp94 <| And.intro zp95 <| And.intro zp96 <| And.intro zp97 <| And.intro zp98 <| And.intro zp99 <| And.intro zp100 <| And.intro zp101 <| And.intro zp102 <| And.intro zp104 <| And.intro zp105 <| And.intro zp106 <| And.intro zp107 <| And.intro zp108 <| And.intro zp109 <| And.intro zp110 <| And.intro zp111 <| And.intro zp113 <| And.intro zp114 <| And.intro zp115 <| And.intro zp116 <| And.intro zp117 <| And.intro zp118 <| And.intro zp119 <| And.intro zp120 <| And.intro zp121 <| And.intro zp122 <| And.intro zp123 <| And.intro zp125 <| And.intro zp126 <| And.intro zp127 <| And.intro zp128 <| And.intro zp129 <| And.intro zp130 <| And.intro zp131 <| And.intro zp132 <| And.intro zp134 <| And.intro zp135 <| And.intro zp136 <| And.intro zp137 <| And.intro zp138 <| And.intro zp139 <| And.intro zp140 <| And.intro zp141 <| And.intro zp142 <| And.intro zp143 <| And.intro zp144 <| And.intro zp146 <| And.intro zp147 <| And.intro zp148 <| And.intro zp150 <| And.intro zp152 <| And.intro zp154 <| And.intro zp156 <| And.intro zp158 <| And.intro zp159 <| And.intro zp160 <| And.intro zp161 <| And.intro zp162 <| And.intro zp164 <| And.intro zp165 <| And.intro zp166 <| And.intro zp167 <| And.intro zp168 <| And.intro zp169 <| And.intro zp170 <| And.intro zp171 <| And.intro zp172 <| And.intro zp173 <| And.intro zp174 <| And.intro zp175 <| And.intro zp176 <| And.intro zp177 <| And.intro zp178 <| And.intro zp179 <| And.intro zp181 <| And.intro zp182 <| And.intro zp183 <| And.intro zp184 <| And.intro zp185 <| And.intro zp186 <| And.intro zp187 <| And.intro zp188 <| And.intro zp189 <| And.intro zp190 <| And.intro zp191 <| And.intro zp192 <| And.intro zp193 <| And.intro zp194 <| And.intro zp197 <| And.intro zp198 <| And.intro zp200 <| And.intro zp203 <| And.intro zp204 <| trivial)
end Go.Proofs.Ytfalhknkaebfoaa
