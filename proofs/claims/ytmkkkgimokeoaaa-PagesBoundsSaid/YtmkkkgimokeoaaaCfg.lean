/- The zero values of this seat's types, by their numbers, and that they are the program's. No condition. Written by a program of the claimant's own. -/
import Derived.Test.YtmkkkgimokeoaaaRows
import Derived.Test.YtmkkkgimokeoaaaSxE
import Derived.KernelRfl
namespace Go.Proofs.Ytmkkkgimokeoaaa
open Go.Sx
def zl : List (Nat × V) := [
  (1, .nl .nilFunc),
  (2, .ci .i64 0),
  (3, .ci .i64 0),
  (4, .cb false),
  (5, .ci .u8 0),
  (9, .st ByteArray.empty),
  (12, .ci .u64 0),
  (15, .nl (.pointer none)),
  (16, .nl (.pointer none)),
  (17, .nl (.pointer none)),
  (20, .nl .nilIface),
  (21, .ci .i32 0),
  (22, .nl (.slice none 0 0)),
  (23, .ci .i64 0),
  (24, .ci .i64 0),
  (25, .key void),
  (26, .key void),
  (27, .ag [.ci .i64 0, .st ByteArray.empty]),
  (28, .ag [.ci .i64 0, .st ByteArray.empty]),
  (29, .nl (.pointer none)),
  (30, .nl .nilFunc),
  (31, .nl .nilFunc),
  (32, .ci .i64 0),
  (34, .nl .nilFunc),
  (35, .nl .nilFunc),
  (36, .nl .nilFunc),
  (37, .nl .nilFunc),
  (38, .ag [.ci .i64 0, .ci .i64 0, .ci .i64 0, .key void, .key void, .st ByteArray.empty]),
  (39, .ag [.ci .i64 0, .ci .i64 0, .ci .i64 0, .key void, .key void, .st ByteArray.empty]),
  (40, .nl (.slice none 0 0)),
  (41, .ag [.nl (.slice none 0 0)]),
  (42, .ag [.nl (.slice none 0 0)]),
  (43, .nl .nilFunc),
  (44, .nl .nilFunc),
  (45, .nl .nilFunc),
  (46, .nl (.slice none 0 0)),
  (48, .nl .nilFunc),
  (49, .nl .nilFunc),
  (50, .nl (.slice none 0 0)),
  (51, .ci .i64 0),
  (52, .sl noSlots),
  (53, .by noBytes),
  (54, .ob Sx.free),
  (55, .ob Sx.free),
  (56, .nl (.slice none 0 0)),
  (57, .nl .nilFunc),
  (58, .nl .nilFunc),
  (59, .nl .nilFunc),
  (61, .nl .nilFunc),
  (62, .ag [.ob Sx.free, .nl (.pointer none), .ci .i64 0]),
  (63, .ag [.ob Sx.free, .nl (.pointer none), .ci .i64 0]),
  (65, .nl .nilFunc),
  (66, .nl .nilFunc),
  (67, .nl .nilFunc),
  (68, .nl (.pointer none)),
  (69, .nl .nilFunc),
  (70, .nl .nilFunc),
  (71, .nl .nilFunc),
  (72, .nl .nilFunc),
  (74, .nl .nilFunc),
  (76, .nl .nilFunc),
  (77, .nl .nilFunc),
  (78, .nl .nilFunc),
  (79, .nl .nilFunc),
  (80, .nl .nilFunc),
  (81, .nl .nilFunc),
  (83, .nl .nilFunc),
  (84, .nl .nilFunc),
  (85, .nl .nilFunc),
  (86, .nl (.pointer none)),
  (87, .nl .nilFunc),
  (88, .nl .nilFunc),
  (89, .nl .nilFunc),
  (90, .nl .nilFunc),
  (91, .nl .nilFunc),
  (93, .nl .nilFunc),
  (95, .nl .nilFunc),
  (96, .nl .nilFunc),
  (97, .nl .nilFunc),
  (99, .nl .nilFunc),
  (100, .nl .nilFunc),
  (101, .nl .nilFunc),
  (102, .ag [.st ByteArray.empty, .cb false, .cb false, .cb false, .cb false, .ci .i64 0, .ci .i64 0]),
  (103, .ag [.st ByteArray.empty, .cb false, .cb false, .cb false, .cb false, .ci .i64 0, .ci .i64 0]),
  (105, .nl .nilFunc),
  (106, .nl .nilFunc),
  (107, .ag [.ag [.st ByteArray.empty, .cb false, .cb false, .cb false, .cb false, .ci .i64 0, .ci .i64 0], .ag [.st ByteArray.empty, .cb false, .cb false, .cb false, .cb false, .ci .i64 0, .ci .i64 0], .ag [.st ByteArray.empty, .cb false, .cb false, .cb false, .cb false, .ci .i64 0, .ci .i64 0], .ag [.st ByteArray.empty, .cb false, .cb false, .cb false, .cb false, .ci .i64 0, .ci .i64 0], .ag [.st ByteArray.empty, .cb false, .cb false, .cb false, .cb false, .ci .i64 0, .ci .i64 0], .ag [.st ByteArray.empty, .cb false, .cb false, .cb false, .cb false, .ci .i64 0, .ci .i64 0], .ag [.st ByteArray.empty, .cb false, .cb false, .cb false, .cb false, .ci .i64 0, .ci .i64 0], .ag [.st ByteArray.empty, .cb false, .cb false, .cb false, .cb false, .ci .i64 0, .ci .i64 0], .ag [.st ByteArray.empty, .cb false, .cb false, .cb false, .cb false, .ci .i64 0, .ci .i64 0], .ag [.st ByteArray.empty, .cb false, .cb false, .cb false, .cb false, .ci .i64 0, .ci .i64 0], .ag [.st ByteArray.empty, .cb false, .cb false, .cb false, .cb false, .ci .i64 0, .ci .i64 0]]),
  (108, .nl .nilFunc),
  (109, .nl .nilFunc),
  (110, .nl .nilFunc),
  (113, .ag []),
  (114, .ag [.ag []]),
  (116, .ci .u32 0),
  (119, .nl .nilFunc),
  (120, .nl (.pointer none))]
theorem zp1 : ZP Try.prog 1 (.nl .nilFunc) :=
  ⟨(Try.prog.info? 1).getD default, by kernel_rfl, fun ρ => by kernel_rfl, by kernel_rfl, by kernel_rfl⟩
theorem zp2 : ZP Try.prog 2 (.ci .i64 0) :=
  ⟨(Try.prog.info? 2).getD default, by kernel_rfl, fun ρ => by kernel_rfl, by kernel_rfl, by kernel_rfl⟩
theorem zp3 : ZP Try.prog 3 (.ci .i64 0) :=
  ⟨(Try.prog.info? 3).getD default, by kernel_rfl, fun ρ => by kernel_rfl, by kernel_rfl, by kernel_rfl⟩
theorem zp4 : ZP Try.prog 4 (.cb false) :=
  ⟨(Try.prog.info? 4).getD default, by kernel_rfl, fun ρ => by kernel_rfl, by kernel_rfl, by kernel_rfl⟩
theorem zp5 : ZP Try.prog 5 (.ci .u8 0) :=
  ⟨(Try.prog.info? 5).getD default, by kernel_rfl, fun ρ => by kernel_rfl, by kernel_rfl, by kernel_rfl⟩
theorem zp9 : ZP Try.prog 9 (.st ByteArray.empty) :=
  ⟨(Try.prog.info? 9).getD default, by kernel_rfl, fun ρ => by kernel_rfl, by kernel_rfl, by kernel_rfl⟩
theorem zp12 : ZP Try.prog 12 (.ci .u64 0) :=
  ⟨(Try.prog.info? 12).getD default, by kernel_rfl, fun ρ => by kernel_rfl, by kernel_rfl, by kernel_rfl⟩
theorem zp15 : ZP Try.prog 15 (.nl (.pointer none)) :=
  ⟨(Try.prog.info? 15).getD default, by kernel_rfl, fun ρ => by kernel_rfl, by kernel_rfl, by kernel_rfl⟩
theorem zp16 : ZP Try.prog 16 (.nl (.pointer none)) :=
  ⟨(Try.prog.info? 16).getD default, by kernel_rfl, fun ρ => by kernel_rfl, by kernel_rfl, by kernel_rfl⟩
theorem zp17 : ZP Try.prog 17 (.nl (.pointer none)) :=
  ⟨(Try.prog.info? 17).getD default, by kernel_rfl, fun ρ => by kernel_rfl, by kernel_rfl, by kernel_rfl⟩
theorem zp20 : ZP Try.prog 20 (.nl .nilIface) :=
  ⟨(Try.prog.info? 20).getD default, by kernel_rfl, fun ρ => by kernel_rfl, by kernel_rfl, by kernel_rfl⟩
theorem zp21 : ZP Try.prog 21 (.ci .i32 0) :=
  ⟨(Try.prog.info? 21).getD default, by kernel_rfl, fun ρ => by kernel_rfl, by kernel_rfl, by kernel_rfl⟩
theorem zp22 : ZP Try.prog 22 (.nl (.slice none 0 0)) :=
  ⟨(Try.prog.info? 22).getD default, by kernel_rfl, fun ρ => by kernel_rfl, by kernel_rfl, by kernel_rfl⟩
theorem zp23 : ZP Try.prog 23 (.ci .i64 0) :=
  ⟨(Try.prog.info? 23).getD default, by kernel_rfl, fun ρ => by kernel_rfl, by kernel_rfl, by kernel_rfl⟩
theorem zp24 : ZP Try.prog 24 (.ci .i64 0) :=
  ⟨(Try.prog.info? 24).getD default, by kernel_rfl, fun ρ => by kernel_rfl, by kernel_rfl, by kernel_rfl⟩
theorem zp25 : ZP Try.prog 25 (.key void) :=
  ⟨(Try.prog.info? 25).getD default, by kernel_rfl, fun ρ => by kernel_rfl, by kernel_rfl, by kernel_rfl⟩
theorem zp26 : ZP Try.prog 26 (.key void) :=
  ⟨(Try.prog.info? 26).getD default, by kernel_rfl, fun ρ => by kernel_rfl, by kernel_rfl, by kernel_rfl⟩
theorem zp27 : ZP Try.prog 27 (.ag [.ci .i64 0, .st ByteArray.empty]) :=
  ⟨(Try.prog.info? 27).getD default, by kernel_rfl, fun ρ => by kernel_rfl, by kernel_rfl, by kernel_rfl⟩
theorem zp28 : ZP Try.prog 28 (.ag [.ci .i64 0, .st ByteArray.empty]) :=
  ⟨(Try.prog.info? 28).getD default, by kernel_rfl, fun ρ => by kernel_rfl, by kernel_rfl, by kernel_rfl⟩
theorem zp29 : ZP Try.prog 29 (.nl (.pointer none)) :=
  ⟨(Try.prog.info? 29).getD default, by kernel_rfl, fun ρ => by kernel_rfl, by kernel_rfl, by kernel_rfl⟩
theorem zp30 : ZP Try.prog 30 (.nl .nilFunc) :=
  ⟨(Try.prog.info? 30).getD default, by kernel_rfl, fun ρ => by kernel_rfl, by kernel_rfl, by kernel_rfl⟩
theorem zp31 : ZP Try.prog 31 (.nl .nilFunc) :=
  ⟨(Try.prog.info? 31).getD default, by kernel_rfl, fun ρ => by kernel_rfl, by kernel_rfl, by kernel_rfl⟩
theorem zp32 : ZP Try.prog 32 (.ci .i64 0) :=
  ⟨(Try.prog.info? 32).getD default, by kernel_rfl, fun ρ => by kernel_rfl, by kernel_rfl, by kernel_rfl⟩
theorem zp34 : ZP Try.prog 34 (.nl .nilFunc) :=
  ⟨(Try.prog.info? 34).getD default, by kernel_rfl, fun ρ => by kernel_rfl, by kernel_rfl, by kernel_rfl⟩
theorem zp35 : ZP Try.prog 35 (.nl .nilFunc) :=
  ⟨(Try.prog.info? 35).getD default, by kernel_rfl, fun ρ => by kernel_rfl, by kernel_rfl, by kernel_rfl⟩
theorem zp36 : ZP Try.prog 36 (.nl .nilFunc) :=
  ⟨(Try.prog.info? 36).getD default, by kernel_rfl, fun ρ => by kernel_rfl, by kernel_rfl, by kernel_rfl⟩
theorem zp37 : ZP Try.prog 37 (.nl .nilFunc) :=
  ⟨(Try.prog.info? 37).getD default, by kernel_rfl, fun ρ => by kernel_rfl, by kernel_rfl, by kernel_rfl⟩
theorem zp38 : ZP Try.prog 38 (.ag [.ci .i64 0, .ci .i64 0, .ci .i64 0, .key void, .key void, .st ByteArray.empty]) :=
  ⟨(Try.prog.info? 38).getD default, by kernel_rfl, fun ρ => by kernel_rfl, by kernel_rfl, by kernel_rfl⟩
theorem zp39 : ZP Try.prog 39 (.ag [.ci .i64 0, .ci .i64 0, .ci .i64 0, .key void, .key void, .st ByteArray.empty]) :=
  ⟨(Try.prog.info? 39).getD default, by kernel_rfl, fun ρ => by kernel_rfl, by kernel_rfl, by kernel_rfl⟩
theorem zp40 : ZP Try.prog 40 (.nl (.slice none 0 0)) :=
  ⟨(Try.prog.info? 40).getD default, by kernel_rfl, fun ρ => by kernel_rfl, by kernel_rfl, by kernel_rfl⟩
theorem zp41 : ZP Try.prog 41 (.ag [.nl (.slice none 0 0)]) :=
  ⟨(Try.prog.info? 41).getD default, by kernel_rfl, fun ρ => by kernel_rfl, by kernel_rfl, by kernel_rfl⟩
theorem zp42 : ZP Try.prog 42 (.ag [.nl (.slice none 0 0)]) :=
  ⟨(Try.prog.info? 42).getD default, by kernel_rfl, fun ρ => by kernel_rfl, by kernel_rfl, by kernel_rfl⟩
theorem zp43 : ZP Try.prog 43 (.nl .nilFunc) :=
  ⟨(Try.prog.info? 43).getD default, by kernel_rfl, fun ρ => by kernel_rfl, by kernel_rfl, by kernel_rfl⟩
theorem zp44 : ZP Try.prog 44 (.nl .nilFunc) :=
  ⟨(Try.prog.info? 44).getD default, by kernel_rfl, fun ρ => by kernel_rfl, by kernel_rfl, by kernel_rfl⟩
theorem zp45 : ZP Try.prog 45 (.nl .nilFunc) :=
  ⟨(Try.prog.info? 45).getD default, by kernel_rfl, fun ρ => by kernel_rfl, by kernel_rfl, by kernel_rfl⟩
theorem zp46 : ZP Try.prog 46 (.nl (.slice none 0 0)) :=
  ⟨(Try.prog.info? 46).getD default, by kernel_rfl, fun ρ => by kernel_rfl, by kernel_rfl, by kernel_rfl⟩
theorem zp48 : ZP Try.prog 48 (.nl .nilFunc) :=
  ⟨(Try.prog.info? 48).getD default, by kernel_rfl, fun ρ => by kernel_rfl, by kernel_rfl, by kernel_rfl⟩
theorem zp49 : ZP Try.prog 49 (.nl .nilFunc) :=
  ⟨(Try.prog.info? 49).getD default, by kernel_rfl, fun ρ => by kernel_rfl, by kernel_rfl, by kernel_rfl⟩
theorem zp50 : ZP Try.prog 50 (.nl (.slice none 0 0)) :=
  ⟨(Try.prog.info? 50).getD default, by kernel_rfl, fun ρ => by kernel_rfl, by kernel_rfl, by kernel_rfl⟩
theorem zp51 : ZP Try.prog 51 (.ci .i64 0) :=
  ⟨(Try.prog.info? 51).getD default, by kernel_rfl, fun ρ => by kernel_rfl, by kernel_rfl, by kernel_rfl⟩
theorem zp52 : ZP Try.prog 52 (.sl noSlots) :=
  ⟨(Try.prog.info? 52).getD default, by kernel_rfl, fun ρ => by kernel_rfl, by kernel_rfl, by kernel_rfl⟩
theorem zp53 : ZP Try.prog 53 (.by noBytes) :=
  ⟨(Try.prog.info? 53).getD default, by kernel_rfl, fun ρ => by kernel_rfl, by kernel_rfl, by kernel_rfl⟩
theorem zp54 : ZP Try.prog 54 (.ob Sx.free) :=
  ⟨(Try.prog.info? 54).getD default, by kernel_rfl, fun ρ => by kernel_rfl, by kernel_rfl, by kernel_rfl⟩
theorem zp55 : ZP Try.prog 55 (.ob Sx.free) :=
  ⟨(Try.prog.info? 55).getD default, by kernel_rfl, fun ρ => by kernel_rfl, by kernel_rfl, by kernel_rfl⟩
theorem zp56 : ZP Try.prog 56 (.nl (.slice none 0 0)) :=
  ⟨(Try.prog.info? 56).getD default, by kernel_rfl, fun ρ => by kernel_rfl, by kernel_rfl, by kernel_rfl⟩
theorem zp57 : ZP Try.prog 57 (.nl .nilFunc) :=
  ⟨(Try.prog.info? 57).getD default, by kernel_rfl, fun ρ => by kernel_rfl, by kernel_rfl, by kernel_rfl⟩
theorem zp58 : ZP Try.prog 58 (.nl .nilFunc) :=
  ⟨(Try.prog.info? 58).getD default, by kernel_rfl, fun ρ => by kernel_rfl, by kernel_rfl, by kernel_rfl⟩
theorem zp59 : ZP Try.prog 59 (.nl .nilFunc) :=
  ⟨(Try.prog.info? 59).getD default, by kernel_rfl, fun ρ => by kernel_rfl, by kernel_rfl, by kernel_rfl⟩
theorem zp61 : ZP Try.prog 61 (.nl .nilFunc) :=
  ⟨(Try.prog.info? 61).getD default, by kernel_rfl, fun ρ => by kernel_rfl, by kernel_rfl, by kernel_rfl⟩
theorem zp62 : ZP Try.prog 62 (.ag [.ob Sx.free, .nl (.pointer none), .ci .i64 0]) :=
  ⟨(Try.prog.info? 62).getD default, by kernel_rfl, fun ρ => by kernel_rfl, by kernel_rfl, by kernel_rfl⟩
theorem zp63 : ZP Try.prog 63 (.ag [.ob Sx.free, .nl (.pointer none), .ci .i64 0]) :=
  ⟨(Try.prog.info? 63).getD default, by kernel_rfl, fun ρ => by kernel_rfl, by kernel_rfl, by kernel_rfl⟩
theorem zp65 : ZP Try.prog 65 (.nl .nilFunc) :=
  ⟨(Try.prog.info? 65).getD default, by kernel_rfl, fun ρ => by kernel_rfl, by kernel_rfl, by kernel_rfl⟩
theorem zp66 : ZP Try.prog 66 (.nl .nilFunc) :=
  ⟨(Try.prog.info? 66).getD default, by kernel_rfl, fun ρ => by kernel_rfl, by kernel_rfl, by kernel_rfl⟩
theorem zp67 : ZP Try.prog 67 (.nl .nilFunc) :=
  ⟨(Try.prog.info? 67).getD default, by kernel_rfl, fun ρ => by kernel_rfl, by kernel_rfl, by kernel_rfl⟩
theorem zp68 : ZP Try.prog 68 (.nl (.pointer none)) :=
  ⟨(Try.prog.info? 68).getD default, by kernel_rfl, fun ρ => by kernel_rfl, by kernel_rfl, by kernel_rfl⟩
theorem zp69 : ZP Try.prog 69 (.nl .nilFunc) :=
  ⟨(Try.prog.info? 69).getD default, by kernel_rfl, fun ρ => by kernel_rfl, by kernel_rfl, by kernel_rfl⟩
theorem zp70 : ZP Try.prog 70 (.nl .nilFunc) :=
  ⟨(Try.prog.info? 70).getD default, by kernel_rfl, fun ρ => by kernel_rfl, by kernel_rfl, by kernel_rfl⟩
theorem zp71 : ZP Try.prog 71 (.nl .nilFunc) :=
  ⟨(Try.prog.info? 71).getD default, by kernel_rfl, fun ρ => by kernel_rfl, by kernel_rfl, by kernel_rfl⟩
theorem zp72 : ZP Try.prog 72 (.nl .nilFunc) :=
  ⟨(Try.prog.info? 72).getD default, by kernel_rfl, fun ρ => by kernel_rfl, by kernel_rfl, by kernel_rfl⟩
theorem zp74 : ZP Try.prog 74 (.nl .nilFunc) :=
  ⟨(Try.prog.info? 74).getD default, by kernel_rfl, fun ρ => by kernel_rfl, by kernel_rfl, by kernel_rfl⟩
theorem zp76 : ZP Try.prog 76 (.nl .nilFunc) :=
  ⟨(Try.prog.info? 76).getD default, by kernel_rfl, fun ρ => by kernel_rfl, by kernel_rfl, by kernel_rfl⟩
theorem zp77 : ZP Try.prog 77 (.nl .nilFunc) :=
  ⟨(Try.prog.info? 77).getD default, by kernel_rfl, fun ρ => by kernel_rfl, by kernel_rfl, by kernel_rfl⟩
theorem zp78 : ZP Try.prog 78 (.nl .nilFunc) :=
  ⟨(Try.prog.info? 78).getD default, by kernel_rfl, fun ρ => by kernel_rfl, by kernel_rfl, by kernel_rfl⟩
theorem zp79 : ZP Try.prog 79 (.nl .nilFunc) :=
  ⟨(Try.prog.info? 79).getD default, by kernel_rfl, fun ρ => by kernel_rfl, by kernel_rfl, by kernel_rfl⟩
theorem zp80 : ZP Try.prog 80 (.nl .nilFunc) :=
  ⟨(Try.prog.info? 80).getD default, by kernel_rfl, fun ρ => by kernel_rfl, by kernel_rfl, by kernel_rfl⟩
theorem zp81 : ZP Try.prog 81 (.nl .nilFunc) :=
  ⟨(Try.prog.info? 81).getD default, by kernel_rfl, fun ρ => by kernel_rfl, by kernel_rfl, by kernel_rfl⟩
theorem zp83 : ZP Try.prog 83 (.nl .nilFunc) :=
  ⟨(Try.prog.info? 83).getD default, by kernel_rfl, fun ρ => by kernel_rfl, by kernel_rfl, by kernel_rfl⟩
theorem zp84 : ZP Try.prog 84 (.nl .nilFunc) :=
  ⟨(Try.prog.info? 84).getD default, by kernel_rfl, fun ρ => by kernel_rfl, by kernel_rfl, by kernel_rfl⟩
theorem zp85 : ZP Try.prog 85 (.nl .nilFunc) :=
  ⟨(Try.prog.info? 85).getD default, by kernel_rfl, fun ρ => by kernel_rfl, by kernel_rfl, by kernel_rfl⟩
theorem zp86 : ZP Try.prog 86 (.nl (.pointer none)) :=
  ⟨(Try.prog.info? 86).getD default, by kernel_rfl, fun ρ => by kernel_rfl, by kernel_rfl, by kernel_rfl⟩
theorem zp87 : ZP Try.prog 87 (.nl .nilFunc) :=
  ⟨(Try.prog.info? 87).getD default, by kernel_rfl, fun ρ => by kernel_rfl, by kernel_rfl, by kernel_rfl⟩
theorem zp88 : ZP Try.prog 88 (.nl .nilFunc) :=
  ⟨(Try.prog.info? 88).getD default, by kernel_rfl, fun ρ => by kernel_rfl, by kernel_rfl, by kernel_rfl⟩
theorem zp89 : ZP Try.prog 89 (.nl .nilFunc) :=
  ⟨(Try.prog.info? 89).getD default, by kernel_rfl, fun ρ => by kernel_rfl, by kernel_rfl, by kernel_rfl⟩
theorem zp90 : ZP Try.prog 90 (.nl .nilFunc) :=
  ⟨(Try.prog.info? 90).getD default, by kernel_rfl, fun ρ => by kernel_rfl, by kernel_rfl, by kernel_rfl⟩
theorem zp91 : ZP Try.prog 91 (.nl .nilFunc) :=
  ⟨(Try.prog.info? 91).getD default, by kernel_rfl, fun ρ => by kernel_rfl, by kernel_rfl, by kernel_rfl⟩
theorem zp93 : ZP Try.prog 93 (.nl .nilFunc) :=
  ⟨(Try.prog.info? 93).getD default, by kernel_rfl, fun ρ => by kernel_rfl, by kernel_rfl, by kernel_rfl⟩
theorem zp95 : ZP Try.prog 95 (.nl .nilFunc) :=
  ⟨(Try.prog.info? 95).getD default, by kernel_rfl, fun ρ => by kernel_rfl, by kernel_rfl, by kernel_rfl⟩
theorem zp96 : ZP Try.prog 96 (.nl .nilFunc) :=
  ⟨(Try.prog.info? 96).getD default, by kernel_rfl, fun ρ => by kernel_rfl, by kernel_rfl, by kernel_rfl⟩
theorem zp97 : ZP Try.prog 97 (.nl .nilFunc) :=
  ⟨(Try.prog.info? 97).getD default, by kernel_rfl, fun ρ => by kernel_rfl, by kernel_rfl, by kernel_rfl⟩
theorem zp99 : ZP Try.prog 99 (.nl .nilFunc) :=
  ⟨(Try.prog.info? 99).getD default, by kernel_rfl, fun ρ => by kernel_rfl, by kernel_rfl, by kernel_rfl⟩
theorem zp100 : ZP Try.prog 100 (.nl .nilFunc) :=
  ⟨(Try.prog.info? 100).getD default, by kernel_rfl, fun ρ => by kernel_rfl, by kernel_rfl, by kernel_rfl⟩
theorem zp101 : ZP Try.prog 101 (.nl .nilFunc) :=
  ⟨(Try.prog.info? 101).getD default, by kernel_rfl, fun ρ => by kernel_rfl, by kernel_rfl, by kernel_rfl⟩
theorem zp102 : ZP Try.prog 102 (.ag [.st ByteArray.empty, .cb false, .cb false, .cb false, .cb false, .ci .i64 0, .ci .i64 0]) :=
  ⟨(Try.prog.info? 102).getD default, by kernel_rfl, fun ρ => by kernel_rfl, by kernel_rfl, by kernel_rfl⟩
theorem zp103 : ZP Try.prog 103 (.ag [.st ByteArray.empty, .cb false, .cb false, .cb false, .cb false, .ci .i64 0, .ci .i64 0]) :=
  ⟨(Try.prog.info? 103).getD default, by kernel_rfl, fun ρ => by kernel_rfl, by kernel_rfl, by kernel_rfl⟩
theorem zp105 : ZP Try.prog 105 (.nl .nilFunc) :=
  ⟨(Try.prog.info? 105).getD default, by kernel_rfl, fun ρ => by kernel_rfl, by kernel_rfl, by kernel_rfl⟩
theorem zp106 : ZP Try.prog 106 (.nl .nilFunc) :=
  ⟨(Try.prog.info? 106).getD default, by kernel_rfl, fun ρ => by kernel_rfl, by kernel_rfl, by kernel_rfl⟩
theorem zp107 : ZP Try.prog 107 (.ag [.ag [.st ByteArray.empty, .cb false, .cb false, .cb false, .cb false, .ci .i64 0, .ci .i64 0], .ag [.st ByteArray.empty, .cb false, .cb false, .cb false, .cb false, .ci .i64 0, .ci .i64 0], .ag [.st ByteArray.empty, .cb false, .cb false, .cb false, .cb false, .ci .i64 0, .ci .i64 0], .ag [.st ByteArray.empty, .cb false, .cb false, .cb false, .cb false, .ci .i64 0, .ci .i64 0], .ag [.st ByteArray.empty, .cb false, .cb false, .cb false, .cb false, .ci .i64 0, .ci .i64 0], .ag [.st ByteArray.empty, .cb false, .cb false, .cb false, .cb false, .ci .i64 0, .ci .i64 0], .ag [.st ByteArray.empty, .cb false, .cb false, .cb false, .cb false, .ci .i64 0, .ci .i64 0], .ag [.st ByteArray.empty, .cb false, .cb false, .cb false, .cb false, .ci .i64 0, .ci .i64 0], .ag [.st ByteArray.empty, .cb false, .cb false, .cb false, .cb false, .ci .i64 0, .ci .i64 0], .ag [.st ByteArray.empty, .cb false, .cb false, .cb false, .cb false, .ci .i64 0, .ci .i64 0], .ag [.st ByteArray.empty, .cb false, .cb false, .cb false, .cb false, .ci .i64 0, .ci .i64 0]]) :=
  ⟨(Try.prog.info? 107).getD default, by kernel_rfl, fun ρ => by kernel_rfl, by kernel_rfl, by kernel_rfl⟩
theorem zp108 : ZP Try.prog 108 (.nl .nilFunc) :=
  ⟨(Try.prog.info? 108).getD default, by kernel_rfl, fun ρ => by kernel_rfl, by kernel_rfl, by kernel_rfl⟩
theorem zp109 : ZP Try.prog 109 (.nl .nilFunc) :=
  ⟨(Try.prog.info? 109).getD default, by kernel_rfl, fun ρ => by kernel_rfl, by kernel_rfl, by kernel_rfl⟩
theorem zp110 : ZP Try.prog 110 (.nl .nilFunc) :=
  ⟨(Try.prog.info? 110).getD default, by kernel_rfl, fun ρ => by kernel_rfl, by kernel_rfl, by kernel_rfl⟩
theorem zp113 : ZP Try.prog 113 (.ag []) :=
  ⟨(Try.prog.info? 113).getD default, by kernel_rfl, fun ρ => by kernel_rfl, by kernel_rfl, by kernel_rfl⟩
theorem zp114 : ZP Try.prog 114 (.ag [.ag []]) :=
  ⟨(Try.prog.info? 114).getD default, by kernel_rfl, fun ρ => by kernel_rfl, by kernel_rfl, by kernel_rfl⟩
theorem zp116 : ZP Try.prog 116 (.ci .u32 0) :=
  ⟨(Try.prog.info? 116).getD default, by kernel_rfl, fun ρ => by kernel_rfl, by kernel_rfl, by kernel_rfl⟩
theorem zp119 : ZP Try.prog 119 (.nl .nilFunc) :=
  ⟨(Try.prog.info? 119).getD default, by kernel_rfl, fun ρ => by kernel_rfl, by kernel_rfl, by kernel_rfl⟩
theorem zp120 : ZP Try.prog 120 (.nl (.pointer none)) :=
  ⟨(Try.prog.info? 120).getD default, by kernel_rfl, fun ρ => by kernel_rfl, by kernel_rfl, by kernel_rfl⟩
def zeroOf (t : Nat) : Option V := zf zl t
theorem zeroOf_ok : ∀ t v, zeroOf t = some v → ZP Try.prog t v :=
  zf_spec zl (by
    unfold zl
    simp only [List.mem_cons, List.not_mem_nil, or_false, forall_eq_or_imp, forall_eq]
    exact ⟨zp1, zp2, zp3, zp4, zp5, zp9, zp12, zp15, zp16, zp17, zp20, zp21, zp22, zp23, zp24, zp25, zp26, zp27, zp28, zp29, zp30, zp31, zp32, zp34, zp35, zp36, zp37, zp38, zp39, zp40, zp41, zp42, zp43, zp44, zp45, zp46, zp48, zp49, zp50, zp51, zp52, zp53, zp54, zp55, zp56, zp57, zp58, zp59, zp61, zp62, zp63, zp65, zp66, zp67, zp68, zp69, zp70, zp71, zp72, zp74, zp76, zp77, zp78, zp79, zp80, zp81, zp83, zp84, zp85, zp86, zp87, zp88, zp89, zp90, zp91, zp93, zp95, zp96, zp97, zp99, zp100, zp101, zp102, zp103, zp105, zp106, zp107, zp108, zp109, zp110, zp113, zp114, zp116, zp119, zp120⟩)
end Go.Proofs.Ytmkkkgimokeoaaa
