/- The zero values of this seat's types, by their numbers, and that they are the program's. No condition. Written by a program of the claimant's own. -/
import Derived.Test.YtjpcaplhblomcaaRows
import Derived.Test.YtjpcaplhblomcaaSx13
import Derived.KernelRfl
namespace Go.Proofs.Ytjpcaplhblomcaa
open Go.Sx
def zl : List (Nat × V) := [
  (1, .nl .nilFunc),
  (2, .ci .i64 0),
  (3, .ci .i64 0),
  (4, .cb false),
  (5, .ci .u8 0),
  (9, .st ByteArray.empty),
  (12, .ci .u64 0),
  (15, .nl (.pointer none)),
  (16, .nl (.pointer none)),
  (17, .nl (.pointer none)),
  (20, .nl .nilIface),
  (21, .ci .i32 0),
  (22, .nl (.slice none 0 0)),
  (23, .ci .i64 0),
  (24, .ci .i64 0),
  (25, .key void),
  (26, .key void),
  (27, .ag [.ci .i64 0, .key void, .key void]),
  (28, .ag [.ci .i64 0, .key void, .key void]),
  (29, .nl (.pointer none)),
  (30, .nl .nilFunc),
  (31, .nl .nilFunc),
  (32, .nl .nilFunc),
  (33, .nl .nilFunc),
  (34, .ci .i64 0),
  (36, .nl .nilFunc),
  (37, .nl .nilFunc),
  (38, .nl (.slice none 0 0)),
  (40, .nl .nilFunc),
  (41, .nl .nilFunc),
  (42, .ci .i64 0),
  (43, .sl noSlots),
  (44, .by noBytes),
  (45, .ob Sx.free),
  (46, .ob Sx.free),
  (48, .nl .nilFunc),
  (49, .nl .nilFunc),
  (50, .nl (.slice none 0 0)),
  (51, .ag [.nl (.slice none 0 0), .key void]),
  (52, .ag [.nl (.slice none 0 0), .key void]),
  (54, .nl .nilFunc),
  (55, .nl .nilFunc),
  (56, .nl .nilFunc),
  (57, .nl .nilFunc),
  (58, .ag [.ci .i64 0, .ci .i64 0, .key void, .key void]),
  (59, .ag [.ci .i64 0, .ci .i64 0, .key void, .key void]),
  (60, .nl (.slice none 0 0)),
  (61, .ag [.nl (.slice none 0 0)]),
  (62, .ag [.nl (.slice none 0 0)]),
  (63, .nl .nilFunc),
  (64, .nl (.slice none 0 0)),
  (66, .nl .nilFunc),
  (67, .nl .nilFunc),
  (68, .nl .nilFunc),
  (69, .nl .nilFunc),
  (71, .nl .nilFunc),
  (72, .nl .nilFunc),
  (73, .nl .nilFunc),
  (75, .nl .nilFunc),
  (77, .nl .nilFunc),
  (78, .nl .nilFunc),
  (79, .nl (.pointer none)),
  (80, .ag [.ob Sx.free, .nl (.pointer none), .key void]),
  (81, .ag [.ob Sx.free, .nl (.pointer none), .key void]),
  (82, .nl .nilFunc),
  (83, .nl .nilFunc),
  (84, .nl .nilFunc),
  (85, .nl .nilFunc),
  (86, .nl .nilFunc),
  (87, .nl (.pointer none)),
  (88, .nl .nilFunc),
  (89, .nl .nilFunc),
  (90, .nl .nilFunc),
  (91, .nl .nilFunc),
  (92, .nl .nilFunc),
  (93, .nl (.pointer none)),
  (95, .nl .nilFunc),
  (97, .nl .nilFunc),
  (99, .nl .nilFunc),
  (100, .nl .nilFunc),
  (101, .nl .nilFunc),
  (102, .nl .nilFunc),
  (103, .nl .nilFunc),
  (104, .nl .nilFunc),
  (105, .nl .nilFunc),
  (107, .nl .nilFunc),
  (108, .ag [.st ByteArray.empty, .cb false, .cb false, .cb false, .cb false, .ci .i64 0, .ci .i64 0]),
  (109, .ag [.st ByteArray.empty, .cb false, .cb false, .cb false, .cb false, .ci .i64 0, .ci .i64 0]),
  (111, .nl .nilFunc),
  (112, .nl .nilFunc),
  (113, .ag [.ci .i64 0]),
  (114, .ag [.ci .i64 0]),
  (115, .nl .nilFunc),
  (116, .nl .nilFunc),
  (117, .nl .nilFunc),
  (118, .nl .nilFunc),
  (119, .nl .nilFunc),
  (120, .nl .nilFunc),
  (121, .ag [.ag [.st ByteArray.empty, .cb false, .cb false, .cb false, .cb false, .ci .i64 0, .ci .i64 0], .ag [.st ByteArray.empty, .cb false, .cb false, .cb false, .cb false, .ci .i64 0, .ci .i64 0], .ag [.st ByteArray.empty, .cb false, .cb false, .cb false, .cb false, .ci .i64 0, .ci .i64 0], .ag [.st ByteArray.empty, .cb false, .cb false, .cb false, .cb false, .ci .i64 0, .ci .i64 0], .ag [.st ByteArray.empty, .cb false, .cb false, .cb false, .cb false, .ci .i64 0, .ci .i64 0], .ag [.st ByteArray.empty, .cb false, .cb false, .cb false, .cb false, .ci .i64 0, .ci .i64 0], .ag [.st ByteArray.empty, .cb false, .cb false, .cb false, .cb false, .ci .i64 0, .ci .i64 0], .ag [.st ByteArray.empty, .cb false, .cb false, .cb false, .cb false, .ci .i64 0, .ci .i64 0], .ag [.st ByteArray.empty, .cb false, .cb false, .cb false, .cb false, .ci .i64 0, .ci .i64 0], .ag [.st ByteArray.empty, .cb false, .cb false, .cb false, .cb false, .ci .i64 0, .ci .i64 0], .ag [.st ByteArray.empty, .cb false, .cb false, .cb false, .cb false, .ci .i64 0, .ci .i64 0]]),
  (122, .nl .nilFunc),
  (123, .nl .nilFunc),
  (125, .nl (.map none)),
  (126, .nl .nilFunc),
  (127, .nl .nilFunc),
  (128, .nl .nilFunc),
  (129, .nl .nilFunc),
  (132, .ag []),
  (133, .ag [.ag []]),
  (135, .ci .u32 0),
  (138, .nl .nilFunc),
  (139, .nl (.pointer none))]
theorem zp1 : ZP Try.prog 1 (.nl .nilFunc) :=
  ⟨(Try.prog.info? 1).getD default, by kernel_rfl, fun ρ => by kernel_rfl, by kernel_rfl, by kernel_rfl⟩
theorem zp2 : ZP Try.prog 2 (.ci .i64 0) :=
  ⟨(Try.prog.info? 2).getD default, by kernel_rfl, fun ρ => by kernel_rfl, by kernel_rfl, by kernel_rfl⟩
theorem zp3 : ZP Try.prog 3 (.ci .i64 0) :=
  ⟨(Try.prog.info? 3).getD default, by kernel_rfl, fun ρ => by kernel_rfl, by kernel_rfl, by kernel_rfl⟩
theorem zp4 : ZP Try.prog 4 (.cb false) :=
  ⟨(Try.prog.info? 4).getD default, by kernel_rfl, fun ρ => by kernel_rfl, by kernel_rfl, by kernel_rfl⟩
theorem zp5 : ZP Try.prog 5 (.ci .u8 0) :=
  ⟨(Try.prog.info? 5).getD default, by kernel_rfl, fun ρ => by kernel_rfl, by kernel_rfl, by kernel_rfl⟩
theorem zp9 : ZP Try.prog 9 (.st ByteArray.empty) :=
  ⟨(Try.prog.info? 9).getD default, by kernel_rfl, fun ρ => by kernel_rfl, by kernel_rfl, by kernel_rfl⟩
theorem zp12 : ZP Try.prog 12 (.ci .u64 0) :=
  ⟨(Try.prog.info? 12).getD default, by kernel_rfl, fun ρ => by kernel_rfl, by kernel_rfl, by kernel_rfl⟩
theorem zp15 : ZP Try.prog 15 (.nl (.pointer none)) :=
  ⟨(Try.prog.info? 15).getD default, by kernel_rfl, fun ρ => by kernel_rfl, by kernel_rfl, by kernel_rfl⟩
theorem zp16 : ZP Try.prog 16 (.nl (.pointer none)) :=
  ⟨(Try.prog.info? 16).getD default, by kernel_rfl, fun ρ => by kernel_rfl, by kernel_rfl, by kernel_rfl⟩
theorem zp17 : ZP Try.prog 17 (.nl (.pointer none)) :=
  ⟨(Try.prog.info? 17).getD default, by kernel_rfl, fun ρ => by kernel_rfl, by kernel_rfl, by kernel_rfl⟩
theorem zp20 : ZP Try.prog 20 (.nl .nilIface) :=
  ⟨(Try.prog.info? 20).getD default, by kernel_rfl, fun ρ => by kernel_rfl, by kernel_rfl, by kernel_rfl⟩
theorem zp21 : ZP Try.prog 21 (.ci .i32 0) :=
  ⟨(Try.prog.info? 21).getD default, by kernel_rfl, fun ρ => by kernel_rfl, by kernel_rfl, by kernel_rfl⟩
theorem zp22 : ZP Try.prog 22 (.nl (.slice none 0 0)) :=
  ⟨(Try.prog.info? 22).getD default, by kernel_rfl, fun ρ => by kernel_rfl, by kernel_rfl, by kernel_rfl⟩
theorem zp23 : ZP Try.prog 23 (.ci .i64 0) :=
  ⟨(Try.prog.info? 23).getD default, by kernel_rfl, fun ρ => by kernel_rfl, by kernel_rfl, by kernel_rfl⟩
theorem zp24 : ZP Try.prog 24 (.ci .i64 0) :=
  ⟨(Try.prog.info? 24).getD default, by kernel_rfl, fun ρ => by kernel_rfl, by kernel_rfl, by kernel_rfl⟩
theorem zp25 : ZP Try.prog 25 (.key void) :=
  ⟨(Try.prog.info? 25).getD default, by kernel_rfl, fun ρ => by kernel_rfl, by kernel_rfl, by kernel_rfl⟩
theorem zp26 : ZP Try.prog 26 (.key void) :=
  ⟨(Try.prog.info? 26).getD default, by kernel_rfl, fun ρ => by kernel_rfl, by kernel_rfl, by kernel_rfl⟩
theorem zp27 : ZP Try.prog 27 (.ag [.ci .i64 0, .key void, .key void]) :=
  ⟨(Try.prog.info? 27).getD default, by kernel_rfl, fun ρ => by kernel_rfl, by kernel_rfl, by kernel_rfl⟩
theorem zp28 : ZP Try.prog 28 (.ag [.ci .i64 0, .key void, .key void]) :=
  ⟨(Try.prog.info? 28).getD default, by kernel_rfl, fun ρ => by kernel_rfl, by kernel_rfl, by kernel_rfl⟩
theorem zp29 : ZP Try.prog 29 (.nl (.pointer none)) :=
  ⟨(Try.prog.info? 29).getD default, by kernel_rfl, fun ρ => by kernel_rfl, by kernel_rfl, by kernel_rfl⟩
theorem zp30 : ZP Try.prog 30 (.nl .nilFunc) :=
  ⟨(Try.prog.info? 30).getD default, by kernel_rfl, fun ρ => by kernel_rfl, by kernel_rfl, by kernel_rfl⟩
theorem zp31 : ZP Try.prog 31 (.nl .nilFunc) :=
  ⟨(Try.prog.info? 31).getD default, by kernel_rfl, fun ρ => by kernel_rfl, by kernel_rfl, by kernel_rfl⟩
theorem zp32 : ZP Try.prog 32 (.nl .nilFunc) :=
  ⟨(Try.prog.info? 32).getD default, by kernel_rfl, fun ρ => by kernel_rfl, by kernel_rfl, by kernel_rfl⟩
theorem zp33 : ZP Try.prog 33 (.nl .nilFunc) :=
  ⟨(Try.prog.info? 33).getD default, by kernel_rfl, fun ρ => by kernel_rfl, by kernel_rfl, by kernel_rfl⟩
theorem zp34 : ZP Try.prog 34 (.ci .i64 0) :=
  ⟨(Try.prog.info? 34).getD default, by kernel_rfl, fun ρ => by kernel_rfl, by kernel_rfl, by kernel_rfl⟩
theorem zp36 : ZP Try.prog 36 (.nl .nilFunc) :=
  ⟨(Try.prog.info? 36).getD default, by kernel_rfl, fun ρ => by kernel_rfl, by kernel_rfl, by kernel_rfl⟩
theorem zp37 : ZP Try.prog 37 (.nl .nilFunc) :=
  ⟨(Try.prog.info? 37).getD default, by kernel_rfl, fun ρ => by kernel_rfl, by kernel_rfl, by kernel_rfl⟩
theorem zp38 : ZP Try.prog 38 (.nl (.slice none 0 0)) :=
  ⟨(Try.prog.info? 38).getD default, by kernel_rfl, fun ρ => by kernel_rfl, by kernel_rfl, by kernel_rfl⟩
theorem zp40 : ZP Try.prog 40 (.nl .nilFunc) :=
  ⟨(Try.prog.info? 40).getD default, by kernel_rfl, fun ρ => by kernel_rfl, by kernel_rfl, by kernel_rfl⟩
theorem zp41 : ZP Try.prog 41 (.nl .nilFunc) :=
  ⟨(Try.prog.info? 41).getD default, by kernel_rfl, fun ρ => by kernel_rfl, by kernel_rfl, by kernel_rfl⟩
theorem zp42 : ZP Try.prog 42 (.ci .i64 0) :=
  ⟨(Try.prog.info? 42).getD default, by kernel_rfl, fun ρ => by kernel_rfl, by kernel_rfl, by kernel_rfl⟩
theorem zp43 : ZP Try.prog 43 (.sl noSlots) :=
  ⟨(Try.prog.info? 43).getD default, by kernel_rfl, fun ρ => by kernel_rfl, by kernel_rfl, by kernel_rfl⟩
theorem zp44 : ZP Try.prog 44 (.by noBytes) :=
  ⟨(Try.prog.info? 44).getD default, by kernel_rfl, fun ρ => by kernel_rfl, by kernel_rfl, by kernel_rfl⟩
theorem zp45 : ZP Try.prog 45 (.ob Sx.free) :=
  ⟨(Try.prog.info? 45).getD default, by kernel_rfl, fun ρ => by kernel_rfl, by kernel_rfl, by kernel_rfl⟩
theorem zp46 : ZP Try.prog 46 (.ob Sx.free) :=
  ⟨(Try.prog.info? 46).getD default, by kernel_rfl, fun ρ => by kernel_rfl, by kernel_rfl, by kernel_rfl⟩
theorem zp48 : ZP Try.prog 48 (.nl .nilFunc) :=
  ⟨(Try.prog.info? 48).getD default, by kernel_rfl, fun ρ => by kernel_rfl, by kernel_rfl, by kernel_rfl⟩
theorem zp49 : ZP Try.prog 49 (.nl .nilFunc) :=
  ⟨(Try.prog.info? 49).getD default, by kernel_rfl, fun ρ => by kernel_rfl, by kernel_rfl, by kernel_rfl⟩
theorem zp50 : ZP Try.prog 50 (.nl (.slice none 0 0)) :=
  ⟨(Try.prog.info? 50).getD default, by kernel_rfl, fun ρ => by kernel_rfl, by kernel_rfl, by kernel_rfl⟩
theorem zp51 : ZP Try.prog 51 (.ag [.nl (.slice none 0 0), .key void]) :=
  ⟨(Try.prog.info? 51).getD default, by kernel_rfl, fun ρ => by kernel_rfl, by kernel_rfl, by kernel_rfl⟩
theorem zp52 : ZP Try.prog 52 (.ag [.nl (.slice none 0 0), .key void]) :=
  ⟨(Try.prog.info? 52).getD default, by kernel_rfl, fun ρ => by kernel_rfl, by kernel_rfl, by kernel_rfl⟩
theorem zp54 : ZP Try.prog 54 (.nl .nilFunc) :=
  ⟨(Try.prog.info? 54).getD default, by kernel_rfl, fun ρ => by kernel_rfl, by kernel_rfl, by kernel_rfl⟩
theorem zp55 : ZP Try.prog 55 (.nl .nilFunc) :=
  ⟨(Try.prog.info? 55).getD default, by kernel_rfl, fun ρ => by kernel_rfl, by kernel_rfl, by kernel_rfl⟩
theorem zp56 : ZP Try.prog 56 (.nl .nilFunc) :=
  ⟨(Try.prog.info? 56).getD default, by kernel_rfl, fun ρ => by kernel_rfl, by kernel_rfl, by kernel_rfl⟩
theorem zp57 : ZP Try.prog 57 (.nl .nilFunc) :=
  ⟨(Try.prog.info? 57).getD default, by kernel_rfl, fun ρ => by kernel_rfl, by kernel_rfl, by kernel_rfl⟩
theorem zp58 : ZP Try.prog 58 (.ag [.ci .i64 0, .ci .i64 0, .key void, .key void]) :=
  ⟨(Try.prog.info? 58).getD default, by kernel_rfl, fun ρ => by kernel_rfl, by kernel_rfl, by kernel_rfl⟩
theorem zp59 : ZP Try.prog 59 (.ag [.ci .i64 0, .ci .i64 0, .key void, .key void]) :=
  ⟨(Try.prog.info? 59).getD default, by kernel_rfl, fun ρ => by kernel_rfl, by kernel_rfl, by kernel_rfl⟩
theorem zp60 : ZP Try.prog 60 (.nl (.slice none 0 0)) :=
  ⟨(Try.prog.info? 60).getD default, by kernel_rfl, fun ρ => by kernel_rfl, by kernel_rfl, by kernel_rfl⟩
theorem zp61 : ZP Try.prog 61 (.ag [.nl (.slice none 0 0)]) :=
  ⟨(Try.prog.info? 61).getD default, by kernel_rfl, fun ρ => by kernel_rfl, by kernel_rfl, by kernel_rfl⟩
theorem zp62 : ZP Try.prog 62 (.ag [.nl (.slice none 0 0)]) :=
  ⟨(Try.prog.info? 62).getD default, by kernel_rfl, fun ρ => by kernel_rfl, by kernel_rfl, by kernel_rfl⟩
theorem zp63 : ZP Try.prog 63 (.nl .nilFunc) :=
  ⟨(Try.prog.info? 63).getD default, by kernel_rfl, fun ρ => by kernel_rfl, by kernel_rfl, by kernel_rfl⟩
theorem zp64 : ZP Try.prog 64 (.nl (.slice none 0 0)) :=
  ⟨(Try.prog.info? 64).getD default, by kernel_rfl, fun ρ => by kernel_rfl, by kernel_rfl, by kernel_rfl⟩
theorem zp66 : ZP Try.prog 66 (.nl .nilFunc) :=
  ⟨(Try.prog.info? 66).getD default, by kernel_rfl, fun ρ => by kernel_rfl, by kernel_rfl, by kernel_rfl⟩
theorem zp67 : ZP Try.prog 67 (.nl .nilFunc) :=
  ⟨(Try.prog.info? 67).getD default, by kernel_rfl, fun ρ => by kernel_rfl, by kernel_rfl, by kernel_rfl⟩
theorem zp68 : ZP Try.prog 68 (.nl .nilFunc) :=
  ⟨(Try.prog.info? 68).getD default, by kernel_rfl, fun ρ => by kernel_rfl, by kernel_rfl, by kernel_rfl⟩
theorem zp69 : ZP Try.prog 69 (.nl .nilFunc) :=
  ⟨(Try.prog.info? 69).getD default, by kernel_rfl, fun ρ => by kernel_rfl, by kernel_rfl, by kernel_rfl⟩
theorem zp71 : ZP Try.prog 71 (.nl .nilFunc) :=
  ⟨(Try.prog.info? 71).getD default, by kernel_rfl, fun ρ => by kernel_rfl, by kernel_rfl, by kernel_rfl⟩
theorem zp72 : ZP Try.prog 72 (.nl .nilFunc) :=
  ⟨(Try.prog.info? 72).getD default, by kernel_rfl, fun ρ => by kernel_rfl, by kernel_rfl, by kernel_rfl⟩
theorem zp73 : ZP Try.prog 73 (.nl .nilFunc) :=
  ⟨(Try.prog.info? 73).getD default, by kernel_rfl, fun ρ => by kernel_rfl, by kernel_rfl, by kernel_rfl⟩
theorem zp75 : ZP Try.prog 75 (.nl .nilFunc) :=
  ⟨(Try.prog.info? 75).getD default, by kernel_rfl, fun ρ => by kernel_rfl, by kernel_rfl, by kernel_rfl⟩
theorem zp77 : ZP Try.prog 77 (.nl .nilFunc) :=
  ⟨(Try.prog.info? 77).getD default, by kernel_rfl, fun ρ => by kernel_rfl, by kernel_rfl, by kernel_rfl⟩
theorem zp78 : ZP Try.prog 78 (.nl .nilFunc) :=
  ⟨(Try.prog.info? 78).getD default, by kernel_rfl, fun ρ => by kernel_rfl, by kernel_rfl, by kernel_rfl⟩
theorem zp79 : ZP Try.prog 79 (.nl (.pointer none)) :=
  ⟨(Try.prog.info? 79).getD default, by kernel_rfl, fun ρ => by kernel_rfl, by kernel_rfl, by kernel_rfl⟩
theorem zp80 : ZP Try.prog 80 (.ag [.ob Sx.free, .nl (.pointer none), .key void]) :=
  ⟨(Try.prog.info? 80).getD default, by kernel_rfl, fun ρ => by kernel_rfl, by kernel_rfl, by kernel_rfl⟩
theorem zp81 : ZP Try.prog 81 (.ag [.ob Sx.free, .nl (.pointer none), .key void]) :=
  ⟨(Try.prog.info? 81).getD default, by kernel_rfl, fun ρ => by kernel_rfl, by kernel_rfl, by kernel_rfl⟩
theorem zp82 : ZP Try.prog 82 (.nl .nilFunc) :=
  ⟨(Try.prog.info? 82).getD default, by kernel_rfl, fun ρ => by kernel_rfl, by kernel_rfl, by kernel_rfl⟩
theorem zp83 : ZP Try.prog 83 (.nl .nilFunc) :=
  ⟨(Try.prog.info? 83).getD default, by kernel_rfl, fun ρ => by kernel_rfl, by kernel_rfl, by kernel_rfl⟩
theorem zp84 : ZP Try.prog 84 (.nl .nilFunc) :=
  ⟨(Try.prog.info? 84).getD default, by kernel_rfl, fun ρ => by kernel_rfl, by kernel_rfl, by kernel_rfl⟩
theorem zp85 : ZP Try.prog 85 (.nl .nilFunc) :=
  ⟨(Try.prog.info? 85).getD default, by kernel_rfl, fun ρ => by kernel_rfl, by kernel_rfl, by kernel_rfl⟩
theorem zp86 : ZP Try.prog 86 (.nl .nilFunc) :=
  ⟨(Try.prog.info? 86).getD default, by kernel_rfl, fun ρ => by kernel_rfl, by kernel_rfl, by kernel_rfl⟩
theorem zp87 : ZP Try.prog 87 (.nl (.pointer none)) :=
  ⟨(Try.prog.info? 87).getD default, by kernel_rfl, fun ρ => by kernel_rfl, by kernel_rfl, by kernel_rfl⟩
theorem zp88 : ZP Try.prog 88 (.nl .nilFunc) :=
  ⟨(Try.prog.info? 88).getD default, by kernel_rfl, fun ρ => by kernel_rfl, by kernel_rfl, by kernel_rfl⟩
theorem zp89 : ZP Try.prog 89 (.nl .nilFunc) :=
  ⟨(Try.prog.info? 89).getD default, by kernel_rfl, fun ρ => by kernel_rfl, by kernel_rfl, by kernel_rfl⟩
theorem zp90 : ZP Try.prog 90 (.nl .nilFunc) :=
  ⟨(Try.prog.info? 90).getD default, by kernel_rfl, fun ρ => by kernel_rfl, by kernel_rfl, by kernel_rfl⟩
theorem zp91 : ZP Try.prog 91 (.nl .nilFunc) :=
  ⟨(Try.prog.info? 91).getD default, by kernel_rfl, fun ρ => by kernel_rfl, by kernel_rfl, by kernel_rfl⟩
theorem zp92 : ZP Try.prog 92 (.nl .nilFunc) :=
  ⟨(Try.prog.info? 92).getD default, by kernel_rfl, fun ρ => by kernel_rfl, by kernel_rfl, by kernel_rfl⟩
theorem zp93 : ZP Try.prog 93 (.nl (.pointer none)) :=
  ⟨(Try.prog.info? 93).getD default, by kernel_rfl, fun ρ => by kernel_rfl, by kernel_rfl, by kernel_rfl⟩
theorem zp95 : ZP Try.prog 95 (.nl .nilFunc) :=
  ⟨(Try.prog.info? 95).getD default, by kernel_rfl, fun ρ => by kernel_rfl, by kernel_rfl, by kernel_rfl⟩
theorem zp97 : ZP Try.prog 97 (.nl .nilFunc) :=
  ⟨(Try.prog.info? 97).getD default, by kernel_rfl, fun ρ => by kernel_rfl, by kernel_rfl, by kernel_rfl⟩
theorem zp99 : ZP Try.prog 99 (.nl .nilFunc) :=
  ⟨(Try.prog.info? 99).getD default, by kernel_rfl, fun ρ => by kernel_rfl, by kernel_rfl, by kernel_rfl⟩
theorem zp100 : ZP Try.prog 100 (.nl .nilFunc) :=
  ⟨(Try.prog.info? 100).getD default, by kernel_rfl, fun ρ => by kernel_rfl, by kernel_rfl, by kernel_rfl⟩
theorem zp101 : ZP Try.prog 101 (.nl .nilFunc) :=
  ⟨(Try.prog.info? 101).getD default, by kernel_rfl, fun ρ => by kernel_rfl, by kernel_rfl, by kernel_rfl⟩
theorem zp102 : ZP Try.prog 102 (.nl .nilFunc) :=
  ⟨(Try.prog.info? 102).getD default, by kernel_rfl, fun ρ => by kernel_rfl, by kernel_rfl, by kernel_rfl⟩
theorem zp103 : ZP Try.prog 103 (.nl .nilFunc) :=
  ⟨(Try.prog.info? 103).getD default, by kernel_rfl, fun ρ => by kernel_rfl, by kernel_rfl, by kernel_rfl⟩
theorem zp104 : ZP Try.prog 104 (.nl .nilFunc) :=
  ⟨(Try.prog.info? 104).getD default, by kernel_rfl, fun ρ => by kernel_rfl, by kernel_rfl, by kernel_rfl⟩
theorem zp105 : ZP Try.prog 105 (.nl .nilFunc) :=
  ⟨(Try.prog.info? 105).getD default, by kernel_rfl, fun ρ => by kernel_rfl, by kernel_rfl, by kernel_rfl⟩
theorem zp107 : ZP Try.prog 107 (.nl .nilFunc) :=
  ⟨(Try.prog.info? 107).getD default, by kernel_rfl, fun ρ => by kernel_rfl, by kernel_rfl, by kernel_rfl⟩
theorem zp108 : ZP Try.prog 108 (.ag [.st ByteArray.empty, .cb false, .cb false, .cb false, .cb false, .ci .i64 0, .ci .i64 0]) :=
  ⟨(Try.prog.info? 108).getD default, by kernel_rfl, fun ρ => by kernel_rfl, by kernel_rfl, by kernel_rfl⟩
theorem zp109 : ZP Try.prog 109 (.ag [.st ByteArray.empty, .cb false, .cb false, .cb false, .cb false, .ci .i64 0, .ci .i64 0]) :=
  ⟨(Try.prog.info? 109).getD default, by kernel_rfl, fun ρ => by kernel_rfl, by kernel_rfl, by kernel_rfl⟩
theorem zp111 : ZP Try.prog 111 (.nl .nilFunc) :=
  ⟨(Try.prog.info? 111).getD default, by kernel_rfl, fun ρ => by kernel_rfl, by kernel_rfl, by kernel_rfl⟩
theorem zp112 : ZP Try.prog 112 (.nl .nilFunc) :=
  ⟨(Try.prog.info? 112).getD default, by kernel_rfl, fun ρ => by kernel_rfl, by kernel_rfl, by kernel_rfl⟩
theorem zp113 : ZP Try.prog 113 (.ag [.ci .i64 0]) :=
  ⟨(Try.prog.info? 113).getD default, by kernel_rfl, fun ρ => by kernel_rfl, by kernel_rfl, by kernel_rfl⟩
theorem zp114 : ZP Try.prog 114 (.ag [.ci .i64 0]) :=
  ⟨(Try.prog.info? 114).getD default, by kernel_rfl, fun ρ => by kernel_rfl, by kernel_rfl, by kernel_rfl⟩
theorem zp115 : ZP Try.prog 115 (.nl .nilFunc) :=
  ⟨(Try.prog.info? 115).getD default, by kernel_rfl, fun ρ => by kernel_rfl, by kernel_rfl, by kernel_rfl⟩
theorem zp116 : ZP Try.prog 116 (.nl .nilFunc) :=
  ⟨(Try.prog.info? 116).getD default, by kernel_rfl, fun ρ => by kernel_rfl, by kernel_rfl, by kernel_rfl⟩
theorem zp117 : ZP Try.prog 117 (.nl .nilFunc) :=
  ⟨(Try.prog.info? 117).getD default, by kernel_rfl, fun ρ => by kernel_rfl, by kernel_rfl, by kernel_rfl⟩
theorem zp118 : ZP Try.prog 118 (.nl .nilFunc) :=
  ⟨(Try.prog.info? 118).getD default, by kernel_rfl, fun ρ => by kernel_rfl, by kernel_rfl, by kernel_rfl⟩
theorem zp119 : ZP Try.prog 119 (.nl .nilFunc) :=
  ⟨(Try.prog.info? 119).getD default, by kernel_rfl, fun ρ => by kernel_rfl, by kernel_rfl, by kernel_rfl⟩
theorem zp120 : ZP Try.prog 120 (.nl .nilFunc) :=
  ⟨(Try.prog.info? 120).getD default, by kernel_rfl, fun ρ => by kernel_rfl, by kernel_rfl, by kernel_rfl⟩
theorem zp121 : ZP Try.prog 121 (.ag [.ag [.st ByteArray.empty, .cb false, .cb false, .cb false, .cb false, .ci .i64 0, .ci .i64 0], .ag [.st ByteArray.empty, .cb false, .cb false, .cb false, .cb false, .ci .i64 0, .ci .i64 0], .ag [.st ByteArray.empty, .cb false, .cb false, .cb false, .cb false, .ci .i64 0, .ci .i64 0], .ag [.st ByteArray.empty, .cb false, .cb false, .cb false, .cb false, .ci .i64 0, .ci .i64 0], .ag [.st ByteArray.empty, .cb false, .cb false, .cb false, .cb false, .ci .i64 0, .ci .i64 0], .ag [.st ByteArray.empty, .cb false, .cb false, .cb false, .cb false, .ci .i64 0, .ci .i64 0], .ag [.st ByteArray.empty, .cb false, .cb false, .cb false, .cb false, .ci .i64 0, .ci .i64 0], .ag [.st ByteArray.empty, .cb false, .cb false, .cb false, .cb false, .ci .i64 0, .ci .i64 0], .ag [.st ByteArray.empty, .cb false, .cb false, .cb false, .cb false, .ci .i64 0, .ci .i64 0], .ag [.st ByteArray.empty, .cb false, .cb false, .cb false, .cb false, .ci .i64 0, .ci .i64 0], .ag [.st ByteArray.empty, .cb false, .cb false, .cb false, .cb false, .ci .i64 0, .ci .i64 0]]) :=
  ⟨(Try.prog.info? 121).getD default, by kernel_rfl, fun ρ => by kernel_rfl, by kernel_rfl, by kernel_rfl⟩
theorem zp122 : ZP Try.prog 122 (.nl .nilFunc) :=
  ⟨(Try.prog.info? 122).getD default, by kernel_rfl, fun ρ => by kernel_rfl, by kernel_rfl, by kernel_rfl⟩
theorem zp123 : ZP Try.prog 123 (.nl .nilFunc) :=
  ⟨(Try.prog.info? 123).getD default, by kernel_rfl, fun ρ => by kernel_rfl, by kernel_rfl, by kernel_rfl⟩
theorem zp125 : ZP Try.prog 125 (.nl (.map none)) :=
  ⟨(Try.prog.info? 125).getD default, by kernel_rfl, fun ρ => by kernel_rfl, by kernel_rfl, by kernel_rfl⟩
theorem zp126 : ZP Try.prog 126 (.nl .nilFunc) :=
  ⟨(Try.prog.info? 126).getD default, by kernel_rfl, fun ρ => by kernel_rfl, by kernel_rfl, by kernel_rfl⟩
theorem zp127 : ZP Try.prog 127 (.nl .nilFunc) :=
  ⟨(Try.prog.info? 127).getD default, by kernel_rfl, fun ρ => by kernel_rfl, by kernel_rfl, by kernel_rfl⟩
theorem zp128 : ZP Try.prog 128 (.nl .nilFunc) :=
  ⟨(Try.prog.info? 128).getD default, by kernel_rfl, fun ρ => by kernel_rfl, by kernel_rfl, by kernel_rfl⟩
theorem zp129 : ZP Try.prog 129 (.nl .nilFunc) :=
  ⟨(Try.prog.info? 129).getD default, by kernel_rfl, fun ρ => by kernel_rfl, by kernel_rfl, by kernel_rfl⟩
theorem zp132 : ZP Try.prog 132 (.ag []) :=
  ⟨(Try.prog.info? 132).getD default, by kernel_rfl, fun ρ => by kernel_rfl, by kernel_rfl, by kernel_rfl⟩
theorem zp133 : ZP Try.prog 133 (.ag [.ag []]) :=
  ⟨(Try.prog.info? 133).getD default, by kernel_rfl, fun ρ => by kernel_rfl, by kernel_rfl, by kernel_rfl⟩
theorem zp135 : ZP Try.prog 135 (.ci .u32 0) :=
  ⟨(Try.prog.info? 135).getD default, by kernel_rfl, fun ρ => by kernel_rfl, by kernel_rfl, by kernel_rfl⟩
theorem zp138 : ZP Try.prog 138 (.nl .nilFunc) :=
  ⟨(Try.prog.info? 138).getD default, by kernel_rfl, fun ρ => by kernel_rfl, by kernel_rfl, by kernel_rfl⟩
theorem zp139 : ZP Try.prog 139 (.nl (.pointer none)) :=
  ⟨(Try.prog.info? 139).getD default, by kernel_rfl, fun ρ => by kernel_rfl, by kernel_rfl, by kernel_rfl⟩
def zeroOf (t : Nat) : Option V := zf zl t
theorem zeroOf_ok : ∀ t v, zeroOf t = some v → ZP Try.prog t v :=
  zf_spec zl (by
    unfold zl
    simp only [List.mem_cons, List.not_mem_nil, or_false, forall_eq_or_imp, forall_eq]
    exact ⟨zp1, zp2, zp3, zp4, zp5, zp9, zp12, zp15, zp16, zp17, zp20, zp21, zp22, zp23, zp24, zp25, zp26, zp27, zp28, zp29, zp30, zp31, zp32, zp33, zp34, zp36, zp37, zp38, zp40, zp41, zp42, zp43, zp44, zp45, zp46, zp48, zp49, zp50, zp51, zp52, zp54, zp55, zp56, zp57, zp58, zp59, zp60, zp61, zp62, zp63, zp64, zp66, zp67, zp68, zp69, zp71, zp72, zp73, zp75, zp77, zp78, zp79, zp80, zp81, zp82, zp83, zp84, zp85, zp86, zp87, zp88, zp89, zp90, zp91, zp92, zp93, zp95, zp97, zp99, zp100, zp101, zp102, zp103, zp104, zp105, zp107, zp108, zp109, zp111, zp112, zp113, zp114, zp115, zp116, zp117, zp118, zp119, zp120, zp121, zp122, zp123, zp125, zp126, zp127, zp128, zp129, zp132, zp133, zp135, zp138, zp139⟩)
end Go.Proofs.Ytjpcaplhblomcaa
