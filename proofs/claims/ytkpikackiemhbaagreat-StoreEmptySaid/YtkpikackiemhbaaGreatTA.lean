import Derived.Test.YtkpikackiemhbaaGreatProg
import Derived.KernelRfl
import Derived.Test.YtkpikackiemhbaaGreatCE
set_option linter.all false
set_option maxRecDepth 1000000
set_option maxHeartbeats 8000000
namespace Go.C
open Go.Sx Go.Cx Go.Proofs
def y1 : Ti := ⟨false, false, 1, 8, [.nilFunc], .fn⟩
def y2 : Ti := ⟨false, false, 1, 8, [.int .i64 0], (.int .i64)⟩
def y3 : Ti := ⟨false, false, 1, 8, [.int .i64 0], (.int .i64)⟩
def y4 : Ti := ⟨false, false, 1, 1, [.bool false], .bool⟩
def y5 : Ti := ⟨false, false, 1, 1, [.int .u8 0], (.int .u8)⟩
def y9 : Ti := ⟨false, false, 1, 16, [.string ⟨#[]⟩], .str⟩
def y21 : Ti := ⟨false, false, 1, 4, [.int .i32 0], (.int .i32)⟩
def y24 : Ti := ⟨false, false, 1, 8, [.pointer none], (.ptr 81)⟩
def y25 : Ti := ⟨false, false, 1, 8, [.int .i64 0], (.int .i64)⟩
def y28 : Ti := ⟨false, false, 1, 24, [.slice none 0 0], (.slc 32)⟩
def y30 : Ti := ⟨false, true, 32, 32, (List.replicate 32 (.int .u8 0)), (.arr 32 5)⟩
def y32 : Ti := ⟨false, true, 33, 40, [.int .i64 0, .int .u8 0, .int .u8 0, .int .u8 0, .int .u8 0, .int .u8 0, .int .u8 0, .int .u8 0, .int .u8 0, .int .u8 0, .int .u8 0, .int .u8 0, .int .u8 0, .int .u8 0, .int .u8 0, .int .u8 0, .int .u8 0, .int .u8 0, .int .u8 0, .int .u8 0, .int .u8 0, .int .u8 0, .int .u8 0, .int .u8 0, .int .u8 0, .int .u8 0, .int .u8 0, .int .u8 0, .int .u8 0, .int .u8 0, .int .u8 0, .int .u8 0, .int .u8 0], (.strct [(3, 0), (30, 1)])⟩
def y33 : Ti := ⟨false, false, 1, 24, [.slice none 0 0], (.slc 36)⟩
def y36 : Ti := ⟨true, true, 4, 32, [.int .i64 0, .int .i64 0, .int .i64 0, .int .i64 0], (.strct [(3, 0), (3, 1), (3, 2), (3, 3)])⟩
def y38 : Ti := ⟨false, false, 1, 8, [.pointer none], (.ptr 53)⟩
def y40 : Ti := ⟨false, false, 1, 24, [.slice none 0 0], (.slc 161)⟩
def y41 : Ti := ⟨false, false, 1, 24, [.slice none 0 0], (.slc 145)⟩
def y42 : Ti := ⟨false, false, 1, 24, [.slice none 0 0], (.slc 238)⟩
def y44 : Ti := ⟨false, true, 2, 48, [.slice none 0 0, .slice none 0 0], (.strct [(42, 0), (42, 1)])⟩
def y46 : Ti := ⟨false, true, 4, 96, [.slice none 0 0, .slice none 0 0, .slice none 0 0, .slice none 0 0], (.strct [(40, 0), (41, 1), (44, 2)])⟩
def y49 : Ti := ⟨false, false, 1, 8, [.pointer none], (.ptr 211)⟩
def y50 : Ti := ⟨false, false, 1, 8, [.pointer none], (.ptr 157)⟩
def y51 : Ti := ⟨false, false, 1, 8, [.pointer none], (.ptr 219)⟩
def y53 : Ti := ⟨false, true, 4, 32, [.pointer none, .pointer none, .pointer none, .pointer none], (.strct [(24, 0), (49, 1), (50, 2), (51, 3)])⟩
def y55 : Ti := ⟨false, false, 1, 24, [.slice none 0 0], (.slc 196)⟩
def y61 : Ti := ⟨false, false, 1, 24, [.slice none 0 0], (.slc 104)⟩
def y62 : Ti := ⟨false, false, 1, 24, [.slice none 0 0], (.slc 265)⟩
def y63 : Ti := ⟨false, false, 1, 24, [.slice none 0 0], (.slc 61)⟩
def y65 : Ti := ⟨false, true, 4, 80, [.int .i64 0, .slice none 0 0, .slice none 0 0, .slice none 0 0], (.strct [(3, 0), (61, 1), (62, 2), (63, 3)])⟩
def y68 : Ti := ⟨false, false, 1, 24, [.slice none 0 0], (.slc 270)⟩
def y70 : Ti := ⟨true, true, 0, 0, [], (.strct [])⟩
def y71 : Ti := ⟨true, true, 0, 0, [], (.strct [])⟩
def y73 : Ti := ⟨false, true, 1, 8, [.int .i64 0], (.strct [(70, 0), (71, 0), (2, 0)])⟩
def y74 : Ti := ⟨false, false, 1, 4, [.int .u32 0], (.int .u32)⟩
def y76 : Ti := ⟨false, true, 1, 4, [.int .u32 0], (.strct [(70, 0), (74, 0)])⟩
def y78 : Ti := ⟨false, true, 2, 16, [.int .i64 0, .int .u32 0], (.strct [(73, 0), (76, 1)])⟩
def y79 : Ti := ⟨false, false, 1, 24, [.slice none 0 0], (.slc 412)⟩
def y81 : Ti := ⟨false, true, 5, 88, [.int .i64 0, .int .u32 0, .slice none 0 0, .slice none 0 0, .slice none 0 0], (.strct [(78, 0), (68, 2), (68, 3), (79, 4)])⟩
def y82 : Ti := ⟨false, false, 1, 8, [.pointer none], (.ptr 93)⟩
def y83 : Ti := ⟨false, false, 1, 8, [.map none], (.mp 3 30)⟩
def y84 : Ti := ⟨true, true, 0, 0, [], (.strct [])⟩
def y86 : Ti := ⟨true, true, 2, 8, [.int .i32 0, .int .u32 0], (.strct [(21, 0), (74, 1)])⟩
def y88 : Ti := ⟨false, true, 2, 8, [.int .i32 0, .int .u32 0], (.strct [(84, 0), (86, 0)])⟩
def y90 : Ti := ⟨false, true, 3, 12, [.int .u32 0, .int .i32 0, .int .u32 0], (.strct [(84, 0), (76, 0), (88, 1)])⟩
def y91 : Ti := ⟨false, false, 1, 24, [.slice none 0 0], (.slc 30)⟩
def y93 : Ti := ⟨false, true, 12, 200, [.int .u32 0, .int .i32 0, .int .u32 0, .slice none 0 0, .slice none 0 0, .slice none 0 0, .slice none 0 0, .slice none 0 0, .int .i64 0, .slice none 0 0, .slice none 0 0, .map none], (.strct [(90, 0), (33, 3), (46, 4), (3, 8), (91, 9), (62, 10), (83, 11)])⟩
def y94 : Ti := ⟨false, false, 1, 24, [.slice none 0 0], (.slc 98)⟩
def y98 : Ti := ⟨false, false, 1, 24, [.slice none 0 0], (.slc 5)⟩
def y99 : Ti := ⟨false, false, 1, 24, [.slice none 0 0], (.slc 277)⟩
def y101 : Ti := ⟨false, true, 4, 56, [.string ⟨#[]⟩, .slice none 0 0, .int .i64 0, .bool false], (.strct [(9, 0), (99, 1), (3, 2), (4, 3)])⟩
def y102 : Ti := ⟨false, false, 1, 24, [.slice none 0 0], (.slc 198)⟩
def y104 : Ti := ⟨false, true, 2, 32, [.int .i64 0, .slice none 0 0], (.strct [(3, 0), (102, 1)])⟩
def y106 : Ti := ⟨false, true, 68, 128, [.int .i64 0, .slice none 0 0, .slice none 0 0, .int .u8 0, .int .u8 0, .int .u8 0, .int .u8 0, .int .u8 0, .int .u8 0, .int .u8 0, .int .u8 0, .int .u8 0, .int .u8 0, .int .u8 0, .int .u8 0, .int .u8 0, .int .u8 0, .int .u8 0, .int .u8 0, .int .u8 0, .int .u8 0, .int .u8 0, .int .u8 0, .int .u8 0, .int .u8 0, .int .u8 0, .int .u8 0, .int .u8 0, .int .u8 0, .int .u8 0, .int .u8 0, .int .u8 0, .int .u8 0, .int .u8 0, .int .u8 0, .bool false, .int .u8 0, .int .u8 0, .int .u8 0, .int .u8 0, .int .u8 0, .int .u8 0, .int .u8 0, .int .u8 0, .int .u8 0, .int .u8 0, .int .u8 0, .int .u8 0, .int .u8 0, .int .u8 0, .int .u8 0, .int .u8 0, .int .u8 0, .int .u8 0, .int .u8 0, .int .u8 0, .int .u8 0, .int .u8 0, .int .u8 0, .int .u8 0, .int .u8 0, .int .u8 0, .int .u8 0, .int .u8 0, .int .u8 0, .int .u8 0, .int .u8 0, .int .u8 0], (.strct [(104, 0), (91, 2), (30, 3), (4, 35), (30, 36)])⟩
def y108 : Ti := ⟨false, true, 108, 256, [.bool false, .int .i64 0, .string ⟨#[]⟩, .slice none 0 0, .int .i64 0, .bool false, .string ⟨#[]⟩, .int .i64 0, .slice none 0 0, .slice none 0 0, .int .u8 0, .int .u8 0, .int .u8 0, .int .u8 0, .int .u8 0, .int .u8 0, .int .u8 0, .int .u8 0, .int .u8 0, .int .u8 0, .int .u8 0, .int .u8 0, .int .u8 0, .int .u8 0, .int .u8 0, .int .u8 0, .int .u8 0, .int .u8 0, .int .u8 0, .int .u8 0, .int .u8 0, .int .u8 0, .int .u8 0, .int .u8 0, .int .u8 0, .int .u8 0, .int .u8 0, .int .u8 0, .int .u8 0, .int .u8 0, .int .u8 0, .int .u8 0, .bool false, .int .u8 0, .int .u8 0, .int .u8 0, .int .u8 0, .int .u8 0, .int .u8 0, .int .u8 0, .int .u8 0, .int .u8 0, .int .u8 0, .int .u8 0, .int .u8 0, .int .u8 0, .int .u8 0, .int .u8 0, .int .u8 0, .int .u8 0, .int .u8 0, .int .u8 0, .int .u8 0, .int .u8 0, .int .u8 0, .int .u8 0, .int .u8 0, .int .u8 0, .int .u8 0, .int .u8 0, .int .u8 0, .int .u8 0, .int .u8 0, .int .u8 0, .int .u8 0, .int .i64 0, .int .u8 0, .int .u8 0, .int .u8 0, .int .u8 0, .int .u8 0, .int .u8 0, .int .u8 0, .int .u8 0, .int .u8 0, .int .u8 0, .int .u8 0, .int .u8 0, .int .u8 0, .int .u8 0, .int .u8 0, .int .u8 0, .int .u8 0, .int .u8 0, .int .u8 0, .int .u8 0, .int .u8 0, .int .u8 0, .int .u8 0, .int .u8 0, .int .u8 0, .int .u8 0, .int .u8 0, .int .u8 0, .int .u8 0, .int .u8 0, .int .u8 0, .int .u8 0], (.strct [(4, 0), (3, 1), (101, 2), (9, 6), (106, 7), (3, 75), (30, 76)])⟩
def y124 : Ti := ⟨false, false, 1, 24, [.slice none 0 0], (.slc 135)⟩
def y125 : Ti := ⟨false, false, 1, 24, [.slice none 0 0], (.slc 483)⟩
def y126 : Ti := ⟨false, false, 1, 24, [.slice none 0 0], (.slc 484)⟩
def y128 : Ti := ⟨false, true, 2, 48, [.slice none 0 0, .slice none 0 0], (.strct [(126, 0), (126, 1)])⟩
def y130 : Ti := ⟨false, true, 4, 96, [.slice none 0 0, .slice none 0 0, .slice none 0 0, .slice none 0 0], (.strct [(124, 0), (125, 1), (128, 2)])⟩
def y135 : Ti := ⟨false, true, 5, 80, [.string ⟨#[]⟩, .slice none 0 0, .int .i64 0, .bool false, .slice none 0 0], (.strct [(101, 0), (55, 4)])⟩
def y137 : Ti := ⟨false, false, 1, 8, [.pointer none], (.ptr 147)⟩
def y143 : Ti := ⟨false, false, 1, 24, [.slice none 0 0], (.slc 340)⟩
def y145 : Ti := ⟨false, true, 3, 56, [.int .i64 0, .slice none 0 0, .slice none 0 0], (.strct [(3, 0), (102, 1), (143, 2)])⟩
def y147 : Ti := ⟨false, true, 8, 120, [.slice none 0 0, .slice none 0 0, .slice none 0 0, .slice none 0 0, .int .u32 0, .int .i32 0, .int .u32 0, .int .i64 0], (.strct [(46, 0), (90, 4), (25, 7)])⟩
def y149 : Ti := ⟨false, true, 8, 176, [.slice none 0 0, .slice none 0 0, .slice none 0 0, .slice none 0 0, .int .i64 0, .slice none 0 0, .slice none 0 0, .slice none 0 0], (.strct [(46, 0), (65, 4)])⟩
def y150 : Ti := ⟨false, false, 1, 8, [.pointer none], (.ptr 149)⟩
def y151 : Ti := ⟨false, false, 1, 8, [.pointer none], (.ptr 301)⟩
def y152 : Ti := ⟨false, true, 0, 0, [], (.arr 0 150)⟩
def y153 : Ti := ⟨false, false, 1, 8, [.pointer none], .oth⟩
def y155 : Ti := ⟨false, true, 1, 8, [.pointer none], (.strct [(152, 0), (70, 0), (153, 0)])⟩
def y157 : Ti := ⟨false, true, 2, 16, [.pointer none, .pointer none], (.strct [(151, 0), (155, 1)])⟩
def y161 : Ti := ⟨false, true, 5, 80, [.string ⟨#[]⟩, .slice none 0 0, .int .i64 0, .bool false, .slice none 0 0], (.strct [(101, 0), (55, 4)])⟩
def y171 : Ti := ⟨false, true, 4, 48, [.int .i64 0, .int .i64 0, .slice none 0 0, .bool false], (.strct [(3, 0), (3, 1), (94, 2), (4, 3)])⟩
def y176 : Ti := ⟨false, false, 1, 8, [.pointer none], (.ptr 178)⟩
def y178 : Ti := ⟨false, true, 6, 56, [.pointer none, .int .u32 0, .int .i32 0, .int .u32 0, .slice none 0 0, .int .i64 0], (.strct [(24, 0), (90, 1), (98, 4), (25, 5)])⟩
def y180 : Ti := ⟨false, false, 1, 8, [.pointer none], (.ptr 272)⟩
def y193 : Ti := ⟨false, false, 1, 8, [.pointer none], (.ptr 90)⟩
def y196 : Ti := ⟨false, false, 1, 24, [.slice none 0 0], (.slc 295)⟩
def y198 : Ti := ⟨false, true, 3, 48, [.string ⟨#[]⟩, .int .i64 0, .slice none 0 0], (.strct [(9, 0), (3, 1), (196, 2)])⟩
def y208 : Ti := ⟨false, false, 1, 24, [.slice none 0 0], (.slc 269)⟩
def y209 : Ti := ⟨false, false, 1, 24, [.slice none 0 0], (.slc 399)⟩
def y211 : Ti := ⟨false, true, 5, 88, [.slice none 0 0, .slice none 0 0, .slice none 0 0, .int .i64 0, .bool false], (.strct [(208, 0), (208, 1), (209, 2), (3, 3), (4, 4)])⟩
def y212 : Ti := ⟨false, false, 1, 8, [.pointer none], (.ptr 311)⟩
def y215 : Ti := ⟨false, false, 1, 24, [.slice none 0 0], (.slc 390)⟩
def y217 : Ti := ⟨false, true, 4, 80, [.int .i64 0, .slice none 0 0, .slice none 0 0, .slice none 0 0], (.strct [(3, 0), (61, 1), (215, 2), (63, 3)])⟩
def y219 : Ti := ⟨false, true, 9, 184, [.pointer none, .slice none 0 0, .slice none 0 0, .slice none 0 0, .slice none 0 0, .int .i64 0, .slice none 0 0, .slice none 0 0, .slice none 0 0], (.strct [(212, 0), (130, 1), (217, 5)])⟩
def y221 : Ti := ⟨false, true, 75, 216, [.int .i64 0, .string ⟨#[]⟩, .slice none 0 0, .int .i64 0, .bool false, .string ⟨#[]⟩, .int .i64 0, .slice none 0 0, .slice none 0 0, .int .u8 0, .int .u8 0, .int .u8 0, .int .u8 0, .int .u8 0, .int .u8 0, .int .u8 0, .int .u8 0, .int .u8 0, .int .u8 0, .int .u8 0, .int .u8 0, .int .u8 0, .int .u8 0, .int .u8 0, .int .u8 0, .int .u8 0, .int .u8 0, .int .u8 0, .int .u8 0, .int .u8 0, .int .u8 0, .int .u8 0, .int .u8 0, .int .u8 0, .int .u8 0, .int .u8 0, .int .u8 0, .int .u8 0, .int .u8 0, .int .u8 0, .int .u8 0, .bool false, .int .i64 0, .int .u8 0, .int .u8 0, .int .u8 0, .int .u8 0, .int .u8 0, .int .u8 0, .int .u8 0, .int .u8 0, .int .u8 0, .int .u8 0, .int .u8 0, .int .u8 0, .int .u8 0, .int .u8 0, .int .u8 0, .int .u8 0, .int .u8 0, .int .u8 0, .int .u8 0, .int .u8 0, .int .u8 0, .int .u8 0, .int .u8 0, .int .u8 0, .int .u8 0, .int .u8 0, .int .u8 0, .int .u8 0, .int .u8 0, .int .u8 0, .int .u8 0, .int .u8 0], (.strct [(3, 0), (101, 1), (9, 5), (104, 6), (91, 8), (30, 9), (4, 41), (3, 42), (30, 43)])⟩
def y231 : Ti := ⟨false, false, 1, 8, [.nilFunc], .fn⟩
def y233 : Ti := ⟨false, false, 1, 8, [.nilFunc], .fn⟩
def y235 : Ti := ⟨false, false, 1, 8, [.nilFunc], .fn⟩
def y238 : Ti := ⟨true, true, 3, 32, [.int .i64 0, .string ⟨#[]⟩, .bool false], (.strct [(3, 0), (9, 1), (4, 2)])⟩
def y241 : Ti := ⟨false, false, 1, 8, [.pointer none], (.ptr 155)⟩
def y243 : Ti := ⟨false, false, 1, 8, [.pointer none], (.ptr 153)⟩
def y247 : Ti := ⟨false, false, 1, 8, [.nilFunc], .fn⟩
def y250 : Ti := ⟨false, false, 1, 8, [.nilFunc], .fn⟩
def y255 : Ti := ⟨false, false, 1, 8, [.nilFunc], .fn⟩
def y262 : Ti := ⟨false, false, 1, 8, [.nilFunc], .fn⟩
def y265 : Ti := ⟨false, true, 66, 80, [.int .i64 0, .int .u8 0, .int .u8 0, .int .u8 0, .int .u8 0, .int .u8 0, .int .u8 0, .int .u8 0, .int .u8 0, .int .u8 0, .int .u8 0, .int .u8 0, .int .u8 0, .int .u8 0, .int .u8 0, .int .u8 0, .int .u8 0, .int .u8 0, .int .u8 0, .int .u8 0, .int .u8 0, .int .u8 0, .int .u8 0, .int .u8 0, .int .u8 0, .int .u8 0, .int .u8 0, .int .u8 0, .int .u8 0, .int .u8 0, .int .u8 0, .int .u8 0, .int .u8 0, .int .u8 0, .int .u8 0, .int .u8 0, .int .u8 0, .int .u8 0, .int .u8 0, .int .u8 0, .int .u8 0, .int .u8 0, .int .u8 0, .int .u8 0, .int .u8 0, .int .u8 0, .int .u8 0, .int .u8 0, .int .u8 0, .int .u8 0, .int .u8 0, .int .u8 0, .int .u8 0, .int .u8 0, .int .u8 0, .int .u8 0, .int .u8 0, .int .u8 0, .int .u8 0, .int .u8 0, .int .u8 0, .int .u8 0, .int .u8 0, .int .u8 0, .int .u8 0, .int .i64 0], (.strct [(3, 0), (30, 1), (30, 33), (3, 65)])⟩
def y269 : Ti := ⟨false, true, 64, 64, (List.replicate 64 (.int .u8 0)), (.arr 64 5)⟩
def y270 : Ti := ⟨false, true, 64, 64, (List.replicate 64 (.int .u8 0)), (.arr 64 5)⟩
def y272 : Ti := ⟨false, true, 5, 48, [.slice none 0 0, .int .i64 0, .int .u32 0, .int .i32 0, .int .u32 0], (.strct [(98, 0), (25, 1), (90, 2)])⟩
def y277 : Ti := ⟨true, true, 3, 32, [.string ⟨#[]⟩, .int .i64 0, .bool false], (.strct [(9, 0), (3, 1), (4, 2)])⟩
def y281 : Ti := ⟨false, false, 1, 8, [.pointer none], (.ptr 76)⟩
def y283 : Ti := ⟨false, false, 1, 8, [.pointer none], (.ptr 74)⟩
def y295 : Ti := ⟨true, true, 3, 32, [.int .i64 0, .int .i64 0, .string ⟨#[]⟩], (.strct [(3, 0), (3, 1), (9, 2)])⟩
def y301 : Ti := ⟨false, true, 3, 24, [.pointer none, .int .i64 0, .int .i64 0], (.strct [(24, 0), (73, 1), (73, 2)])⟩
def y311 : Ti := ⟨false, true, 3, 24, [.pointer none, .int .i64 0, .int .i64 0], (.strct [(49, 0), (3, 1), (3, 2)])⟩
def y312 : Ti := ⟨false, false, 1, 8, [.pointer none], (.ptr 317)⟩
def y317 : Ti := ⟨false, true, 3, 40, [.slice none 0 0, .int .i64 0, .int .i64 0], (.strct [(98, 0), (3, 1), (3, 2)])⟩
def y329 : Ti := ⟨false, false, 1, 24, [.slice none 0 0], (.slc 9)⟩
def y335 : Ti := ⟨false, false, 1, 8, [.int .u64 0], (.int .u64)⟩
def y337 : Ti := ⟨false, false, 1, 8, [.nilFunc], .fn⟩
def y340 : Ti := ⟨true, true, 2, 24, [.string ⟨#[]⟩, .int .i64 0], (.strct [(9, 0), (3, 1)])⟩
def y350 : Ti := ⟨false, false, 1, 8, [.int .u64 0], (.int .u64)⟩
def y353 : Ti := ⟨false, false, 1, 8, [.map none], (.mp 9 4)⟩
def y355 : Ti := ⟨false, true, 4, 24, [.int .u32 0, .int .i32 0, .int .u32 0, .map none], (.strct [(90, 0), (353, 3)])⟩
def y360 : Ti := ⟨false, false, 1, 8, [.pointer none], (.ptr 88)⟩
def y377 : Ti := ⟨false, false, 1, 8, [.pointer none], (.ptr 73)⟩
def y379 : Ti := ⟨false, false, 1, 8, [.pointer none], (.ptr 2)⟩
def y390 : Ti := ⟨false, true, 66, 80, [.int .i64 0, .int .u8 0, .int .u8 0, .int .u8 0, .int .u8 0, .int .u8 0, .int .u8 0, .int .u8 0, .int .u8 0, .int .u8 0, .int .u8 0, .int .u8 0, .int .u8 0, .int .u8 0, .int .u8 0, .int .u8 0, .int .u8 0, .int .u8 0, .int .u8 0, .int .u8 0, .int .u8 0, .int .u8 0, .int .u8 0, .int .u8 0, .int .u8 0, .int .u8 0, .int .u8 0, .int .u8 0, .int .u8 0, .int .u8 0, .int .u8 0, .int .u8 0, .int .u8 0, .int .u8 0, .int .u8 0, .int .u8 0, .int .u8 0, .int .u8 0, .int .u8 0, .int .u8 0, .int .u8 0, .int .u8 0, .int .u8 0, .int .u8 0, .int .u8 0, .int .u8 0, .int .u8 0, .int .u8 0, .int .u8 0, .int .u8 0, .int .u8 0, .int .u8 0, .int .u8 0, .int .u8 0, .int .u8 0, .int .u8 0, .int .u8 0, .int .u8 0, .int .u8 0, .int .u8 0, .int .u8 0, .int .u8 0, .int .u8 0, .int .u8 0, .int .u8 0, .int .i64 0], (.strct [(3, 0), (30, 1), (30, 33), (3, 65)])⟩
def y399 : Ti := ⟨false, true, 65, 72, [.int .i64 0, .int .u8 0, .int .u8 0, .int .u8 0, .int .u8 0, .int .u8 0, .int .u8 0, .int .u8 0, .int .u8 0, .int .u8 0, .int .u8 0, .int .u8 0, .int .u8 0, .int .u8 0, .int .u8 0, .int .u8 0, .int .u8 0, .int .u8 0, .int .u8 0, .int .u8 0, .int .u8 0, .int .u8 0, .int .u8 0, .int .u8 0, .int .u8 0, .int .u8 0, .int .u8 0, .int .u8 0, .int .u8 0, .int .u8 0, .int .u8 0, .int .u8 0, .int .u8 0, .int .u8 0, .int .u8 0, .int .u8 0, .int .u8 0, .int .u8 0, .int .u8 0, .int .u8 0, .int .u8 0, .int .u8 0, .int .u8 0, .int .u8 0, .int .u8 0, .int .u8 0, .int .u8 0, .int .u8 0, .int .u8 0, .int .u8 0, .int .u8 0, .int .u8 0, .int .u8 0, .int .u8 0, .int .u8 0, .int .u8 0, .int .u8 0, .int .u8 0, .int .u8 0, .int .u8 0, .int .u8 0, .int .u8 0, .int .u8 0, .int .u8 0, .int .u8 0], (.strct [(3, 0), (269, 1)])⟩
def y403 : Ti := ⟨false, false, 1, 8, [.nilFunc], .fn⟩
def y412 : Ti := ⟨false, true, 65, 72, [.int .i64 0, .int .u8 0, .int .u8 0, .int .u8 0, .int .u8 0, .int .u8 0, .int .u8 0, .int .u8 0, .int .u8 0, .int .u8 0, .int .u8 0, .int .u8 0, .int .u8 0, .int .u8 0, .int .u8 0, .int .u8 0, .int .u8 0, .int .u8 0, .int .u8 0, .int .u8 0, .int .u8 0, .int .u8 0, .int .u8 0, .int .u8 0, .int .u8 0, .int .u8 0, .int .u8 0, .int .u8 0, .int .u8 0, .int .u8 0, .int .u8 0, .int .u8 0, .int .u8 0, .int .u8 0, .int .u8 0, .int .u8 0, .int .u8 0, .int .u8 0, .int .u8 0, .int .u8 0, .int .u8 0, .int .u8 0, .int .u8 0, .int .u8 0, .int .u8 0, .int .u8 0, .int .u8 0, .int .u8 0, .int .u8 0, .int .u8 0, .int .u8 0, .int .u8 0, .int .u8 0, .int .u8 0, .int .u8 0, .int .u8 0, .int .u8 0, .int .u8 0, .int .u8 0, .int .u8 0, .int .u8 0, .int .u8 0, .int .u8 0, .int .u8 0, .int .u8 0], (.strct [(3, 0), (270, 1)])⟩
def y419 : Ti := ⟨false, false, 1, 8, [.pointer none], (.ptr 78)⟩
def y420 : Ti := ⟨false, false, 1, 8, [.pointer none], (.ptr 355)⟩
def y422 : Ti := ⟨false, false, 1, 8, [.nilFunc], .fn⟩
def y426 : Ti := ⟨false, false, 1, 8, [.pointer none], (.ptr 86)⟩
def y428 : Ti := ⟨false, false, 1, 8, [.pointer none], (.ptr 21)⟩
def y451 : Ti := ⟨false, false, 1, 24, [.slice none 0 0], (.slc 42)⟩
def y481 : Ti := ⟨false, false, 1, 24, [.slice none 0 0], (.slc 485)⟩
def y483 : Ti := ⟨false, true, 3, 56, [.int .i64 0, .slice none 0 0, .slice none 0 0], (.strct [(3, 0), (102, 1), (481, 2)])⟩
def y484 : Ti := ⟨true, true, 3, 32, [.int .i64 0, .string ⟨#[]⟩, .bool false], (.strct [(3, 0), (9, 1), (4, 2)])⟩
def y485 : Ti := ⟨true, true, 2, 24, [.string ⟨#[]⟩, .int .i64 0], (.strct [(9, 0), (3, 1)])⟩
def ty (t : Nat) : Ti := if t < 151 then (if t < 74 then (if t < 41 then (if t < 25 then (if t < 5 then (if t < 3 then (if t < 2 then (if t = 1 then y1 else .none) else (if t = 2 then y2 else .none)) else (if t < 4 then (if t = 3 then y3 else .none) else (if t = 4 then y4 else .none))) else (if t < 21 then (if t < 9 then (if t = 5 then y5 else .none) else (if t = 9 then y9 else .none)) else (if t < 24 then (if t = 21 then y21 else .none) else (if t = 24 then y24 else .none)))) else (if t < 33 then (if t < 30 then (if t < 28 then (if t = 25 then y25 else .none) else (if t = 28 then y28 else .none)) else (if t < 32 then (if t = 30 then y30 else .none) else (if t = 32 then y32 else .none))) else (if t < 38 then (if t < 36 then (if t = 33 then y33 else .none) else (if t = 36 then y36 else .none)) else (if t < 40 then (if t = 38 then y38 else .none) else (if t = 40 then y40 else .none))))) else (if t < 55 then (if t < 49 then (if t < 44 then (if t < 42 then (if t = 41 then y41 else .none) else (if t = 42 then y42 else .none)) else (if t < 46 then (if t = 44 then y44 else .none) else (if t = 46 then y46 else .none))) else (if t < 51 then (if t < 50 then (if t = 49 then y49 else .none) else (if t = 50 then y50 else .none)) else (if t < 53 then (if t = 51 then y51 else .none) else (if t = 53 then y53 else .none)))) else (if t < 65 then (if t < 62 then (if t < 61 then (if t = 55 then y55 else .none) else (if t = 61 then y61 else .none)) else (if t < 63 then (if t = 62 then y62 else .none) else (if t = 63 then y63 else .none))) else (if t < 70 then (if t < 68 then (if t = 65 then y65 else .none) else (if t = 68 then y68 else .none)) else (if t < 71 then (if t = 70 then y70 else .none) else (if t < 73 then (if t = 71 then y71 else .none) else (if t = 73 then y73 else .none))))))) else (if t < 101 then (if t < 86 then (if t < 81 then (if t < 78 then (if t < 76 then (if t = 74 then y74 else .none) else (if t = 76 then y76 else .none)) else (if t < 79 then (if t = 78 then y78 else .none) else (if t = 79 then y79 else .none))) else (if t < 83 then (if t < 82 then (if t = 81 then y81 else .none) else (if t = 82 then y82 else .none)) else (if t < 84 then (if t = 83 then y83 else .none) else (if t = 84 then y84 else .none)))) else (if t < 93 then (if t < 90 then (if t < 88 then (if t = 86 then y86 else .none) else (if t = 88 then y88 else .none)) else (if t < 91 then (if t = 90 then y90 else .none) else (if t = 91 then y91 else .none))) else (if t < 98 then (if t < 94 then (if t = 93 then y93 else .none) else (if t = 94 then y94 else .none)) else (if t < 99 then (if t = 98 then y98 else .none) else (if t = 99 then y99 else .none))))) else (if t < 128 then (if t < 108 then (if t < 104 then (if t < 102 then (if t = 101 then y101 else .none) else (if t = 102 then y102 else .none)) else (if t < 106 then (if t = 104 then y104 else .none) else (if t = 106 then y106 else .none))) else (if t < 125 then (if t < 124 then (if t = 108 then y108 else .none) else (if t = 124 then y124 else .none)) else (if t < 126 then (if t = 125 then y125 else .none) else (if t = 126 then y126 else .none)))) else (if t < 143 then (if t < 135 then (if t < 130 then (if t = 128 then y128 else .none) else (if t = 130 then y130 else .none)) else (if t < 137 then (if t = 135 then y135 else .none) else (if t = 137 then y137 else .none))) else (if t < 147 then (if t < 145 then (if t = 143 then y143 else .none) else (if t = 145 then y145 else .none)) else (if t < 149 then (if t = 147 then y147 else .none) else (if t < 150 then (if t = 149 then y149 else .none) else (if t = 150 then y150 else .none)))))))) else (if t < 270 then (if t < 212 then (if t < 178 then (if t < 157 then (if t < 153 then (if t < 152 then (if t = 151 then y151 else .none) else (if t = 152 then y152 else .none)) else (if t < 155 then (if t = 153 then y153 else .none) else (if t = 155 then y155 else .none))) else (if t < 171 then (if t < 161 then (if t = 157 then y157 else .none) else (if t = 161 then y161 else .none)) else (if t < 176 then (if t = 171 then y171 else .none) else (if t = 176 then y176 else .none)))) else (if t < 198 then (if t < 193 then (if t < 180 then (if t = 178 then y178 else .none) else (if t = 180 then y180 else .none)) else (if t < 196 then (if t = 193 then y193 else .none) else (if t = 196 then y196 else .none))) else (if t < 209 then (if t < 208 then (if t = 198 then y198 else .none) else (if t = 208 then y208 else .none)) else (if t < 211 then (if t = 209 then y209 else .none) else (if t = 211 then y211 else .none))))) else (if t < 238 then (if t < 221 then (if t < 217 then (if t < 215 then (if t = 212 then y212 else .none) else (if t = 215 then y215 else .none)) else (if t < 219 then (if t = 217 then y217 else .none) else (if t = 219 then y219 else .none))) else (if t < 233 then (if t < 231 then (if t = 221 then y221 else .none) else (if t = 231 then y231 else .none)) else (if t < 235 then (if t = 233 then y233 else .none) else (if t = 235 then y235 else .none)))) else (if t < 250 then (if t < 243 then (if t < 241 then (if t = 238 then y238 else .none) else (if t = 241 then y241 else .none)) else (if t < 247 then (if t = 243 then y243 else .none) else (if t = 247 then y247 else .none))) else (if t < 262 then (if t < 255 then (if t = 250 then y250 else .none) else (if t = 255 then y255 else .none)) else (if t < 265 then (if t = 262 then y262 else .none) else (if t < 269 then (if t = 265 then y265 else .none) else (if t = 269 then y269 else .none))))))) else (if t < 360 then (if t < 312 then (if t < 283 then (if t < 277 then (if t < 272 then (if t = 270 then y270 else .none) else (if t = 272 then y272 else .none)) else (if t < 281 then (if t = 277 then y277 else .none) else (if t = 281 then y281 else .none))) else (if t < 301 then (if t < 295 then (if t = 283 then y283 else .none) else (if t = 295 then y295 else .none)) else (if t < 311 then (if t = 301 then y301 else .none) else (if t = 311 then y311 else .none)))) else (if t < 337 then (if t < 329 then (if t < 317 then (if t = 312 then y312 else .none) else (if t = 317 then y317 else .none)) else (if t < 335 then (if t = 329 then y329 else .none) else (if t = 335 then y335 else .none))) else (if t < 350 then (if t < 340 then (if t = 337 then y337 else .none) else (if t = 340 then y340 else .none)) else (if t < 353 then (if t = 350 then y350 else .none) else (if t < 355 then (if t = 353 then y353 else .none) else (if t = 355 then y355 else .none)))))) else (if t < 420 then (if t < 399 then (if t < 379 then (if t < 377 then (if t = 360 then y360 else .none) else (if t = 377 then y377 else .none)) else (if t < 390 then (if t = 379 then y379 else .none) else (if t = 390 then y390 else .none))) else (if t < 412 then (if t < 403 then (if t = 399 then y399 else .none) else (if t = 403 then y403 else .none)) else (if t < 419 then (if t = 412 then y412 else .none) else (if t = 419 then y419 else .none)))) else (if t < 451 then (if t < 426 then (if t < 422 then (if t = 420 then y420 else .none) else (if t = 422 then y422 else .none)) else (if t < 428 then (if t = 426 then y426 else .none) else (if t = 428 then y428 else .none))) else (if t < 483 then (if t < 481 then (if t = 451 then y451 else .none) else (if t = 481 then y481 else .none)) else (if t < 484 then (if t = 483 then y483 else .none) else (if t < 485 then (if t = 484 then y484 else .none) else (if t = 485 then y485 else .none))))))))
def tyIds : List Nat := [1, 2, 3, 4, 5, 9, 21, 24, 25, 28, 30, 32, 33, 36, 38, 40, 41, 42, 44, 46, 49, 50, 51, 53, 55, 61, 62, 63, 65, 68, 70, 71, 73, 74, 76, 78, 79, 81, 82, 83, 84, 86, 88, 90, 91, 93, 94, 98, 99, 101, 102, 104, 106, 108, 124, 125, 126, 128, 130, 135, 137, 143, 145, 147, 149, 150, 151, 152, 153, 155, 157, 161, 171, 176, 178, 180, 193, 196, 198, 208, 209, 211, 212, 215, 217, 219, 221, 231, 233, 235, 238, 241, 243, 247, 250, 255, 262, 265, 269, 270, 272, 277, 281, 283, 295, 301, 311, 312, 317, 329, 335, 337, 340, 350, 353, 355, 360, 377, 379, 390, 399, 403, 412, 419, 420, 422, 426, 428, 451, 481, 483, 484, 485]
def fnBad : List Nat := [0, 1, 90, 96, 101, 132, 216, 219, 229, 263, 264, 267, 274, 275, 276, 277, 279, 280, 309, 310, 311, 312, 313, 314, 315, 330, 331, 332, 333, 334, 335, 336, 337, 338, 339, 340, 341, 342, 343, 344, 345, 346, 347, 348, 349]
def fnN : Nat := 350
def fnOk (f : Nat) : Bool := if f < fnN then !fnBad.contains f else false
def usL : List Nat := [153]
def zsT (t : Nat) : Option CV := if t = 83 then some (.agg [.u8 0, .u8 0, .u8 0, .u8 0, .u8 0, .u8 0, .u8 0, .u8 0, .u8 0, .u8 0, .u8 0, .u8 0, .u8 0, .u8 0, .u8 0, .u8 0, .u8 0, .u8 0, .u8 0, .u8 0, .u8 0, .u8 0, .u8 0, .u8 0, .u8 0, .u8 0, .u8 0, .u8 0, .u8 0, .u8 0, .u8 0, .u8 0]) else if t = 353 then some (.bool false) else none
def ekT (g : Nat) : NK := if g = 96 then .loadP else if g = 101 then .storeP else if g = 132 then .load .u32 else if g = 216 then .store else if g = 229 then .store else if g = 263 then .cmp else if g = 264 then .load .i64 else if g = 267 then .add .i64 else if g = 274 then .mark0 else if g = 275 then .cas .i32 else if g = 276 then .mark0 else if g = 277 then .mark1 else if g = 279 then .mark1 else if g = 280 then .add .i32 else .none

def noPl : Nat → Plan := fun _ => .done
def noPb : Nat → Bool := fun _ => false
def bodyOf (f : Func) : Code := match f.body with
  | some c => c
  | none => .skip
noncomputable def lkB (b : Bool) (x y : FB) : FB := @Bool.rec (fun _ => FB) y x b
noncomputable def S : SS := ⟨othS ty, ohS ty (fun t => List.elem t usL) zsT, extE ekT, ty, fnOk⟩
/-- ledgerline/ledgerlinelaw21.VerifyMany -/
def pl3 : Nat → Plan := noPl
def pb3 : Nat → Bool := noPb
noncomputable def fb3 : FB := fnB S pl3 pb3 (bodyOf Tryz.f3) Tryz.f3.ntmps Tryz.f3.results.toList
noncomputable abbrev fc3 : FB := fb3
/-- ledgerline/ledgerlinelaw16.StoreEmpty -/
def pl4 : Nat → Plan := (fun id => if id = 7 then (.light 0 (.light 1 (.light 2 (.light 3 (.light 4 (.heavy 5 [] .done)))))) else .done)
def pb4 : Nat → Bool := noPb
noncomputable def fb4 : FB := fnB S pl4 pb4 (bodyOf Tryz.f4) Tryz.f4.ntmps Tryz.f4.results.toList
noncomputable abbrev fc4 : FB := fb4
/-- ledgerline/ledgerlinelaw21.known -/
def pl5 : Nat → Plan := noPl
def pb5 : Nat → Bool := noPb
noncomputable def fb5 : FB := fnB S pl5 pb5 (bodyOf Tryz.f5) Tryz.f5.ntmps Tryz.f5.results.toList
noncomputable abbrev fc5 : FB := fb5
/-- ledgerline/ledgerlinelaw21.within -/
def pl6 : Nat → Plan := noPl
def pb6 : Nat → Bool := noPb
noncomputable def fb6 : FB := fnB S pl6 pb6 (bodyOf Tryz.f6) Tryz.f6.ntmps Tryz.f6.results.toList
noncomputable abbrev fc6 : FB := withinB fb6
/-- ledgerline/disk.New -/
def pl7 : Nat → Plan := (fun id => if id = 3 then (.light 0 (.light 2 (.fork (.heavy 1 [] (.heavy 3 [] (.light 4 (.heavy 5 [] (.heavy 6 [] (.heavy 7 [] .done)))))) (.heavy 3 [] (.heavy 1 [] (.light 4 (.heavy 5 [] (.heavy 6 [] (.heavy 7 [] .done))))))))) else .done)
def pb7 : Nat → Bool := (fun s => List.elem s [15])
noncomputable def fb7 : FB := fnB S pl7 pb7 (bodyOf Tryz.f7) Tryz.f7.ntmps Tryz.f7.results.toList
noncomputable abbrev fc7 : FB := fb7
/-- ledgerline/verify.Verify -/
def pl8 : Nat → Plan := noPl
def pb8 : Nat → Bool := (fun s => List.elem s [13, 5, 8])
noncomputable def fb8 : FB := fnB S pl8 pb8 (bodyOf Tryz.f8) Tryz.f8.ntmps Tryz.f8.results.toList
noncomputable abbrev fc8 : FB := fb8
/-- ledgerline/ledgerlinelaw16.known -/
def pl9 : Nat → Plan := noPl
def pb9 : Nat → Bool := noPb
noncomputable def fb9 : FB := fnB S pl9 pb9 (bodyOf Tryz.f9) Tryz.f9.ntmps Tryz.f9.results.toList
noncomputable abbrev fc9 : FB := fb9
/-- ledgerline/ledgerlinelaw16.within -/
def pl10 : Nat → Plan := noPl
def pb10 : Nat → Bool := noPb
noncomputable def fb10 : FB := fnB S pl10 pb10 (bodyOf Tryz.f10) Tryz.f10.ntmps Tryz.f10.results.toList
noncomputable abbrev fc10 : FB := withinB fb10
/-- ledgerline/ledgerlinelaw16.Begin -/
def pl11 : Nat → Plan := (fun id => if id = 10 then (.light 0 (.light 1 (.light 2 (.light 3 (.light 4 (.light 5 (.light 6 (.light 7 (.light 8 (.light 9 (.heavy 10 [] .done))))))))))) else if id = 11 then (.light 0 (.light 1 (.light 2 (.light 3 (.light 4 (.light 5 (.light 6 (.light 7 (.light 8 (.light 9 (.heavy 10 [] .done))))))))))) else .done)
def pb11 : Nat → Bool := (fun s => List.elem s [8])
noncomputable def fb11 : FB := fnB S pl11 pb11 (bodyOf Tryz.f11) Tryz.f11.ntmps Tryz.f11.results.toList
noncomputable abbrev fc11 : FB := fb11
/-- ledgerline/txn.Begin -/
def pl12 : Nat → Plan := noPl
def pb12 : Nat → Bool := noPb
noncomputable def fb12 : FB := fnB S pl12 pb12 (bodyOf Tryz.f12) Tryz.f12.ntmps Tryz.f12.results.toList
noncomputable abbrev fc12 : FB := fb12
/-- (*ledgerline/store.Store).DB -/
def pl13 : Nat → Plan := noPl
def pb13 : Nat → Bool := noPb
noncomputable def fb13 : FB := fnB S pl13 pb13 (bodyOf Tryz.f13) Tryz.f13.ntmps Tryz.f13.results.toList
noncomputable abbrev fc13 : FB := fb13
/-- ledgerline/txn.Rows -/
def pl14 : Nat → Plan := (fun id => if id = 6 then (.light 0 (.light 1 (.light 2 (.light 3 (.light 4 (.light 5 (.light 6 (.light 7 (.light 8 (.light 9 (.heavy 10 [9, 5] (.heavy 11 [] (.heavy 12 [] .done))))))))))))) else .done)
def pb14 : Nat → Bool := noPb
noncomputable def fb14 : FB := fnB S pl14 pb14 (bodyOf Tryz.f14) Tryz.f14.ntmps Tryz.f14.results.toList
noncomputable abbrev fc14 : FB := fb14
/-- (*ledgerline/store.Store).Set -/
def pl15 : Nat → Plan := (fun id => if id = 1 then (.light 0 (.light 1 (.light 2 (.light 3 (.light 5 (.light 6 (.light 7 (.heavy 4 [] (.heavy 8 [] (.light 9 (.light 10 (.light 11 (.light 12 (.heavy 13 [] (.heavy 14 [] .done))))))))))))))) else .done)
def pb15 : Nat → Bool := (fun s => List.elem s [17])
noncomputable def fb15 : FB := fnB S pl15 pb15 (bodyOf Tryz.f15) Tryz.f15.ntmps Tryz.f15.results.toList
noncomputable abbrev fc15 : FB := fb15
/-- (*ledgerline/store.Store).Commit -/
def pl16 : Nat → Plan := (fun id => if id = 6 then (.light 0 (.light 1 (.light 2 (.light 3 (.light 4 (.light 5 (.light 6 (.light 7 (.light 8 (.heavy 9 [] (.heavy 10 [] .done))))))))))) else if id = 9 then (.light 0 (.light 1 (.light 2 (.light 4 (.light 5 (.light 6 (.heavy 3 [5, 4] (.heavy 7 [] (.heavy 8 [] .done))))))))) else if id = 12 then (.light 0 (.light 1 (.light 2 (.light 3 (.light 4 (.light 5 (.light 6 (.light 7 (.light 8 (.heavy 9 [] (.heavy 10 [] .done))))))))))) else .done)
def pb16 : Nat → Bool := (fun s => List.elem s [45, 84])
noncomputable def fb16 : FB := fnB S pl16 pb16 (bodyOf Tryz.f16) Tryz.f16.ntmps Tryz.f16.results.toList
noncomputable abbrev fc16 : FB := fb16
/-- (*ledgerline/store.Store).Ledger -/
def pl17 : Nat → Plan := noPl
def pb17 : Nat → Bool := noPb
noncomputable def fb17 : FB := fnB S pl17 pb17 (bodyOf Tryz.f17) Tryz.f17.ntmps Tryz.f17.results.toList
noncomputable abbrev fc17 : FB := fb17
/-- ledgerline/wal.Scan -/
def pl18 : Nat → Plan := noPl
def pb18 : Nat → Bool := (fun s => List.elem s [31])
noncomputable def fb18 : FB := fnB S pl18 pb18 (bodyOf Tryz.f18) Tryz.f18.ntmps Tryz.f18.results.toList
noncomputable abbrev fc18 : FB := fb18
/-- (*ledgerline/verify.finder).must -/
def pl19 : Nat → Plan := noPl
def pb19 : Nat → Bool := noPb
noncomputable def fb19 : FB := fnB S pl19 pb19 (bodyOf Tryz.f19) Tryz.f19.ntmps Tryz.f19.results.toList
noncomputable abbrev fc19 : FB := fb19
/-- (*sync.Once).Do -/
def pl21 : Nat → Plan := noPl
def pb21 : Nat → Bool := noPb
noncomputable def fb21 : FB := fnB S pl21 pb21 (bodyOf Tryz.f21) Tryz.f21.ntmps Tryz.f21.results.toList
noncomputable abbrev fc21 : FB := fb21
/-- (*ledgerline/verify.finder).tell -/
def pl23 : Nat → Plan := (fun id => if id = 2 then (.light 0 (.light 1 (.light 2 (.light 3 (.light 4 (.light 5 (.heavy 6 [4] (.heavy 7 [] (.light 8 (.light 9 (.heavy 10 [] .done))))))))))) else .done)
def pb23 : Nat → Bool := noPb
noncomputable def fb23 : FB := fnB S pl23 pb23 (bodyOf Tryz.f23) Tryz.f23.ntmps Tryz.f23.results.toList
noncomputable abbrev fc23 : FB := fb23
/-- (*ledgerline/verify.finder).digests -/
def pl28 : Nat → Plan := (fun id => if id = 3 then (.light 0 (.light 1 (.light 2 (.light 3 (.light 4 (.light 5 (.light 10 (.heavy 6 [] (.light 7 (.light 8 (.light 9 (.heavy 11 [] (.heavy 12 [] .done))))))))))))) else if id = 4 then (.light 0 (.light 1 (.light 2 (.light 3 (.light 4 (.light 5 (.light 6 (.light 7 (.light 8 (.light 9 (.light 10 (.heavy 11 [] .done)))))))))))) else .done)
def pb28 : Nat → Bool := noPb
noncomputable def fb28 : FB := fnB S pl28 pb28 (bodyOf Tryz.f28) Tryz.f28.ntmps Tryz.f28.results.toList
noncomputable abbrev fc28 : FB := fb28
/-- slices.Clone[[]ledgerline/api.Finding,ledgerline/api.Finding] -/
def pl29 : Nat → Plan := noPl
def pb29 : Nat → Bool := noPb
noncomputable def fb29 : FB := fnB S pl29 pb29 (bodyOf Tryz.f29) Tryz.f29.ntmps Tryz.f29.results.toList
noncomputable abbrev fc29 : FB := fb29
/-- ledgerline/store.Open -/
def pl30 : Nat → Plan := noPl
def pb30 : Nat → Bool := (fun s => List.elem s [22, 38])
noncomputable def fb30 : FB := fnB S pl30 pb30 (bodyOf Tryz.f30) Tryz.f30.ntmps Tryz.f30.results.toList
noncomputable abbrev fc30 : FB := fb30
/-- ledgerline/ledgerlineref7.New -/
def pl31 : Nat → Plan := (fun id => if id = 3 then (.light 0 (.light 2 (.fork (.heavy 1 [] (.heavy 3 [] (.light 4 (.heavy 5 [] (.heavy 6 [] (.heavy 7 [] .done)))))) (.heavy 3 [] (.heavy 1 [] (.light 4 (.heavy 5 [] (.heavy 6 [] (.heavy 7 [] .done))))))))) else .done)
def pb31 : Nat → Bool := (fun s => List.elem s [15])
noncomputable def fb31 : FB := fnB S pl31 pb31 (bodyOf Tryz.f31) Tryz.f31.ntmps Tryz.f31.results.toList
noncomputable abbrev fc31 : FB := fb31
/-- ledgerline/ledgerlineref16.Open -/
def pl32 : Nat → Plan := noPl
def pb32 : Nat → Bool := (fun s => List.elem s [22])
noncomputable def fb32 : FB := fnB S pl32 pb32 (bodyOf Tryz.f32) Tryz.f32.ntmps Tryz.f32.results.toList
noncomputable abbrev fc32 : FB := fb32
/-- ledgerline/ledgerlinelaw13.Start -/
def pl33 : Nat → Plan := (fun id => if id = 5 then (.light 0 (.light 1 (.heavy 2 [0] (.heavy 3 [] (.light 4 (.light 5 (.light 6 (.heavy 7 [] .done)))))))) else if id = 6 then (.light 0 (.light 1 (.heavy 2 [0] (.heavy 3 [] (.light 4 (.light 5 (.light 6 (.heavy 7 [] .done)))))))) else if id = 7 then (.light 0 (.light 1 (.heavy 2 [1] (.heavy 3 [] .done)))) else .done)
def pb33 : Nat → Bool := noPb
noncomputable def fb33 : FB := fnB S pl33 pb33 (bodyOf Tryz.f33) Tryz.f33.ntmps Tryz.f33.results.toList
noncomputable abbrev fc33 : FB := fb33
/-- (*ledgerline/store.Store).Create -/
def pl34 : Nat → Plan := (fun id => if id = 2 then (.light 0 (.light 1 (.light 2 (.light 3 (.light 4 (.light 9 (.heavy 5 [] (.light 6 (.light 7 (.light 8 (.heavy 10 [] (.heavy 11 [] .done)))))))))))) else if id = 5 then (.light 0 (.light 1 (.light 3 (.light 4 (.light 5 (.light 6 (.light 7 (.light 8 (.heavy 2 [7, 3] (.heavy 9 [] (.heavy 10 [] .done))))))))))) else .done)
def pb34 : Nat → Bool := noPb
noncomputable def fb34 : FB := fnB S pl34 pb34 (bodyOf Tryz.f34) Tryz.f34.ntmps Tryz.f34.results.toList
noncomputable abbrev fc34 : FB := fb34
/-- (*ledgerline/ledgerlineref16.Store).Create -/
def pl35 : Nat → Plan := (fun id => if id = 1 then (.light 0 (.light 1 (.light 2 (.light 3 (.light 4 (.light 9 (.heavy 5 [] (.light 6 (.light 7 (.light 8 (.heavy 10 [] (.heavy 11 [] .done)))))))))))) else if id = 3 then (.light 0 (.light 1 (.light 2 (.light 3 (.light 4 (.heavy 5 [3] (.heavy 6 [] (.heavy 7 [] .done)))))))) else .done)
def pb35 : Nat → Bool := noPb
noncomputable def fb35 : FB := fnB S pl35 pb35 (bodyOf Tryz.f35) Tryz.f35.ntmps Tryz.f35.results.toList
noncomputable abbrev fc35 : FB := fb35
/-- ledgerline/txn.begun -/
def pl36 : Nat → Plan := noPl
def pb36 : Nat → Bool := (fun s => List.elem s [6])
noncomputable def fb36 : FB := fnB S pl36 pb36 (bodyOf Tryz.f36) Tryz.f36.ntmps Tryz.f36.results.toList
noncomputable abbrev fc36 : FB := fb36
/-- (*ledgerline/txn.call).work -/
def pl37 : Nat → Plan := noPl
def pb37 : Nat → Bool := noPb
noncomputable def fb37 : FB := fnB S pl37 pb37 (bodyOf Tryz.f37) Tryz.f37.ntmps Tryz.f37.results.toList
noncomputable abbrev fc37 : FB := fb37
/-- ledgerline/txn.own -/
def pl38 : Nat → Plan := (fun id => if id = 1 then (.light 0 (.light 1 (.light 3 (.light 4 (.light 6 (.light 7 (.light 8 (.light 10 (.light 11 (.light 12 (.heavy 2 [12, 8, 4] (.heavy 5 [12, 8] (.heavy 9 [12] (.heavy 13 [] (.light 14 (.light 15 (.heavy 16 [] .done))))))))))))))))) else .done)
def pb38 : Nat → Bool := noPb
noncomputable def fb38 : FB := fnB S pl38 pb38 (bodyOf Tryz.f38) Tryz.f38.ntmps Tryz.f38.results.toList
noncomputable abbrev fc38 : FB := fb38
/-- slices.Insert[[]ledgerline/txn.Work,ledgerline/txn.Work] -/
def pl39 : Nat → Plan := (fun id => if id = 11 then (.light 0 (.light 1 (.light 2 (.light 3 (.light 4 (.light 5 (.light 6 (.light 7 (.heavy 8 [] .done))))))))) else if id = 15 then (.light 0 (.light 1 (.light 2 (.light 3 (.light 4 (.light 5 (.light 6 (.light 7 (.heavy 8 [] .done))))))))) else .done)
def pb39 : Nat → Bool := noPb
noncomputable def fb39 : FB := fnB S pl39 pb39 (bodyOf Tryz.f39) Tryz.f39.ntmps Tryz.f39.results.toList
noncomputable abbrev fc39 : FB := fb39
/-- ledgerline/store.ownDB -/
def pl40 : Nat → Plan := (fun id => if id = 1 then (.light 0 (.light 1 (.light 2 (.light 4 (.light 5 (.light 6 (.light 9 (.heavy 3 [6] (.heavy 7 [] (.light 8 (.heavy 10 [] .done))))))))))) else if id = 2 then (.light 0 (.light 1 (.light 3 (.light 4 (.light 6 (.heavy 2 [6, 4] (.heavy 5 [6] (.light 7 (.heavy 8 [] .done))))))))) else .done)
def pb40 : Nat → Bool := noPb
noncomputable def fb40 : FB := fnB S pl40 pb40 (bodyOf Tryz.f40) Tryz.f40.ntmps Tryz.f40.results.toList
noncomputable abbrev fc40 : FB := fb40
/-- (*sync/atomic.Pointer[ledgerline/store.state]).Load -/
def pl41 : Nat → Plan := noPl
def pb41 : Nat → Bool := noPb
noncomputable def fb41 : FB := fnB S pl41 pb41 (bodyOf Tryz.f41) Tryz.f41.ntmps Tryz.f41.results.toList
noncomputable abbrev fc41 : FB := fb41
/-- ledgerline/txn.Hold -/
def pl42 : Nat → Plan := noPl
def pb42 : Nat → Bool := noPb
noncomputable def fb42 : FB := fnB S pl42 pb42 (bodyOf Tryz.f42) Tryz.f42.ntmps Tryz.f42.results.toList
noncomputable abbrev fc42 : FB := fb42
/-- (*ledgerline/txn.call).table -/
def pl43 : Nat → Plan := noPl
def pb43 : Nat → Bool := noPb
noncomputable def fb43 : FB := fnB S pl43 pb43 (bodyOf Tryz.f43) Tryz.f43.ntmps Tryz.f43.results.toList
noncomputable abbrev fc43 : FB := fb43
/-- (*sync/atomic.Pointer[ledgerline/store.state]).Store -/
def pl44 : Nat → Plan := noPl
def pb44 : Nat → Bool := noPb
noncomputable def fb44 : FB := fnB S pl44 pb44 (bodyOf Tryz.f44) Tryz.f44.ntmps Tryz.f44.results.toList
noncomputable abbrev fc44 : FB := fb44
/-- ledgerline/txn.Commit -/
def pl45 : Nat → Plan := noPl
def pb45 : Nat → Bool := noPb
noncomputable def fb45 : FB := fnB S pl45 pb45 (bodyOf Tryz.f45) Tryz.f45.ntmps Tryz.f45.results.toList
noncomputable abbrev fc45 : FB := fb45
/-- (*ledgerline/store.Store).append -/
def pl47 : Nat → Plan := noPl
def pb47 : Nat → Bool := (fun s => List.elem s [3, 5, 6])
noncomputable def fb47 : FB := fnBD S pl47 pb47 (bodyOf Tryz.f47) Tryz.f47.ntmps Tryz.f47.results.toList
noncomputable abbrev fc47 : FB := fb47
/-- ledgerline/store.ownLedger -/
def pl50 : Nat → Plan := (fun id => if id = 1 then (.light 0 (.light 1 (.light 2 (.light 3 (.light 5 (.light 6 (.light 8 (.light 9 (.heavy 4 [9, 6, 1] (.heavy 7 [9, 1] (.heavy 10 [1] (.light 11 (.heavy 12 [] .done))))))))))))) else .done)
def pb50 : Nat → Bool := noPb
noncomputable def fb50 : FB := fnB S pl50 pb50 (bodyOf Tryz.f50) Tryz.f50.ntmps Tryz.f50.results.toList
noncomputable abbrev fc50 : FB := fb50
/-- ledgerline/wal.look -/
def pl51 : Nat → Plan := (fun id => if id = 14 then (.light 0 (.light 1 (.light 2 (.light 3 (.light 4 (.light 5 (.heavy 6 [] (.light 7 (.light 8 (.light 9 (.light 10 (.heavy 11 [] (.heavy 12 [] .done))))))))))))) else .done)
def pb51 : Nat → Bool := (fun s => List.elem s [28])
noncomputable def fb51 : FB := fnB S pl51 pb51 (bodyOf Tryz.f51) Tryz.f51.ntmps Tryz.f51.results.toList
noncomputable abbrev fc51 : FB := fb51
/-- (*ledgerline/disk.Disk).Read -/
def pl52 : Nat → Plan := noPl
def pb52 : Nat → Bool := noPb
noncomputable def fb52 : FB := fnB S pl52 pb52 (bodyOf Tryz.f52) Tryz.f52.ntmps Tryz.f52.results.toList
noncomputable abbrev fc52 : FB := fb52
/-- (*ledgerline/wal.lazy).bytes -/
def pl53 : Nat → Plan := (fun id => if id = 2 then (.light 0 (.light 1 (.light 2 (.light 3 (.light 4 (.light 5 (.light 6 (.light 7 (.heavy 8 [] (.heavy 9 [] .done)))))))))) else .done)
def pb53 : Nat → Bool := noPb
noncomputable def fb53 : FB := fnB S pl53 pb53 (bodyOf Tryz.f53) Tryz.f53.ntmps Tryz.f53.results.toList
noncomputable abbrev fc53 : FB := fb53
/-- ledgerline/code.New -/
def pl54 : Nat → Plan := noPl
def pb54 : Nat → Bool := (fun s => List.elem s [6])
noncomputable def fb54 : FB := fnB S pl54 pb54 (bodyOf Tryz.f54) Tryz.f54.ntmps Tryz.f54.results.toList
noncomputable abbrev fc54 : FB := fb54
/-- (*ledgerline/code.Reader).Int -/
def pl55 : Nat → Plan := noPl
def pb55 : Nat → Bool := noPb
noncomputable def fb55 : FB := fnB S pl55 pb55 (bodyOf Tryz.f55) Tryz.f55.ntmps Tryz.f55.results.toList
noncomputable abbrev fc55 : FB := fb55
/-- ledgerline/wal.cut -/
def pl56 : Nat → Plan := noPl
def pb56 : Nat → Bool := noPb
noncomputable def fb56 : FB := fnB S pl56 pb56 (bodyOf Tryz.f56) Tryz.f56.ntmps Tryz.f56.results.toList
noncomputable abbrev fc56 : FB := fb56
/-- (*sync/atomic.Bool).Load -/
def pl64 : Nat → Plan := noPl
def pb64 : Nat → Bool := noPb
noncomputable def fb64 : FB := fnB S pl64 pb64 (bodyOf Tryz.f64) Tryz.f64.ntmps Tryz.f64.results.toList
noncomputable abbrev fc64 : FB := fb64
/-- (*sync.Once).doSlow -/
def pl65 : Nat → Plan := noPl
def pb65 : Nat → Bool := noPb
noncomputable def fb65 : FB := fnBD S pl65 pb65 (bodyOf Tryz.f65) Tryz.f65.ntmps Tryz.f65.results.toList
noncomputable abbrev fc65 : FB := fb65
/-- ledgerline/txn.Create -/
def pl66 : Nat → Plan := (fun id => if id = 11 then (.light 0 (.light 2 (.light 3 (.light 4 (.light 5 (.heavy 1 [5] (.heavy 6 [5] (.heavy 7 [] .done)))))))) else if id = 12 then (.light 0 (.light 1 (.light 2 (.light 3 (.light 4 (.light 5 (.light 6 (.light 7 (.light 8 (.heavy 9 [5] (.heavy 10 [5] (.heavy 11 [] (.light 12 (.light 13 (.light 14 (.heavy 15 [] .done)))))))))))))))) else .done)
def pb66 : Nat → Bool := noPb
noncomputable def fb66 : FB := fnB S pl66 pb66 (bodyOf Tryz.f66) Tryz.f66.ntmps Tryz.f66.results.toList
noncomputable abbrev fc66 : FB := fb66
/-- ledgerline/wal.Open -/
def pl73 : Nat → Plan := (fun id => if id = 7 then (.light 0 (.light 1 (.light 2 (.light 3 (.light 4 (.heavy 5 [] .done)))))) else if id = 8 then (.light 0 (.light 1 (.light 2 (.light 3 (.light 4 (.heavy 5 [] .done)))))) else if id = 9 then (.light 0 (.light 1 (.light 2 (.heavy 3 [] (.heavy 4 [] (.heavy 5 [] .done)))))) else .done)
def pb73 : Nat → Bool := (fun s => List.elem s [22])
noncomputable def fb73 : FB := fnB S pl73 pb73 (bodyOf Tryz.f73) Tryz.f73.ntmps Tryz.f73.results.toList
noncomputable abbrev fc73 : FB := fb73
/-- ledgerline/ledgerlineref8.Open -/
def pl75 : Nat → Plan := noPl
def pb75 : Nat → Bool := (fun s => List.elem s [30])
noncomputable def fb75 : FB := fnB S pl75 pb75 (bodyOf Tryz.f75) Tryz.f75.ntmps Tryz.f75.results.toList
noncomputable abbrev fc75 : FB := fb75
/-- ledgerline/ledgerlinelaw13.shape -/
def pl78 : Nat → Plan := noPl
def pb78 : Nat → Bool := noPb
noncomputable def fb78 : FB := fnB S pl78 pb78 (bodyOf Tryz.f78) Tryz.f78.ntmps Tryz.f78.results.toList
noncomputable abbrev fc78 : FB := fb78
/-- ledgerline/ledgerlineref13.Create -/
def pl79 : Nat → Plan := (fun id => if id = 11 then (.light 0 (.light 1 (.light 2 (.light 3 (.light 4 (.light 5 (.light 6 (.light 7 (.light 8 (.light 9 (.light 10 (.light 11 (.light 12 (.light 13 (.light 14 (.heavy 15 [] (.light 16 .done))))))))))))))))) else .done)
def pb79 : Nat → Bool := noPb
noncomputable def fb79 : FB := fnB S pl79 pb79 (bodyOf Tryz.f79) Tryz.f79.ntmps Tryz.f79.results.toList
noncomputable abbrev fc79 : FB := fb79
/-- ledgerline/store.tableRecord -/
def pl80 : Nat → Plan := (fun id => if id = 1 then (.light 1 (.heavy 0 [1] (.heavy 2 [] (.heavy 3 [] (.heavy 4 [] (.heavy 5 [] .done)))))) else .done)
def pb80 : Nat → Bool := noPb
noncomputable def fb80 : FB := fnB S pl80 pb80 (bodyOf Tryz.f80) Tryz.f80.ntmps Tryz.f80.results.toList
noncomputable abbrev fc80 : FB := fb80
/-- (*ledgerline/ledgerlineref8.Log).Append -/
def pl81 : Nat → Plan := (fun id => if id = 3 then (.light 0 (.light 1 (.light 2 (.light 3 (.light 4 (.light 5 (.light 6 (.light 7 (.light 8 (.light 9 (.light 10 (.light 11 (.light 12 (.light 13 (.light 14 (.heavy 15 [] .done)))))))))))))))) else if id = 17 then (.light 0 (.light 1 (.light 2 (.light 3 (.light 4 (.light 5 (.light 6 (.light 7 (.light 8 (.light 9 (.light 10 (.light 11 (.light 12 (.heavy 13 [] (.heavy 14 [] .done))))))))))))))) else if id = 23 then (.light 0 (.light 1 (.light 2 (.light 3 (.light 4 (.light 5 (.light 6 (.light 7 (.light 8 (.light 9 (.light 10 (.light 11 (.light 13 (.light 14 (.light 15 (.light 16 (.light 17 (.heavy 12 [16, 3] (.heavy 18 [3] (.heavy 19 [] (.heavy 20 [] .done))))))))))))))))))))) else .done)
def pb81 : Nat → Bool := noPb
noncomputable def fb81 : FB := fnB S pl81 pb81 (bodyOf Tryz.f81) Tryz.f81.ntmps Tryz.f81.results.toList
noncomputable abbrev fc81 : FB := fb81
/-- ledgerline/ledgerlineref16.TableRecord -/
def pl82 : Nat → Plan := (fun id => if id = 1 then (.light 1 (.heavy 0 [1] (.heavy 2 [] (.heavy 3 [] (.heavy 4 [] (.heavy 5 [] .done)))))) else .done)
def pb82 : Nat → Bool := noPb
noncomputable def fb82 : FB := fnB S pl82 pb82 (bodyOf Tryz.f82) Tryz.f82.ntmps Tryz.f82.results.toList
noncomputable abbrev fc82 : FB := fb82
/-- slices.BinarySearchFunc[[]ledgerline/txn.Work,ledgerline/txn.Work,int] -/
def pl83 : Nat → Plan := noPl
def pb83 : Nat → Bool := noPb
noncomputable def fb83 : FB := fnB S pl83 pb83 (bodyOf Tryz.f83) Tryz.f83.ntmps Tryz.f83.results.toList
noncomputable abbrev fc83 : FB := fb83
/-- (*ledgerline/txn.call).work$1 -/
def pl84 : Nat → Plan := noPl
def pb84 : Nat → Bool := noPb
noncomputable def fb84 : FB := fnB S pl84 pb84 (bodyOf Tryz.f84) Tryz.f84.ntmps Tryz.f84.results.toList
noncomputable abbrev fc84 : FB := fb84
/-- ledgerline/txn.each[ledgerline/table.Table] -/
def pl85 : Nat → Plan := noPl
def pb85 : Nat → Bool := noPb
noncomputable def fb85 : FB := fnB S pl85 pb85 (bodyOf Tryz.f85) Tryz.f85.ntmps Tryz.f85.results.toList
noncomputable abbrev fc85 : FB := fb85
/-- ledgerline/txn.ownTable -/
def pl86 : Nat → Plan := noPl
def pb86 : Nat → Bool := noPb
noncomputable def fb86 : FB := fnB S pl86 pb86 (bodyOf Tryz.f86) Tryz.f86.ntmps Tryz.f86.results.toList
noncomputable abbrev fc86 : FB := fb86
/-- ledgerline/txn.each[ledgerline/txn.Work] -/
def pl87 : Nat → Plan := noPl
def pb87 : Nat → Bool := noPb
noncomputable def fb87 : FB := fnB S pl87 pb87 (bodyOf Tryz.f87) Tryz.f87.ntmps Tryz.f87.results.toList
noncomputable abbrev fc87 : FB := fb87
/-- ledgerline/txn.ownWork -/
def pl88 : Nat → Plan := (fun id => if id = 1 then (.light 0 (.light 1 (.light 3 (.light 4 (.heavy 2 [4] (.light 6 (.heavy 5 [] (.heavy 7 [] (.light 8 (.heavy 9 [] .done)))))))))) else .done)
def pb88 : Nat → Bool := noPb
noncomputable def fb88 : FB := fnB S pl88 pb88 (bodyOf Tryz.f88) Tryz.f88.ntmps Tryz.f88.results.toList
noncomputable abbrev fc88 : FB := fb88
/-- slices.Clone[[]ledgerline/lock.Hold,ledgerline/lock.Hold] -/
def pl89 : Nat → Plan := noPl
def pb89 : Nat → Bool := noPb
noncomputable def fb89 : FB := fnB S pl89 pb89 (bodyOf Tryz.f89) Tryz.f89.ntmps Tryz.f89.results.toList
noncomputable abbrev fc89 : FB := fb89
/-- ledgerline/store.each[ledgerline/table.Table] -/
def pl92 : Nat → Plan := noPl
def pb92 : Nat → Bool := noPb
noncomputable def fb92 : FB := fnB S pl92 pb92 (bodyOf Tryz.f92) Tryz.f92.ntmps Tryz.f92.results.toList
noncomputable abbrev fc92 : FB := fb92
/-- ledgerline/store.ownTable -/
def pl93 : Nat → Plan := noPl
def pb93 : Nat → Bool := noPb
noncomputable def fb93 : FB := fnB S pl93 pb93 (bodyOf Tryz.f93) Tryz.f93.ntmps Tryz.f93.results.toList
noncomputable abbrev fc93 : FB := fb93
/-- ledgerline/store.each[ledgerline/txn.Work] -/
def pl94 : Nat → Plan := noPl
def pb94 : Nat → Bool := noPb
noncomputable def fb94 : FB := fnB S pl94 pb94 (bodyOf Tryz.f94) Tryz.f94.ntmps Tryz.f94.results.toList
noncomputable abbrev fc94 : FB := fb94
/-- ledgerline/store.ownWork -/
def pl95 : Nat → Plan := (fun id => if id = 1 then (.light 0 (.light 1 (.light 3 (.light 4 (.heavy 2 [4] (.light 6 (.heavy 5 [] (.heavy 7 [] (.light 8 (.heavy 9 [] .done)))))))))) else .done)
def pb95 : Nat → Bool := noPb
noncomputable def fb95 : FB := fnB S pl95 pb95 (bodyOf Tryz.f95) Tryz.f95.ntmps Tryz.f95.results.toList
noncomputable abbrev fc95 : FB := fb95
/-- (*ledgerline/txn.call).hold -/
def pl97 : Nat → Plan := (fun id => if id = 9 then (.light 0 (.light 1 (.light 2 (.light 3 (.light 4 (.light 5 (.heavy 6 [] (.light 7 (.light 8 (.light 9 (.heavy 10 [] (.heavy 11 [] .done)))))))))))) else .done)
def pb97 : Nat → Bool := (fun s => List.elem s [4, 5, 6, 7])
noncomputable def fb97 : FB := fnB S pl97 pb97 (bodyOf Tryz.f97) Tryz.f97.ntmps Tryz.f97.results.toList
noncomputable abbrev fc97 : FB := fb97
/-- slices.BinarySearchFunc[[]ledgerline/table.Table,ledgerline/table.Table,string] -/
def pl98 : Nat → Plan := noPl
def pb98 : Nat → Bool := noPb
noncomputable def fb98 : FB := fnB S pl98 pb98 (bodyOf Tryz.f98) Tryz.f98.ntmps Tryz.f98.results.toList
noncomputable abbrev fc98 : FB := fb98
/-- (*ledgerline/txn.call).table$1 -/
def pl99 : Nat → Plan := noPl
def pb99 : Nat → Bool := noPb
noncomputable def fb99 : FB := fnB S pl99 pb99 (bodyOf Tryz.f99) Tryz.f99.ntmps Tryz.f99.results.toList
noncomputable abbrev fc99 : FB := fb99
/-- strings.Compare -/
def pl100 : Nat → Plan := noPl
def pb100 : Nat → Bool := noPb
noncomputable def fb100 : FB := fnB S pl100 pb100 (bodyOf Tryz.f100) Tryz.f100.ntmps Tryz.f100.results.toList
noncomputable abbrev fc100 : FB := fb100
/-- ledgerline/txn.each[ledgerline/api.Change] -/
def pl102 : Nat → Plan := noPl
def pb102 : Nat → Bool := noPb
noncomputable def fb102 : FB := fnB S pl102 pb102 (bodyOf Tryz.f102) Tryz.f102.ntmps Tryz.f102.results.toList
noncomputable abbrev fc102 : FB := fb102
/-- (*ledgerline/txn.call).end -/
def pl104 : Nat → Plan := noPl
def pb104 : Nat → Bool := noPb
noncomputable def fb104 : FB := fnB S pl104 pb104 (bodyOf Tryz.f104) Tryz.f104.ntmps Tryz.f104.results.toList
noncomputable abbrev fc104 : FB := fb104
/-- (*ledgerline/store.Store).append$1 -/
def pl108 : Nat → Plan := noPl
def pb108 : Nat → Bool := noPb
noncomputable def fb108 : FB := fnB S pl108 pb108 (bodyOf Tryz.f108) Tryz.f108.ntmps Tryz.f108.results.toList
noncomputable abbrev fc108 : FB := fb108
/-- (*ledgerline/wal.Log).Append -/
def pl109 : Nat → Plan := noPl
def pb109 : Nat → Bool := noPb
noncomputable def fb109 : FB := fnB S pl109 pb109 (bodyOf Tryz.f109) Tryz.f109.ntmps Tryz.f109.results.toList
noncomputable abbrev fc109 : FB := fb109
/-- ledgerline/code.Byte -/
def pl110 : Nat → Plan := noPl
def pb110 : Nat → Bool := noPb
noncomputable def fb110 : FB := fnB S pl110 pb110 (bodyOf Tryz.f110) Tryz.f110.ntmps Tryz.f110.results.toList
noncomputable abbrev fc110 : FB := fb110
/-- ledgerline/code.Int -/
def pl111 : Nat → Plan := noPl
def pb111 : Nat → Bool := noPb
noncomputable def fb111 : FB := fnB S pl111 pb111 (bodyOf Tryz.f111) Tryz.f111.ntmps Tryz.f111.results.toList
noncomputable abbrev fc111 : FB := fb111
/-- ledgerline/code.Text -/
def pl112 : Nat → Plan := noPl
def pb112 : Nat → Bool := noPb
noncomputable def fb112 : FB := fnB S pl112 pb112 (bodyOf Tryz.f112) Tryz.f112.ntmps Tryz.f112.results.toList
noncomputable abbrev fc112 : FB := fb112
/-- ledgerline/store.ownTxs -/
def pl117 : Nat → Plan := noPl
def pb117 : Nat → Bool := noPb
noncomputable def fb117 : FB := fnB S pl117 pb117 (bodyOf Tryz.f117) Tryz.f117.ntmps Tryz.f117.results.toList
noncomputable abbrev fc117 : FB := fb117
/-- slices.Clone[[]ledgerline/ledger.Block,ledgerline/ledger.Block] -/
def pl118 : Nat → Plan := noPl
def pb118 : Nat → Bool := noPb
noncomputable def fb118 : FB := fnB S pl118 pb118 (bodyOf Tryz.f118) Tryz.f118.ntmps Tryz.f118.results.toList
noncomputable abbrev fc118 : FB := fb118
/-- ledgerline/store.each[[]ledgerline/api.Tx] -/
def pl119 : Nat → Plan := noPl
def pb119 : Nat → Bool := noPb
noncomputable def fb119 : FB := fnB S pl119 pb119 (bodyOf Tryz.f119) Tryz.f119.ntmps Tryz.f119.results.toList
noncomputable abbrev fc119 : FB := fb119
/-- (*ledgerline/disk.Disk).checked -/
def pl120 : Nat → Plan := noPl
def pb120 : Nat → Bool := noPb
noncomputable def fb120 : FB := fnB S pl120 pb120 (bodyOf Tryz.f120) Tryz.f120.ntmps Tryz.f120.results.toList
noncomputable abbrev fc120 : FB := fb120
/-- slices.Clone[[]byte,byte] -/
def pl121 : Nat → Plan := noPl
def pb121 : Nat → Bool := noPb
noncomputable def fb121 : FB := fnB S pl121 pb121 (bodyOf Tryz.f121) Tryz.f121.ntmps Tryz.f121.results.toList
noncomputable abbrev fc121 : FB := fb121
/-- (*ledgerline/wal.lazy).read -/
def pl122 : Nat → Plan := noPl
def pb122 : Nat → Bool := noPb
noncomputable def fb122 : FB := fnB S pl122 pb122 (bodyOf Tryz.f122) Tryz.f122.ntmps Tryz.f122.results.toList
noncomputable abbrev fc122 : FB := fb122
/-- (*ledgerline/code.Reader).number -/
def pl123 : Nat → Plan := noPl
def pb123 : Nat → Bool := noPb
noncomputable def fb123 : FB := fnB S pl123 pb123 (bodyOf Tryz.f123) Tryz.f123.ntmps Tryz.f123.results.toList
noncomputable abbrev fc123 : FB := fb123
/-- slices.Clone[[][]byte,[]byte] -/
def pl124 : Nat → Plan := noPl
def pb124 : Nat → Bool := noPb
noncomputable def fb124 : FB := fnB S pl124 pb124 (bodyOf Tryz.f124) Tryz.f124.ntmps Tryz.f124.results.toList
noncomputable abbrev fc124 : FB := fb124
/-- slices.Clone[[]ledgerline/api.Col,ledgerline/api.Col] -/
def pl126 : Nat → Plan := noPl
def pb126 : Nat → Bool := noPb
noncomputable def fb126 : FB := fnB S pl126 pb126 (bodyOf Tryz.f126) Tryz.f126.ntmps Tryz.f126.results.toList
noncomputable abbrev fc126 : FB := fb126
/-- ledgerline/schema.Check -/
def pl127 : Nat → Plan := noPl
def pb127 : Nat → Bool := (fun s => List.elem s [3])
noncomputable def fb127 : FB := fnB S pl127 pb127 (bodyOf Tryz.f127) Tryz.f127.ntmps Tryz.f127.results.toList
noncomputable abbrev fc127 : FB := fb127
/-- (*ledgerline/code.Reader).take -/
def pl128 : Nat → Plan := noPl
def pb128 : Nat → Bool := noPb
noncomputable def fb128 : FB := fnB S pl128 pb128 (bodyOf Tryz.f128) Tryz.f128.ntmps Tryz.f128.results.toList
noncomputable abbrev fc128 : FB := fb128
/-- (*sync.Mutex).Lock -/
def pl133 : Nat → Plan := noPl
def pb133 : Nat → Bool := noPb
noncomputable def fb133 : FB := fnB S pl133 pb133 (bodyOf Tryz.f133) Tryz.f133.ntmps Tryz.f133.results.toList
noncomputable abbrev fc133 : FB := fb133
/-- (*sync.Mutex).Unlock -/
def pl134 : Nat → Plan := noPl
def pb134 : Nat → Bool := noPb
noncomputable def fb134 : FB := fnB S pl134 pb134 (bodyOf Tryz.f134) Tryz.f134.ntmps Tryz.f134.results.toList
noncomputable abbrev fc134 : FB := fb134
/-- (*sync/atomic.Bool).Store -/
def pl135 : Nat → Plan := (fun id => if id = 0 then (.light 0 (.light 1 (.light 2 (.light 3 (.heavy 4 [] (.heavy 5 [] .done)))))) else .done)
def pb135 : Nat → Bool := noPb
noncomputable def fb135 : FB := fnB S pl135 pb135 (bodyOf Tryz.f135) Tryz.f135.ntmps Tryz.f135.results.toList
noncomputable abbrev fc135 : FB := fb135
/-- (*ledgerline/txn.call).fail -/
def pl136 : Nat → Plan := noPl
def pb136 : Nat → Bool := (fun s => List.elem s [2, 3])
noncomputable def fb136 : FB := fnB S pl136 pb136 (bodyOf Tryz.f136) Tryz.f136.ntmps Tryz.f136.results.toList
noncomputable abbrev fc136 : FB := fb136
/-- slices.Insert[[]ledgerline/table.Table,ledgerline/table.Table] -/
def pl137 : Nat → Plan := (fun id => if id = 11 then (.light 0 (.light 1 (.light 2 (.light 3 (.light 4 (.light 5 (.light 6 (.light 7 (.heavy 8 [] .done))))))))) else if id = 15 then (.light 0 (.light 1 (.light 2 (.light 3 (.light 4 (.light 5 (.light 6 (.light 7 (.heavy 8 [] .done))))))))) else .done)
def pb137 : Nat → Bool := noPb
noncomputable def fb137 : FB := fnB S pl137 pb137 (bodyOf Tryz.f137) Tryz.f137.ntmps Tryz.f137.results.toList
noncomputable abbrev fc137 : FB := fb137
/-- (*sync/atomic.Int64).Store -/
def pl149 : Nat → Plan := noPl
def pb149 : Nat → Bool := noPb
noncomputable def fb149 : FB := fnB S pl149 pb149 (bodyOf Tryz.f149) Tryz.f149.ntmps Tryz.f149.results.toList
noncomputable abbrev fc149 : FB := fb149
/-- ledgerline/ledgerlineref8.first -/
def pl154 : Nat → Plan := noPl
def pb154 : Nat → Bool := noPb
noncomputable def fb154 : FB := fnB S pl154 pb154 (bodyOf Tryz.f154) Tryz.f154.ntmps Tryz.f154.results.toList
noncomputable abbrev fc154 : FB := fb154
/-- ledgerline/ledgerlineref8.Scan -/
def pl155 : Nat → Plan := noPl
def pb155 : Nat → Bool := noPb
noncomputable def fb155 : FB := fnB S pl155 pb155 (bodyOf Tryz.f155) Tryz.f155.ntmps Tryz.f155.results.toList
noncomputable abbrev fc155 : FB := fb155
/-- ledgerline/ledgerlineref1.New -/
def pl156 : Nat → Plan := noPl
def pb156 : Nat → Bool := (fun s => List.elem s [5])
noncomputable def fb156 : FB := fnB S pl156 pb156 (bodyOf Tryz.f156) Tryz.f156.ntmps Tryz.f156.results.toList
noncomputable abbrev fc156 : FB := fb156
/-- (*ledgerline/ledgerlineref1.Reader).Int -/
def pl161 : Nat → Plan := noPl
def pb161 : Nat → Bool := noPb
noncomputable def fb161 : FB := fnB S pl161 pb161 (bodyOf Tryz.f161) Tryz.f161.ntmps Tryz.f161.results.toList
noncomputable abbrev fc161 : FB := fb161
/-- ledgerline/ledgerlineref9.Check -/
def pl172 : Nat → Plan := (fun id => if id = 8 then (.light 0 (.light 1 (.light 2 (.light 3 (.light 4 (.light 5 (.light 6 (.heavy 7 [] (.light 8 (.light 9 (.light 10 (.heavy 11 [] (.heavy 12 [] .done))))))))))))) else .done)
def pb172 : Nat → Bool := noPb
noncomputable def fb172 : FB := fnB S pl172 pb172 (bodyOf Tryz.f172) Tryz.f172.ntmps Tryz.f172.results.toList
noncomputable abbrev fc172 : FB := fb172
/-- ledgerline/ledgerlineref13.Find -/
def pl173 : Nat → Plan := noPl
def pb173 : Nat → Bool := noPb
noncomputable def fb173 : FB := fnB S pl173 pb173 (bodyOf Tryz.f173) Tryz.f173.ntmps Tryz.f173.results.toList
noncomputable abbrev fc173 : FB := fb173
/-- ledgerline/ledgerlineref13.below -/
def pl174 : Nat → Plan := (fun id => if id = 4 then (.light 0 (.light 1 (.light 2 (.light 3 (.light 4 (.light 5 (.light 6 .done))))))) else if id = 5 then (.light 0 (.light 1 (.light 2 (.light 3 (.light 4 (.light 5 (.light 6 (.heavy 7 [] .done)))))))) else .done)
def pb174 : Nat → Bool := noPb
noncomputable def fb174 : FB := fnB S pl174 pb174 (bodyOf Tryz.f174) Tryz.f174.ntmps Tryz.f174.results.toList
noncomputable abbrev fc174 : FB := fb174
/-- ledgerline/schema.Bytes -/
def pl175 : Nat → Plan := (fun id => if id = 1 then (.light 0 (.light 1 (.light 3 (.light 4 (.light 5 (.heavy 2 [4] (.heavy 6 [] (.heavy 7 [] .done)))))))) else if id = 5 then (.light 0 (.light 1 (.light 2 (.light 4 (.light 5 (.light 7 (.light 8 (.heavy 3 [8, 5] (.heavy 6 [8] (.heavy 9 [] (.heavy 10 [] (.heavy 11 [] .done)))))))))))) else if id = 7 then (.light 0 (.light 1 (.light 2 (.light 4 (.light 5 (.heavy 3 [5] (.heavy 6 [] (.heavy 7 [] (.heavy 8 [] .done))))))))) else .done)
def pb175 : Nat → Bool := noPb
noncomputable def fb175 : FB := fnB S pl175 pb175 (bodyOf Tryz.f175) Tryz.f175.ntmps Tryz.f175.results.toList
noncomputable abbrev fc175 : FB := fb175
/-- (*ledgerline/ledgerlineref7.Disk).Read -/
def pl176 : Nat → Plan := noPl
def pb176 : Nat → Bool := noPb
noncomputable def fb176 : FB := fnB S pl176 pb176 (bodyOf Tryz.f176) Tryz.f176.ntmps Tryz.f176.results.toList
noncomputable abbrev fc176 : FB := fb176
/-- ledgerline/ledgerlineref1.Int -/
def pl177 : Nat → Plan := noPl
def pb177 : Nat → Bool := noPb
noncomputable def fb177 : FB := fnB S pl177 pb177 (bodyOf Tryz.f177) Tryz.f177.ntmps Tryz.f177.results.toList
noncomputable abbrev fc177 : FB := fb177
/-- (*ledgerline/ledgerlineref7.Disk).Write -/
def pl178 : Nat → Plan := (fun id => if id = 10 then (.light 0 (.light 1 (.light 2 (.light 3 (.light 4 (.light 5 (.heavy 6 [4] (.heavy 7 [] (.light 8 (.light 9 (.heavy 10 [] .done))))))))))) else if id = 11 then (.light 0 (.light 1 (.light 2 (.light 3 (.light 4 (.light 5 (.light 6 (.light 7 (.heavy 8 [] .done))))))))) else .done)
def pb178 : Nat → Bool := noPb
noncomputable def fb178 : FB := fnB S pl178 pb178 (bodyOf Tryz.f178) Tryz.f178.ntmps Tryz.f178.results.toList
noncomputable abbrev fc178 : FB := fb178
/-- (*ledgerline/ledgerlineref7.Disk).Sync -/
def pl179 : Nat → Plan := noPl
def pb179 : Nat → Bool := noPb
noncomputable def fb179 : FB := fnB S pl179 pb179 (bodyOf Tryz.f179) Tryz.f179.ntmps Tryz.f179.results.toList
noncomputable abbrev fc179 : FB := fb179
/-- ledgerline/ledgerlineref1.Text -/
def pl180 : Nat → Plan := noPl
def pb180 : Nat → Bool := noPb
noncomputable def fb180 : FB := fnB S pl180 pb180 (bodyOf Tryz.f180) Tryz.f180.ntmps Tryz.f180.results.toList
noncomputable abbrev fc180 : FB := fb180
/-- ledgerline/ledgerlineref1.Byte -/
def pl181 : Nat → Plan := noPl
def pb181 : Nat → Bool := noPb
noncomputable def fb181 : FB := fnB S pl181 pb181 (bodyOf Tryz.f181) Tryz.f181.ntmps Tryz.f181.results.toList
noncomputable abbrev fc181 : FB := fb181
/-- ledgerline/ledgerlineref9.Bytes -/
def pl182 : Nat → Plan := (fun id => if id = 1 then (.light 0 (.light 1 (.light 3 (.light 4 (.light 5 (.heavy 2 [4] (.heavy 6 [] (.heavy 7 [] .done)))))))) else if id = 5 then (.light 0 (.light 1 (.light 2 (.light 3 (.light 4 (.light 5 (.light 6 (.light 8 (.light 9 (.light 10 (.light 11 (.light 12 (.light 13 (.light 15 (.light 16 (.light 17 (.light 18 (.light 19 (.light 20 (.heavy 7 [20, 16, 13, 9] (.heavy 14 [20, 16] (.heavy 21 [] (.heavy 22 [] (.heavy 23 [] .done)))))))))))))))))))))))) else if id = 6 then (.light 0 (.light 1 (.light 2 (.light 4 (.light 5 (.heavy 3 [5] (.heavy 6 [] (.heavy 7 [] (.heavy 8 [] .done))))))))) else .done)
def pb182 : Nat → Bool := noPb
noncomputable def fb182 : FB := fnB S pl182 pb182 (bodyOf Tryz.f182) Tryz.f182.ntmps Tryz.f182.results.toList
noncomputable abbrev fc182 : FB := fb182
/-- ledgerline/txn.each[[]ledgerline/api.Value] -/
def pl183 : Nat → Plan := noPl
def pb183 : Nat → Bool := noPb
noncomputable def fb183 : FB := fnB S pl183 pb183 (bodyOf Tryz.f183) Tryz.f183.ntmps Tryz.f183.results.toList
noncomputable abbrev fc183 : FB := fb183
/-- slices.Clone[[]ledgerline/txn.Mark,ledgerline/txn.Mark] -/
def pl185 : Nat → Plan := noPl
def pb185 : Nat → Bool := noPb
noncomputable def fb185 : FB := fnB S pl185 pb185 (bodyOf Tryz.f185) Tryz.f185.ntmps Tryz.f185.results.toList
noncomputable abbrev fc185 : FB := fb185
/-- ledgerline/store.each[[]ledgerline/api.Value] -/
def pl187 : Nat → Plan := noPl
def pb187 : Nat → Bool := noPb
noncomputable def fb187 : FB := fnB S pl187 pb187 (bodyOf Tryz.f187) Tryz.f187.ntmps Tryz.f187.results.toList
noncomputable abbrev fc187 : FB := fb187
/-- ledgerline/store.each[ledgerline/api.Change] -/
def pl189 : Nat → Plan := noPl
def pb189 : Nat → Bool := noPb
noncomputable def fb189 : FB := fnB S pl189 pb189 (bodyOf Tryz.f189) Tryz.f189.ntmps Tryz.f189.results.toList
noncomputable abbrev fc189 : FB := fb189
/-- (*ledgerline/txn.call).hold$1 -/
def pl191 : Nat → Plan := (fun id => if id = 1 then (.light 0 (.light 1 (.light 2 (.light 3 (.light 4 (.light 5 (.light 6 (.light 7 (.light 8 (.light 9 (.heavy 10 [0] (.light 11 (.light 12 (.light 13 (.light 14 (.light 15 (.light 16 (.heavy 17 [] (.heavy 18 [] .done))))))))))))))))))) else .done)
def pb191 : Nat → Bool := noPb
noncomputable def fb191 : FB := fnB S pl191 pb191 (bodyOf Tryz.f191) Tryz.f191.ntmps Tryz.f191.results.toList
noncomputable abbrev fc191 : FB := fb191
/-- ledgerline/lock.Ask -/
def pl192 : Nat → Plan := (fun id => if id = 2 then (.light 0 (.light 1 (.light 2 (.light 3 (.light 4 (.light 5 (.light 6 (.light 7 (.light 8 (.light 9 (.light 10 (.light 11 (.light 12 (.light 13 (.light 14 (.light 15 (.light 16 (.light 17 (.light 18 (.heavy 19 [] .done)))))))))))))))))))) else if id = 4 then (.light 0 (.light 1 (.light 3 (.light 4 (.light 5 (.light 6 (.light 9 (.heavy 2 [6, 4] (.heavy 7 [] (.light 8 (.heavy 10 [] .done))))))))))) else .done)
def pb192 : Nat → Bool := noPb
noncomputable def fb192 : FB := fnB S pl192 pb192 (bodyOf Tryz.f192) Tryz.f192.ntmps Tryz.f192.results.toList
noncomputable abbrev fc192 : FB := fb192
/-- internal/bytealg.CompareString -/
def pl194 : Nat → Plan := noPl
def pb194 : Nat → Bool := noPb
noncomputable def fb194 : FB := fnB S pl194 pb194 (bodyOf Tryz.f194) Tryz.f194.ntmps Tryz.f194.results.toList
noncomputable abbrev fc194 : FB := fb194
/-- slices.Delete[[]ledgerline/txn.Work,ledgerline/txn.Work] -/
def pl195 : Nat → Plan := (fun id => if id = 5 then (.light 0 (.light 1 (.light 2 (.light 3 (.light 4 (.light 5 (.heavy 6 [] (.heavy 7 [] .done)))))))) else .done)
def pb195 : Nat → Bool := noPb
noncomputable def fb195 : FB := fnB S pl195 pb195 (bodyOf Tryz.f195) Tryz.f195.ntmps Tryz.f195.results.toList
noncomputable abbrev fc195 : FB := fb195
/-- ledgerline/lock.Free -/
def pl196 : Nat → Plan := (fun id => if id = 1 then (.light 0 (.light 1 (.light 2 (.light 4 (.light 5 (.light 6 (.heavy 3 [5] (.heavy 7 [] (.light 8 (.heavy 9 [] .done)))))))))) else .done)
def pb196 : Nat → Bool := noPb
noncomputable def fb196 : FB := fnB S pl196 pb196 (bodyOf Tryz.f196) Tryz.f196.ntmps Tryz.f196.results.toList
noncomputable abbrev fc196 : FB := fb196
/-- (*ledgerline/disk.Disk).Pages -/
def pl199 : Nat → Plan := noPl
def pb199 : Nat → Bool := noPb
noncomputable def fb199 : FB := fnB S pl199 pb199 (bodyOf Tryz.f199) Tryz.f199.ntmps Tryz.f199.results.toList
noncomputable abbrev fc199 : FB := fb199
/-- (*sync/atomic.Int64).Load -/
def pl200 : Nat → Plan := noPl
def pb200 : Nat → Bool := noPb
noncomputable def fb200 : FB := fnB S pl200 pb200 (bodyOf Tryz.f200) Tryz.f200.ntmps Tryz.f200.results.toList
noncomputable abbrev fc200 : FB := fb200
/-- (*ledgerline/wal.Log).pages -/
def pl201 : Nat → Plan := (fun id => if id = 11 then (.light 0 (.light 1 (.light 2 (.light 3 (.light 4 (.light 5 (.light 6 (.light 7 (.heavy 8 [] (.heavy 9 [] .done)))))))))) else .done)
def pb201 : Nat → Bool := noPb
noncomputable def fb201 : FB := fnB S pl201 pb201 (bodyOf Tryz.f201) Tryz.f201.ntmps Tryz.f201.results.toList
noncomputable abbrev fc201 : FB := fb201
/-- slices.Concat[[]byte,byte] -/
def pl202 : Nat → Plan := noPl
def pb202 : Nat → Bool := noPb
noncomputable def fb202 : FB := fnB S pl202 pb202 (bodyOf Tryz.f202) Tryz.f202.ntmps Tryz.f202.results.toList
noncomputable abbrev fc202 : FB := fb202
/-- (*ledgerline/disk.Disk).Write -/
def pl203 : Nat → Plan := (fun id => if id = 6 then (.light 0 (.light 1 (.light 2 (.light 3 (.light 4 (.light 5 (.light 6 (.heavy 7 [] .done)))))))) else if id = 7 then (.light 0 (.light 1 (.light 2 (.light 3 (.light 4 (.light 5 (.light 6 (.light 7 (.heavy 8 [4] (.heavy 9 [] (.light 10 (.light 11 (.heavy 12 [] .done))))))))))))) else .done)
def pb203 : Nat → Bool := (fun s => List.elem s [8])
noncomputable def fb203 : FB := fnB S pl203 pb203 (bodyOf Tryz.f203) Tryz.f203.ntmps Tryz.f203.results.toList
noncomputable abbrev fc203 : FB := fb203
/-- (*ledgerline/wal.Log).Count -/
def pl204 : Nat → Plan := noPl
def pb204 : Nat → Bool := noPb
noncomputable def fb204 : FB := fnB S pl204 pb204 (bodyOf Tryz.f204) Tryz.f204.ntmps Tryz.f204.results.toList
noncomputable abbrev fc204 : FB := fb204
/-- (*ledgerline/disk.Disk).Sync -/
def pl205 : Nat → Plan := (fun id => if id = 3 then (.light 0 (.light 1 (.light 2 (.light 3 (.light 4 (.light 5 (.light 6 (.light 7 (.heavy 8 [] .done))))))))) else .done)
def pb205 : Nat → Bool := noPb
noncomputable def fb205 : FB := fnB S pl205 pb205 (bodyOf Tryz.f205) Tryz.f205.ntmps Tryz.f205.results.toList
noncomputable abbrev fc205 : FB := fb205
/-- (*sync/atomic.Int64).Add -/
def pl206 : Nat → Plan := noPl
def pb206 : Nat → Bool := noPb
noncomputable def fb206 : FB := fnB S pl206 pb206 (bodyOf Tryz.f206) Tryz.f206.ntmps Tryz.f206.results.toList
noncomputable abbrev fc206 : FB := fb206
/-- ledgerline/store.each[ledgerline/api.Tx] -/
def pl208 : Nat → Plan := noPl
def pb208 : Nat → Bool := noPb
noncomputable def fb208 : FB := fnB S pl208 pb208 (bodyOf Tryz.f208) Tryz.f208.ntmps Tryz.f208.results.toList
noncomputable abbrev fc208 : FB := fb208
/-- (*ledgerline/disk.power).Dead -/
def pl210 : Nat → Plan := noPl
def pb210 : Nat → Bool := noPb
noncomputable def fb210 : FB := fnB S pl210 pb210 (bodyOf Tryz.f210) Tryz.f210.ntmps Tryz.f210.results.toList
noncomputable abbrev fc210 : FB := fb210
/-- (*ledgerline/schema.speller).name -/
def pl211 : Nat → Plan := noPl
def pb211 : Nat → Bool := noPb
noncomputable def fb211 : FB := fnB S pl211 pb211 (bodyOf Tryz.f211) Tryz.f211.ntmps Tryz.f211.results.toList
noncomputable abbrev fc211 : FB := fb211
/-- ledgerline/schema.Find -/
def pl212 : Nat → Plan := noPl
def pb212 : Nat → Bool := (fun s => List.elem s [3])
noncomputable def fb212 : FB := fnB S pl212 pb212 (bodyOf Tryz.f212) Tryz.f212.ntmps Tryz.f212.results.toList
noncomputable abbrev fc212 : FB := fb212
/-- (*internal/sync.Mutex).Lock -/
def pl214 : Nat → Plan := noPl
def pb214 : Nat → Bool := noPb
noncomputable def fb214 : FB := fnB S pl214 pb214 (bodyOf Tryz.f214) Tryz.f214.ntmps Tryz.f214.results.toList
noncomputable abbrev fc214 : FB := fb214
/-- (*internal/sync.Mutex).Unlock -/
def pl215 : Nat → Plan := noPl
def pb215 : Nat → Bool := noPb
noncomputable def fb215 : FB := fnB S pl215 pb215 (bodyOf Tryz.f215) Tryz.f215.ntmps Tryz.f215.results.toList
noncomputable abbrev fc215 : FB := fb215
/-- sync/atomic.b32 -/
def pl217 : Nat → Plan := noPl
def pb217 : Nat → Bool := noPb
noncomputable def fb217 : FB := fnB S pl217 pb217 (bodyOf Tryz.f217) Tryz.f217.ntmps Tryz.f217.results.toList
noncomputable abbrev fc217 : FB := fb217
/-- ledgerline/ledgerlineref8.records -/
def pl236 : Nat → Plan := noPl
def pb236 : Nat → Bool := noPb
noncomputable def fb236 : FB := fnB S pl236 pb236 (bodyOf Tryz.f236) Tryz.f236.ntmps Tryz.f236.results.toList
noncomputable abbrev fc236 : FB := fb236
/-- ledgerline/ledgerlineref8.row -/
def pl237 : Nat → Plan := noPl
def pb237 : Nat → Bool := noPb
noncomputable def fb237 : FB := fnB S pl237 pb237 (bodyOf Tryz.f237) Tryz.f237.ntmps Tryz.f237.results.toList
noncomputable abbrev fc237 : FB := fb237
/-- (*ledgerline/ledgerlineref1.Reader).take -/
def pl238 : Nat → Plan := (fun id => if id = 1 then (.light 0 (.light 1 (.light 2 (.light 3 (.light 4 (.light 5 (.light 6 (.light 7 (.light 8 (.light 9 (.light 10 (.light 11 (.light 12 (.light 13 (.light 14 (.light 15 (.light 16 (.light 17 (.light 18 .done))))))))))))))))))) else if id = 6 then (.light 0 (.light 1 (.light 2 (.light 3 (.light 4 (.light 5 (.light 6 (.light 7 (.light 8 (.light 9 (.light 10 (.light 11 (.light 12 (.light 13 (.light 14 (.heavy 15 [] .done)))))))))))))))) else .done)
def pb238 : Nat → Bool := noPb
noncomputable def fb238 : FB := fnB S pl238 pb238 (bodyOf Tryz.f238) Tryz.f238.ntmps Tryz.f238.results.toList
noncomputable abbrev fc238 : FB := fb238
/-- ledgerline/ledgerlineref9.Name -/
def pl250 : Nat → Plan := noPl
def pb250 : Nat → Bool := noPb
noncomputable def fb250 : FB := fnB S pl250 pb250 (bodyOf Tryz.f250) Tryz.f250.ntmps Tryz.f250.results.toList
noncomputable abbrev fc250 : FB := fb250
/-- ledgerline/ledgerlineref9.Find -/
def pl251 : Nat → Plan := noPl
def pb251 : Nat → Bool := noPb
noncomputable def fb251 : FB := fnB S pl251 pb251 (bodyOf Tryz.f251) Tryz.f251.ntmps Tryz.f251.results.toList
noncomputable abbrev fc251 : FB := fb251
/-- ledgerline/schema.flag -/
def pl252 : Nat → Plan := noPl
def pb252 : Nat → Bool := noPb
noncomputable def fb252 : FB := fnB S pl252 pb252 (bodyOf Tryz.f252) Tryz.f252.ntmps Tryz.f252.results.toList
noncomputable abbrev fc252 : FB := fb252
/-- (*ledgerline/ledgerlineref7.Disk).op -/
def pl253 : Nat → Plan := noPl
def pb253 : Nat → Bool := noPb
noncomputable def fb253 : FB := fnB S pl253 pb253 (bodyOf Tryz.f253) Tryz.f253.ntmps Tryz.f253.results.toList
noncomputable abbrev fc253 : FB := fb253
/-- ledgerline/ledgerlineref9.bit -/
def pl254 : Nat → Plan := noPl
def pb254 : Nat → Bool := noPb
noncomputable def fb254 : FB := fnB S pl254 pb254 (bodyOf Tryz.f254) Tryz.f254.ntmps Tryz.f254.results.toList
noncomputable abbrev fc254 : FB := fb254
/-- (ledgerline/lock.Locks).mine -/
def pl256 : Nat → Plan := noPl
def pb256 : Nat → Bool := (fun s => List.elem s [3])
noncomputable def fb256 : FB := fnB S pl256 pb256 (bodyOf Tryz.f256) Tryz.f256.ntmps Tryz.f256.results.toList
noncomputable abbrev fc256 : FB := fb256
/-- slices.ContainsFunc[[]ledgerline/lock.Hold,ledgerline/lock.Hold] -/
def pl257 : Nat → Plan := noPl
def pb257 : Nat → Bool := noPb
noncomputable def fb257 : FB := fnB S pl257 pb257 (bodyOf Tryz.f257) Tryz.f257.ntmps Tryz.f257.results.toList
noncomputable abbrev fc257 : FB := fb257
/-- ledgerline/lock.without -/
def pl259 : Nat → Plan := noPl
def pb259 : Nat → Bool := noPb
noncomputable def fb259 : FB := fnB S pl259 pb259 (bodyOf Tryz.f259) Tryz.f259.ntmps Tryz.f259.results.toList
noncomputable abbrev fc259 : FB := fb259
/-- slices.Concat[[]ledgerline/lock.Hold,ledgerline/lock.Hold] -/
def pl260 : Nat → Plan := noPl
def pb260 : Nat → Bool := noPb
noncomputable def fb260 : FB := fnB S pl260 pb260 (bodyOf Tryz.f260) Tryz.f260.ntmps Tryz.f260.results.toList
noncomputable abbrev fc260 : FB := fb260
/-- slices.Grow[[]byte,byte] -/
def pl265 : Nat → Plan := noPl
def pb265 : Nat → Bool := noPb
noncomputable def fb265 : FB := fnB S pl265 pb265 (bodyOf Tryz.f265) Tryz.f265.ntmps Tryz.f265.results.toList
noncomputable abbrev fc265 : FB := fb265
/-- (*ledgerline/disk.power).step -/
def pl266 : Nat → Plan := noPl
def pb266 : Nat → Bool := noPb
noncomputable def fb266 : FB := fnB S pl266 pb266 (bodyOf Tryz.f266) Tryz.f266.ntmps Tryz.f266.results.toList
noncomputable abbrev fc266 : FB := fb266
/-- (*ledgerline/schema.speller).read -/
def pl269 : Nat → Plan := noPl
def pb269 : Nat → Bool := noPb
noncomputable def fb269 : FB := fnB S pl269 pb269 (bodyOf Tryz.f269) Tryz.f269.ntmps Tryz.f269.results.toList
noncomputable abbrev fc269 : FB := fb269
/-- slices.IndexFunc[[]ledgerline/api.Col,ledgerline/api.Col] -/
def pl270 : Nat → Plan := noPl
def pb270 : Nat → Bool := noPb
noncomputable def fb270 : FB := fnB S pl270 pb270 (bodyOf Tryz.f270) Tryz.f270.ntmps Tryz.f270.results.toList
noncomputable abbrev fc270 : FB := fb270
/-- ledgerline/schema.Find$1 -/
def pl271 : Nat → Plan := noPl
def pb271 : Nat → Bool := noPb
noncomputable def fb271 : FB := fnB S pl271 pb271 (bodyOf Tryz.f271) Tryz.f271.ntmps Tryz.f271.results.toList
noncomputable abbrev fc271 : FB := fb271
/-- ledgerline/ledgerlineref9.Reserved -/
def pl302 : Nat → Plan := noPl
def pb302 : Nat → Bool := noPb
noncomputable def fb302 : FB := fnB S pl302 pb302 (bodyOf Tryz.f302) Tryz.f302.ntmps Tryz.f302.results.toList
noncomputable abbrev fc302 : FB := fb302
/-- slices.IndexFunc[[]ledgerline/lock.Hold,ledgerline/lock.Hold] -/
def pl303 : Nat → Plan := noPl
def pb303 : Nat → Bool := noPb
noncomputable def fb303 : FB := fnB S pl303 pb303 (bodyOf Tryz.f303) Tryz.f303.ntmps Tryz.f303.results.toList
noncomputable abbrev fc303 : FB := fb303
/-- slices.Grow[[]ledgerline/lock.Hold,ledgerline/lock.Hold] -/
def pl305 : Nat → Plan := noPl
def pb305 : Nat → Bool := noPb
noncomputable def fb305 : FB := fnB S pl305 pb305 (bodyOf Tryz.f305) Tryz.f305.ntmps Tryz.f305.results.toList
noncomputable abbrev fc305 : FB := fb305
/-- ledgerline/schema.language -/
def pl307 : Nat → Plan := noPl
def pb307 : Nat → Bool := noPb
noncomputable def fb307 : FB := fnB S pl307 pb307 (bodyOf Tryz.f307) Tryz.f307.ntmps Tryz.f307.results.toList
noncomputable abbrev fc307 : FB := fb307
noncomputable def look (g : Nat) : FB := lkB (blt g 117) (lkB (blt g 50) (lkB (blt g 28) (lkB (blt g 12) (lkB (blt g 7) (lkB (blt g 5) (lkB (blt g 4) (lkB (Nat.beq g 3) fc3 .fail) (lkB (Nat.beq g 4) fc4 .fail)) (lkB (blt g 6) (lkB (Nat.beq g 5) fc5 .fail) (lkB (Nat.beq g 6) fc6 .fail))) (lkB (blt g 9) (lkB (blt g 8) (lkB (Nat.beq g 7) fc7 .fail) (lkB (Nat.beq g 8) fc8 .fail)) (lkB (blt g 10) (lkB (Nat.beq g 9) fc9 .fail) (lkB (blt g 11) (lkB (Nat.beq g 10) fc10 .fail) (lkB (Nat.beq g 11) fc11 .fail))))) (lkB (blt g 17) (lkB (blt g 14) (lkB (blt g 13) (lkB (Nat.beq g 12) fc12 .fail) (lkB (Nat.beq g 13) fc13 .fail)) (lkB (blt g 15) (lkB (Nat.beq g 14) fc14 .fail) (lkB (blt g 16) (lkB (Nat.beq g 15) fc15 .fail) (lkB (Nat.beq g 16) fc16 .fail)))) (lkB (blt g 19) (lkB (blt g 18) (lkB (Nat.beq g 17) fc17 .fail) (lkB (Nat.beq g 18) fc18 .fail)) (lkB (blt g 21) (lkB (Nat.beq g 19) fc19 .fail) (lkB (blt g 23) (lkB (Nat.beq g 21) fc21 .fail) (lkB (Nat.beq g 23) fc23 .fail)))))) (lkB (blt g 37) (lkB (blt g 32) (lkB (blt g 30) (lkB (blt g 29) (lkB (Nat.beq g 28) fc28 .fail) (lkB (Nat.beq g 29) fc29 .fail)) (lkB (blt g 31) (lkB (Nat.beq g 30) fc30 .fail) (lkB (Nat.beq g 31) fc31 .fail))) (lkB (blt g 34) (lkB (blt g 33) (lkB (Nat.beq g 32) fc32 .fail) (lkB (Nat.beq g 33) fc33 .fail)) (lkB (blt g 35) (lkB (Nat.beq g 34) fc34 .fail) (lkB (blt g 36) (lkB (Nat.beq g 35) fc35 .fail) (lkB (Nat.beq g 36) fc36 .fail))))) (lkB (blt g 42) (lkB (blt g 39) (lkB (blt g 38) (lkB (Nat.beq g 37) fc37 .fail) (lkB (Nat.beq g 38) fc38 .fail)) (lkB (blt g 40) (lkB (Nat.beq g 39) fc39 .fail) (lkB (blt g 41) (lkB (Nat.beq g 40) fc40 .fail) (lkB (Nat.beq g 41) fc41 .fail)))) (lkB (blt g 44) (lkB (blt g 43) (lkB (Nat.beq g 42) fc42 .fail) (lkB (Nat.beq g 43) fc43 .fail)) (lkB (blt g 45) (lkB (Nat.beq g 44) fc44 .fail) (lkB (blt g 47) (lkB (Nat.beq g 45) fc45 .fail) (lkB (Nat.beq g 47) fc47 .fail))))))) (lkB (blt g 85) (lkB (blt g 66) (lkB (blt g 54) (lkB (blt g 52) (lkB (blt g 51) (lkB (Nat.beq g 50) fc50 .fail) (lkB (Nat.beq g 51) fc51 .fail)) (lkB (blt g 53) (lkB (Nat.beq g 52) fc52 .fail) (lkB (Nat.beq g 53) fc53 .fail))) (lkB (blt g 56) (lkB (blt g 55) (lkB (Nat.beq g 54) fc54 .fail) (lkB (Nat.beq g 55) fc55 .fail)) (lkB (blt g 64) (lkB (Nat.beq g 56) fc56 .fail) (lkB (blt g 65) (lkB (Nat.beq g 64) fc64 .fail) (lkB (Nat.beq g 65) fc65 .fail))))) (lkB (blt g 80) (lkB (blt g 75) (lkB (blt g 73) (lkB (Nat.beq g 66) fc66 .fail) (lkB (Nat.beq g 73) fc73 .fail)) (lkB (blt g 78) (lkB (Nat.beq g 75) fc75 .fail) (lkB (blt g 79) (lkB (Nat.beq g 78) fc78 .fail) (lkB (Nat.beq g 79) fc79 .fail)))) (lkB (blt g 82) (lkB (blt g 81) (lkB (Nat.beq g 80) fc80 .fail) (lkB (Nat.beq g 81) fc81 .fail)) (lkB (blt g 83) (lkB (Nat.beq g 82) fc82 .fail) (lkB (blt g 84) (lkB (Nat.beq g 83) fc83 .fail) (lkB (Nat.beq g 84) fc84 .fail)))))) (lkB (blt g 98) (lkB (blt g 92) (lkB (blt g 87) (lkB (blt g 86) (lkB (Nat.beq g 85) fc85 .fail) (lkB (Nat.beq g 86) fc86 .fail)) (lkB (blt g 88) (lkB (Nat.beq g 87) fc87 .fail) (lkB (blt g 89) (lkB (Nat.beq g 88) fc88 .fail) (lkB (Nat.beq g 89) fc89 .fail)))) (lkB (blt g 94) (lkB (blt g 93) (lkB (Nat.beq g 92) fc92 .fail) (lkB (Nat.beq g 93) fc93 .fail)) (lkB (blt g 95) (lkB (Nat.beq g 94) fc94 .fail) (lkB (blt g 97) (lkB (Nat.beq g 95) fc95 .fail) (lkB (Nat.beq g 97) fc97 .fail))))) (lkB (blt g 108) (lkB (blt g 100) (lkB (blt g 99) (lkB (Nat.beq g 98) fc98 .fail) (lkB (Nat.beq g 99) fc99 .fail)) (lkB (blt g 102) (lkB (Nat.beq g 100) fc100 .fail) (lkB (blt g 104) (lkB (Nat.beq g 102) fc102 .fail) (lkB (Nat.beq g 104) fc104 .fail)))) (lkB (blt g 110) (lkB (blt g 109) (lkB (Nat.beq g 108) fc108 .fail) (lkB (Nat.beq g 109) fc109 .fail)) (lkB (blt g 111) (lkB (Nat.beq g 110) fc110 .fail) (lkB (blt g 112) (lkB (Nat.beq g 111) fc111 .fail) (lkB (Nat.beq g 112) fc112 .fail)))))))) (lkB (blt g 194) (lkB (blt g 156) (lkB (blt g 127) (lkB (blt g 121) (lkB (blt g 119) (lkB (blt g 118) (lkB (Nat.beq g 117) fc117 .fail) (lkB (Nat.beq g 118) fc118 .fail)) (lkB (blt g 120) (lkB (Nat.beq g 119) fc119 .fail) (lkB (Nat.beq g 120) fc120 .fail))) (lkB (blt g 123) (lkB (blt g 122) (lkB (Nat.beq g 121) fc121 .fail) (lkB (Nat.beq g 122) fc122 .fail)) (lkB (blt g 124) (lkB (Nat.beq g 123) fc123 .fail) (lkB (blt g 126) (lkB (Nat.beq g 124) fc124 .fail) (lkB (Nat.beq g 126) fc126 .fail))))) (lkB (blt g 136) (lkB (blt g 133) (lkB (blt g 128) (lkB (Nat.beq g 127) fc127 .fail) (lkB (Nat.beq g 128) fc128 .fail)) (lkB (blt g 134) (lkB (Nat.beq g 133) fc133 .fail) (lkB (blt g 135) (lkB (Nat.beq g 134) fc134 .fail) (lkB (Nat.beq g 135) fc135 .fail)))) (lkB (blt g 149) (lkB (blt g 137) (lkB (Nat.beq g 136) fc136 .fail) (lkB (Nat.beq g 137) fc137 .fail)) (lkB (blt g 154) (lkB (Nat.beq g 149) fc149 .fail) (lkB (blt g 155) (lkB (Nat.beq g 154) fc154 .fail) (lkB (Nat.beq g 155) fc155 .fail)))))) (lkB (blt g 179) (lkB (blt g 174) (lkB (blt g 172) (lkB (blt g 161) (lkB (Nat.beq g 156) fc156 .fail) (lkB (Nat.beq g 161) fc161 .fail)) (lkB (blt g 173) (lkB (Nat.beq g 172) fc172 .fail) (lkB (Nat.beq g 173) fc173 .fail))) (lkB (blt g 176) (lkB (blt g 175) (lkB (Nat.beq g 174) fc174 .fail) (lkB (Nat.beq g 175) fc175 .fail)) (lkB (blt g 177) (lkB (Nat.beq g 176) fc176 .fail) (lkB (blt g 178) (lkB (Nat.beq g 177) fc177 .fail) (lkB (Nat.beq g 178) fc178 .fail))))) (lkB (blt g 185) (lkB (blt g 181) (lkB (blt g 180) (lkB (Nat.beq g 179) fc179 .fail) (lkB (Nat.beq g 180) fc180 .fail)) (lkB (blt g 182) (lkB (Nat.beq g 181) fc181 .fail) (lkB (blt g 183) (lkB (Nat.beq g 182) fc182 .fail) (lkB (Nat.beq g 183) fc183 .fail)))) (lkB (blt g 189) (lkB (blt g 187) (lkB (Nat.beq g 185) fc185 .fail) (lkB (Nat.beq g 187) fc187 .fail)) (lkB (blt g 191) (lkB (Nat.beq g 189) fc189 .fail) (lkB (blt g 192) (lkB (Nat.beq g 191) fc191 .fail) (lkB (Nat.beq g 192) fc192 .fail))))))) (lkB (blt g 237) (lkB (blt g 205) (lkB (blt g 200) (lkB (blt g 196) (lkB (blt g 195) (lkB (Nat.beq g 194) fc194 .fail) (lkB (Nat.beq g 195) fc195 .fail)) (lkB (blt g 199) (lkB (Nat.beq g 196) fc196 .fail) (lkB (Nat.beq g 199) fc199 .fail))) (lkB (blt g 202) (lkB (blt g 201) (lkB (Nat.beq g 200) fc200 .fail) (lkB (Nat.beq g 201) fc201 .fail)) (lkB (blt g 203) (lkB (Nat.beq g 202) fc202 .fail) (lkB (blt g 204) (lkB (Nat.beq g 203) fc203 .fail) (lkB (Nat.beq g 204) fc204 .fail))))) (lkB (blt g 212) (lkB (blt g 208) (lkB (blt g 206) (lkB (Nat.beq g 205) fc205 .fail) (lkB (Nat.beq g 206) fc206 .fail)) (lkB (blt g 210) (lkB (Nat.beq g 208) fc208 .fail) (lkB (blt g 211) (lkB (Nat.beq g 210) fc210 .fail) (lkB (Nat.beq g 211) fc211 .fail)))) (lkB (blt g 215) (lkB (blt g 214) (lkB (Nat.beq g 212) fc212 .fail) (lkB (Nat.beq g 214) fc214 .fail)) (lkB (blt g 217) (lkB (Nat.beq g 215) fc215 .fail) (lkB (blt g 236) (lkB (Nat.beq g 217) fc217 .fail) (lkB (Nat.beq g 236) fc236 .fail)))))) (lkB (blt g 260) (lkB (blt g 253) (lkB (blt g 250) (lkB (blt g 238) (lkB (Nat.beq g 237) fc237 .fail) (lkB (Nat.beq g 238) fc238 .fail)) (lkB (blt g 251) (lkB (Nat.beq g 250) fc250 .fail) (lkB (blt g 252) (lkB (Nat.beq g 251) fc251 .fail) (lkB (Nat.beq g 252) fc252 .fail)))) (lkB (blt g 256) (lkB (blt g 254) (lkB (Nat.beq g 253) fc253 .fail) (lkB (Nat.beq g 254) fc254 .fail)) (lkB (blt g 257) (lkB (Nat.beq g 256) fc256 .fail) (lkB (blt g 259) (lkB (Nat.beq g 257) fc257 .fail) (lkB (Nat.beq g 259) fc259 .fail))))) (lkB (blt g 271) (lkB (blt g 266) (lkB (blt g 265) (lkB (Nat.beq g 260) fc260 .fail) (lkB (Nat.beq g 265) fc265 .fail)) (lkB (blt g 269) (lkB (Nat.beq g 266) fc266 .fail) (lkB (blt g 270) (lkB (Nat.beq g 269) fc269 .fail) (lkB (Nat.beq g 270) fc270 .fail)))) (lkB (blt g 303) (lkB (blt g 302) (lkB (Nat.beq g 271) fc271 .fail) (lkB (Nat.beq g 302) fc302 .fail)) (lkB (blt g 305) (lkB (Nat.beq g 303) fc303 .fail) (lkB (blt g 307) (lkB (Nat.beq g 305) fc305 .fail) (lkB (Nat.beq g 307) fc307 .fail))))))))
noncomputable def lookD (g : Nat) : FB := lkB (blt g 134) (lkB (Nat.beq g 108) fc108 .fail) (lkB (blt g 135) (lkB (Nat.beq g 134) fc134 .fail) (lkB (Nat.beq g 135) fc135 .fail))
end Go.C
