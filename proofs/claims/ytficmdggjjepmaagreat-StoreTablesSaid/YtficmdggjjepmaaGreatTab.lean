import Derived.Test.YtficmdggjjepmaaGreatProg
import Derived.Test.YtficmdggjjepmaaGreatSxB
import Derived.KernelRfl
set_option linter.all false
namespace Go.S
open Go.Sx Go.Proofs

def y1 : Ti := ⟨false, false, 1, 8, [.nilFunc], .fn⟩
def y2 : Ti := ⟨false, false, 1, 8, [.int .i64 0], (.int .i64)⟩
def y3 : Ti := ⟨false, false, 1, 8, [.int .i64 0], (.int .i64)⟩
def y4 : Ti := ⟨false, false, 1, 1, [.bool false], .bool⟩
def y5 : Ti := ⟨false, false, 1, 1, [.int .u8 0], (.int .u8)⟩
def y9 : Ti := ⟨false, false, 1, 16, [.string ⟨#[]⟩], .str⟩
def y21 : Ti := ⟨false, false, 1, 4, [.int .i32 0], (.int .i32)⟩
def y22 : Ti := ⟨false, false, 1, 24, [.slice none 0 0], (.slc 35)⟩
def y23 : Ti := ⟨false, false, 1, 24, [.slice none 0 0], (.slc 106)⟩
def y25 : Ti := ⟨false, false, 1, 8, [.pointer none], (.ptr 120)⟩
def y26 : Ti := ⟨false, false, 1, 8, [.int .i64 0], (.int .i64)⟩
def y29 : Ti := ⟨false, false, 1, 8, [.pointer none], (.ptr 124)⟩
def y32 : Ti := ⟨false, false, 1, 8, [.pointer none], (.ptr 130)⟩
def y35 : Ti := ⟨false, false, 1, 24, [.slice none 0 0], (.slc 5)⟩
def y42 : Ti := ⟨false, false, 1, 24, [.slice none 0 0], (.slc 137)⟩
def y46 : Ti := ⟨false, false, 1, 24, [.slice none 0 0], (.slc 3)⟩
def y47 : Ti := ⟨false, false, 1, 8, [.pointer none], (.ptr 189)⟩
def y50 : Ti := ⟨false, false, 1, 24, [.slice none 0 0], (.slc 198)⟩
def y51 : Ti := ⟨false, false, 1, 24, [.slice none 0 0], (.slc 206)⟩
def y52 : Ti := ⟨false, false, 1, 24, [.slice none 0 0], (.slc 314)⟩
def y54 : Ti := ⟨false, true, 2, 48, [.slice none 0 0, .slice none 0 0], (.strct [(52, 0), (52, 1)])⟩
def y56 : Ti := ⟨false, true, 4, 96, [.slice none 0 0, .slice none 0 0, .slice none 0 0, .slice none 0 0], (.strct [(50, 0), (51, 1), (54, 2)])⟩
def y58 : Ti := ⟨true, true, 3, 32, [.string ⟨#[]⟩, .int .i64 0, .bool false], (.strct [(9, 0), (3, 1), (4, 2)])⟩
def y59 : Ti := ⟨false, false, 1, 24, [.slice none 0 0], (.slc 58)⟩
def y61 : Ti := ⟨false, true, 4, 56, [.string ⟨#[]⟩, .slice none 0 0, .int .i64 0, .bool false], (.strct [(9, 0), (59, 1), (3, 2), (4, 3)])⟩
def y69 : Ti := ⟨false, false, 1, 24, [.slice none 0 0], (.slc 100)⟩
def y70 : Ti := ⟨false, false, 1, 24, [.slice none 0 0], (.slc 211)⟩
def y71 : Ti := ⟨false, false, 1, 24, [.slice none 0 0], (.slc 316)⟩
def y73 : Ti := ⟨false, true, 2, 48, [.slice none 0 0, .slice none 0 0], (.strct [(71, 0), (71, 1)])⟩
def y75 : Ti := ⟨false, true, 4, 96, [.slice none 0 0, .slice none 0 0, .slice none 0 0, .slice none 0 0], (.strct [(69, 0), (70, 1), (73, 2)])⟩
def y78 : Ti := ⟨false, false, 1, 8, [.pointer none], (.ptr 84)⟩
def y82 : Ti := ⟨false, false, 1, 8, [.pointer none], (.ptr 325)⟩
def y84 : Ti := ⟨false, true, 4, 32, [.pointer none, .pointer none, .pointer none, .pointer none], (.strct [(25, 0), (29, 1), (47, 2), (82, 3)])⟩
def y87 : Ti := ⟨true, true, 3, 32, [.int .i64 0, .int .i64 0, .string ⟨#[]⟩], (.strct [(3, 0), (3, 1), (9, 2)])⟩
def y88 : Ti := ⟨false, false, 1, 24, [.slice none 0 0], (.slc 87)⟩
def y89 : Ti := ⟨false, false, 1, 24, [.slice none 0 0], (.slc 154)⟩
def y90 : Ti := ⟨false, false, 1, 24, [.slice none 0 0], (.slc 344)⟩
def y91 : Ti := ⟨false, false, 1, 24, [.slice none 0 0], (.slc 89)⟩
def y93 : Ti := ⟨false, true, 4, 80, [.int .i64 0, .slice none 0 0, .slice none 0 0, .slice none 0 0], (.strct [(3, 0), (89, 1), (90, 2), (91, 3)])⟩
def y98 : Ti := ⟨false, false, 1, 24, [.slice none 0 0], (.slc 88)⟩
def y100 : Ti := ⟨false, true, 5, 80, [.string ⟨#[]⟩, .slice none 0 0, .int .i64 0, .bool false, .slice none 0 0], (.strct [(61, 0), (98, 4)])⟩
def y104 : Ti := ⟨false, true, 32, 32, (List.replicate 32 (.int .u8 0)), (.arr 32 5)⟩
def y106 : Ti := ⟨false, true, 33, 40, [.int .i64 0, .int .u8 0, .int .u8 0, .int .u8 0, .int .u8 0, .int .u8 0, .int .u8 0, .int .u8 0, .int .u8 0, .int .u8 0, .int .u8 0, .int .u8 0, .int .u8 0, .int .u8 0, .int .u8 0, .int .u8 0, .int .u8 0, .int .u8 0, .int .u8 0, .int .u8 0, .int .u8 0, .int .u8 0, .int .u8 0, .int .u8 0, .int .u8 0, .int .u8 0, .int .u8 0, .int .u8 0, .int .u8 0, .int .u8 0, .int .u8 0, .int .u8 0, .int .u8 0], (.strct [(3, 0), (104, 1)])⟩
def y107 : Ti := ⟨false, false, 1, 24, [.slice none 0 0], (.slc 135)⟩
def y109 : Ti := ⟨true, true, 0, 0, [], (.strct [])⟩
def y110 : Ti := ⟨true, true, 0, 0, [], (.strct [])⟩
def y112 : Ti := ⟨false, true, 1, 8, [.int .i64 0], (.strct [(109, 0), (110, 0), (2, 0)])⟩
def y113 : Ti := ⟨false, false, 1, 4, [.int .u32 0], (.int .u32)⟩
def y115 : Ti := ⟨false, true, 1, 4, [.int .u32 0], (.strct [(109, 0), (113, 0)])⟩
def y117 : Ti := ⟨false, true, 2, 16, [.int .i64 0, .int .u32 0], (.strct [(112, 0), (115, 1)])⟩
def y118 : Ti := ⟨false, false, 1, 24, [.slice none 0 0], (.slc 455)⟩
def y120 : Ti := ⟨false, true, 5, 88, [.int .i64 0, .int .u32 0, .slice none 0 0, .slice none 0 0, .slice none 0 0], (.strct [(117, 0), (107, 2), (107, 3), (118, 4)])⟩
def y121 : Ti := ⟨false, false, 1, 24, [.slice none 0 0], (.slc 134)⟩
def y122 : Ti := ⟨false, false, 1, 24, [.slice none 0 0], (.slc 256)⟩
def y124 : Ti := ⟨false, true, 5, 88, [.slice none 0 0, .slice none 0 0, .slice none 0 0, .int .i64 0, .bool false], (.strct [(121, 0), (121, 1), (122, 2), (3, 3), (4, 4)])⟩
def y130 : Ti := ⟨false, true, 3, 24, [.pointer none, .int .i64 0, .int .i64 0], (.strct [(29, 0), (3, 1), (3, 2)])⟩
def y134 : Ti := ⟨false, true, 64, 64, (List.replicate 64 (.int .u8 0)), (.arr 64 5)⟩
def y135 : Ti := ⟨false, true, 64, 64, (List.replicate 64 (.int .u8 0)), (.arr 64 5)⟩
def y137 : Ti := ⟨true, true, 4, 32, [.int .i64 0, .int .i64 0, .int .i64 0, .int .i64 0], (.strct [(3, 0), (3, 1), (3, 2), (3, 3)])⟩
def y138 : Ti := ⟨false, false, 1, 8, [.pointer none], (.ptr 149)⟩
def y139 : Ti := ⟨false, false, 1, 8, [.map none], (.mp 3 104)⟩
def y140 : Ti := ⟨true, true, 0, 0, [], (.strct [])⟩
def y142 : Ti := ⟨true, true, 2, 8, [.int .i32 0, .int .u32 0], (.strct [(21, 0), (113, 1)])⟩
def y144 : Ti := ⟨false, true, 2, 8, [.int .i32 0, .int .u32 0], (.strct [(140, 0), (142, 0)])⟩
def y146 : Ti := ⟨false, true, 3, 12, [.int .u32 0, .int .i32 0, .int .u32 0], (.strct [(140, 0), (115, 0), (144, 1)])⟩
def y147 : Ti := ⟨false, false, 1, 24, [.slice none 0 0], (.slc 104)⟩
def y149 : Ti := ⟨false, true, 12, 200, [.int .u32 0, .int .i32 0, .int .u32 0, .slice none 0 0, .slice none 0 0, .slice none 0 0, .slice none 0 0, .slice none 0 0, .int .i64 0, .slice none 0 0, .slice none 0 0, .map none], (.strct [(146, 0), (42, 3), (75, 4), (3, 8), (147, 9), (90, 10), (139, 11)])⟩
def y152 : Ti := ⟨false, false, 1, 24, [.slice none 0 0], (.slc 228)⟩
def y154 : Ti := ⟨false, true, 2, 32, [.int .i64 0, .slice none 0 0], (.strct [(3, 0), (152, 1)])⟩
def y156 : Ti := ⟨false, true, 68, 128, [.int .i64 0, .slice none 0 0, .slice none 0 0, .int .u8 0, .int .u8 0, .int .u8 0, .int .u8 0, .int .u8 0, .int .u8 0, .int .u8 0, .int .u8 0, .int .u8 0, .int .u8 0, .int .u8 0, .int .u8 0, .int .u8 0, .int .u8 0, .int .u8 0, .int .u8 0, .int .u8 0, .int .u8 0, .int .u8 0, .int .u8 0, .int .u8 0, .int .u8 0, .int .u8 0, .int .u8 0, .int .u8 0, .int .u8 0, .int .u8 0, .int .u8 0, .int .u8 0, .int .u8 0, .int .u8 0, .int .u8 0, .bool false, .int .u8 0, .int .u8 0, .int .u8 0, .int .u8 0, .int .u8 0, .int .u8 0, .int .u8 0, .int .u8 0, .int .u8 0, .int .u8 0, .int .u8 0, .int .u8 0, .int .u8 0, .int .u8 0, .int .u8 0, .int .u8 0, .int .u8 0, .int .u8 0, .int .u8 0, .int .u8 0, .int .u8 0, .int .u8 0, .int .u8 0, .int .u8 0, .int .u8 0, .int .u8 0, .int .u8 0, .int .u8 0, .int .u8 0, .int .u8 0, .int .u8 0, .int .u8 0], (.strct [(154, 0), (147, 2), (104, 3), (4, 35), (104, 36)])⟩
def y158 : Ti := ⟨false, true, 108, 256, [.bool false, .int .i64 0, .string ⟨#[]⟩, .slice none 0 0, .int .i64 0, .bool false, .string ⟨#[]⟩, .int .i64 0, .slice none 0 0, .slice none 0 0, .int .u8 0, .int .u8 0, .int .u8 0, .int .u8 0, .int .u8 0, .int .u8 0, .int .u8 0, .int .u8 0, .int .u8 0, .int .u8 0, .int .u8 0, .int .u8 0, .int .u8 0, .int .u8 0, .int .u8 0, .int .u8 0, .int .u8 0, .int .u8 0, .int .u8 0, .int .u8 0, .int .u8 0, .int .u8 0, .int .u8 0, .int .u8 0, .int .u8 0, .int .u8 0, .int .u8 0, .int .u8 0, .int .u8 0, .int .u8 0, .int .u8 0, .int .u8 0, .bool false, .int .u8 0, .int .u8 0, .int .u8 0, .int .u8 0, .int .u8 0, .int .u8 0, .int .u8 0, .int .u8 0, .int .u8 0, .int .u8 0, .int .u8 0, .int .u8 0, .int .u8 0, .int .u8 0, .int .u8 0, .int .u8 0, .int .u8 0, .int .u8 0, .int .u8 0, .int .u8 0, .int .u8 0, .int .u8 0, .int .u8 0, .int .u8 0, .int .u8 0, .int .u8 0, .int .u8 0, .int .u8 0, .int .u8 0, .int .u8 0, .int .u8 0, .int .u8 0, .int .i64 0, .int .u8 0, .int .u8 0, .int .u8 0, .int .u8 0, .int .u8 0, .int .u8 0, .int .u8 0, .int .u8 0, .int .u8 0, .int .u8 0, .int .u8 0, .int .u8 0, .int .u8 0, .int .u8 0, .int .u8 0, .int .u8 0, .int .u8 0, .int .u8 0, .int .u8 0, .int .u8 0, .int .u8 0, .int .u8 0, .int .u8 0, .int .u8 0, .int .u8 0, .int .u8 0, .int .u8 0, .int .u8 0, .int .u8 0, .int .u8 0, .int .u8 0, .int .u8 0], (.strct [(4, 0), (3, 1), (61, 2), (9, 6), (156, 7), (3, 75), (104, 76)])⟩
def y168 : Ti := ⟨false, false, 1, 8, [.pointer none], (.ptr 170)⟩
def y170 : Ti := ⟨false, true, 8, 176, [.slice none 0 0, .slice none 0 0, .slice none 0 0, .slice none 0 0, .int .i64 0, .slice none 0 0, .slice none 0 0, .slice none 0 0], (.strct [(56, 0), (3, 4), (147, 5), (147, 6), (42, 7)])⟩
def y173 : Ti := ⟨false, true, 75, 216, [.int .i64 0, .string ⟨#[]⟩, .slice none 0 0, .int .i64 0, .bool false, .string ⟨#[]⟩, .int .i64 0, .slice none 0 0, .slice none 0 0, .int .u8 0, .int .u8 0, .int .u8 0, .int .u8 0, .int .u8 0, .int .u8 0, .int .u8 0, .int .u8 0, .int .u8 0, .int .u8 0, .int .u8 0, .int .u8 0, .int .u8 0, .int .u8 0, .int .u8 0, .int .u8 0, .int .u8 0, .int .u8 0, .int .u8 0, .int .u8 0, .int .u8 0, .int .u8 0, .int .u8 0, .int .u8 0, .int .u8 0, .int .u8 0, .int .u8 0, .int .u8 0, .int .u8 0, .int .u8 0, .int .u8 0, .int .u8 0, .bool false, .int .i64 0, .int .u8 0, .int .u8 0, .int .u8 0, .int .u8 0, .int .u8 0, .int .u8 0, .int .u8 0, .int .u8 0, .int .u8 0, .int .u8 0, .int .u8 0, .int .u8 0, .int .u8 0, .int .u8 0, .int .u8 0, .int .u8 0, .int .u8 0, .int .u8 0, .int .u8 0, .int .u8 0, .int .u8 0, .int .u8 0, .int .u8 0, .int .u8 0, .int .u8 0, .int .u8 0, .int .u8 0, .int .u8 0, .int .u8 0, .int .u8 0, .int .u8 0, .int .u8 0], (.strct [(3, 0), (61, 1), (9, 5), (154, 6), (147, 8), (104, 9), (4, 41), (3, 42), (104, 43)])⟩
def y177 : Ti := ⟨false, false, 1, 8, [.pointer none], (.ptr 295)⟩
def y180 : Ti := ⟨false, false, 1, 8, [.pointer none], (.ptr 182)⟩
def y182 : Ti := ⟨false, true, 8, 176, [.slice none 0 0, .slice none 0 0, .slice none 0 0, .slice none 0 0, .int .i64 0, .slice none 0 0, .slice none 0 0, .slice none 0 0], (.strct [(75, 0), (93, 4)])⟩
def y184 : Ti := ⟨false, true, 0, 0, [], (.arr 0 180)⟩
def y185 : Ti := ⟨false, false, 1, 8, [.pointer none], .oth⟩
def y187 : Ti := ⟨false, true, 1, 8, [.pointer none], (.strct [(184, 0), (109, 0), (185, 0)])⟩
def y189 : Ti := ⟨false, true, 2, 16, [.pointer none, .pointer none], (.strct [(177, 0), (187, 1)])⟩
def y198 : Ti := ⟨false, true, 5, 80, [.string ⟨#[]⟩, .slice none 0 0, .int .i64 0, .bool false, .slice none 0 0], (.strct [(61, 0), (98, 4)])⟩
def y204 : Ti := ⟨false, false, 1, 24, [.slice none 0 0], (.slc 214)⟩
def y206 : Ti := ⟨false, true, 3, 56, [.int .i64 0, .slice none 0 0, .slice none 0 0], (.strct [(3, 0), (152, 1), (204, 2)])⟩
def y209 : Ti := ⟨false, false, 1, 24, [.slice none 0 0], (.slc 213)⟩
def y211 : Ti := ⟨false, true, 3, 56, [.int .i64 0, .slice none 0 0, .slice none 0 0], (.strct [(3, 0), (152, 1), (209, 2)])⟩
def y213 : Ti := ⟨true, true, 2, 24, [.string ⟨#[]⟩, .int .i64 0], (.strct [(9, 0), (3, 1)])⟩
def y214 : Ti := ⟨true, true, 2, 24, [.string ⟨#[]⟩, .int .i64 0], (.strct [(9, 0), (3, 1)])⟩
def y220 : Ti := ⟨false, false, 1, 8, [.pointer none], (.ptr 226)⟩
def y226 : Ti := ⟨false, true, 8, 120, [.slice none 0 0, .slice none 0 0, .slice none 0 0, .slice none 0 0, .int .u32 0, .int .i32 0, .int .u32 0, .int .i64 0], (.strct [(75, 0), (146, 4), (26, 7)])⟩
def y228 : Ti := ⟨false, true, 3, 48, [.string ⟨#[]⟩, .int .i64 0, .slice none 0 0], (.strct [(9, 0), (3, 1), (88, 2)])⟩
def y231 : Ti := ⟨false, false, 1, 8, [.nilFunc], .fn⟩
def y232 : Ti := ⟨false, false, 1, 8, [.nilFunc], .fn⟩
def y240 : Ti := ⟨false, false, 1, 8, [.nilFunc], .fn⟩
def y241 : Ti := ⟨false, false, 1, 8, [.nilFunc], .fn⟩
def y244 : Ti := ⟨false, false, 1, 8, [.nilFunc], .fn⟩
def y246 : Ti := ⟨false, false, 1, 8, [.nilFunc], .fn⟩
def y249 : Ti := ⟨false, false, 1, 8, [.pointer none], (.ptr 290)⟩
def y253 : Ti := ⟨false, false, 1, 8, [.int .u64 0], (.int .u64)⟩
def y254 : Ti := ⟨false, false, 1, 8, [.int .u64 0], (.int .u64)⟩
def y256 : Ti := ⟨false, true, 65, 72, [.int .i64 0, .int .u8 0, .int .u8 0, .int .u8 0, .int .u8 0, .int .u8 0, .int .u8 0, .int .u8 0, .int .u8 0, .int .u8 0, .int .u8 0, .int .u8 0, .int .u8 0, .int .u8 0, .int .u8 0, .int .u8 0, .int .u8 0, .int .u8 0, .int .u8 0, .int .u8 0, .int .u8 0, .int .u8 0, .int .u8 0, .int .u8 0, .int .u8 0, .int .u8 0, .int .u8 0, .int .u8 0, .int .u8 0, .int .u8 0, .int .u8 0, .int .u8 0, .int .u8 0, .int .u8 0, .int .u8 0, .int .u8 0, .int .u8 0, .int .u8 0, .int .u8 0, .int .u8 0, .int .u8 0, .int .u8 0, .int .u8 0, .int .u8 0, .int .u8 0, .int .u8 0, .int .u8 0, .int .u8 0, .int .u8 0, .int .u8 0, .int .u8 0, .int .u8 0, .int .u8 0, .int .u8 0, .int .u8 0, .int .u8 0, .int .u8 0, .int .u8 0, .int .u8 0, .int .u8 0, .int .u8 0, .int .u8 0, .int .u8 0, .int .u8 0, .int .u8 0], (.strct [(3, 0), (134, 1)])⟩
def y258 : Ti := ⟨false, true, 4, 48, [.int .i64 0, .int .i64 0, .slice none 0 0, .bool false], (.strct [(3, 0), (3, 1), (22, 2), (4, 3)])⟩
def y263 : Ti := ⟨false, false, 1, 8, [.pointer none], (.ptr 265)⟩
def y265 : Ti := ⟨false, true, 6, 56, [.pointer none, .int .u32 0, .int .i32 0, .int .u32 0, .slice none 0 0, .int .i64 0], (.strct [(25, 0), (146, 1), (35, 4), (26, 5)])⟩
def y267 : Ti := ⟨false, false, 1, 8, [.pointer none], (.ptr 361)⟩
def y271 : Ti := ⟨false, true, 1, 8, [.pointer none], (.strct [(267, 0)])⟩
def y279 : Ti := ⟨false, false, 1, 8, [.pointer none], (.ptr 146)⟩
def y290 : Ti := ⟨false, true, 3, 40, [.slice none 0 0, .int .i64 0, .int .i64 0], (.strct [(35, 0), (3, 1), (3, 2)])⟩
def y295 : Ti := ⟨false, true, 3, 24, [.pointer none, .int .i64 0, .int .i64 0], (.strct [(25, 0), (112, 1), (112, 2)])⟩
def y297 : Ti := ⟨false, false, 1, 8, [.pointer none], (.ptr 299)⟩
def y299 : Ti := ⟨false, true, 5, 24, [.pointer none, .int .u32 0, .int .i32 0, .int .u32 0, .bool false], (.strct [(267, 0), (146, 1), (4, 4)])⟩
def y301 : Ti := ⟨false, false, 1, 8, [.pointer none], (.ptr 187)⟩
def y303 : Ti := ⟨false, false, 1, 8, [.pointer none], (.ptr 185)⟩
def y307 : Ti := ⟨false, false, 1, 8, [.nilFunc], .fn⟩
def y314 : Ti := ⟨true, true, 3, 32, [.int .i64 0, .string ⟨#[]⟩, .bool false], (.strct [(3, 0), (9, 1), (4, 2)])⟩
def y316 : Ti := ⟨true, true, 3, 32, [.int .i64 0, .string ⟨#[]⟩, .bool false], (.strct [(3, 0), (9, 1), (4, 2)])⟩
def y320 : Ti := ⟨false, false, 1, 8, [.nilFunc], .fn⟩
def y321 : Ti := ⟨false, false, 1, 24, [.slice none 0 0], (.slc 384)⟩
def y323 : Ti := ⟨false, true, 4, 80, [.int .i64 0, .slice none 0 0, .slice none 0 0, .slice none 0 0], (.strct [(3, 0), (89, 1), (321, 2), (91, 3)])⟩
def y325 : Ti := ⟨false, true, 9, 184, [.pointer none, .slice none 0 0, .slice none 0 0, .slice none 0 0, .slice none 0 0, .int .i64 0, .slice none 0 0, .slice none 0 0, .slice none 0 0], (.strct [(32, 0), (56, 1), (323, 5)])⟩
def y329 : Ti := ⟨false, false, 1, 8, [.nilFunc], .fn⟩
def y333 : Ti := ⟨false, true, 5, 80, [.string ⟨#[]⟩, .slice none 0 0, .int .i64 0, .bool false, .slice none 0 0], (.strct [(100, 0)])⟩
def y341 : Ti := ⟨false, false, 1, 8, [.nilFunc], .fn⟩
def y344 : Ti := ⟨false, true, 66, 80, [.int .i64 0, .int .u8 0, .int .u8 0, .int .u8 0, .int .u8 0, .int .u8 0, .int .u8 0, .int .u8 0, .int .u8 0, .int .u8 0, .int .u8 0, .int .u8 0, .int .u8 0, .int .u8 0, .int .u8 0, .int .u8 0, .int .u8 0, .int .u8 0, .int .u8 0, .int .u8 0, .int .u8 0, .int .u8 0, .int .u8 0, .int .u8 0, .int .u8 0, .int .u8 0, .int .u8 0, .int .u8 0, .int .u8 0, .int .u8 0, .int .u8 0, .int .u8 0, .int .u8 0, .int .u8 0, .int .u8 0, .int .u8 0, .int .u8 0, .int .u8 0, .int .u8 0, .int .u8 0, .int .u8 0, .int .u8 0, .int .u8 0, .int .u8 0, .int .u8 0, .int .u8 0, .int .u8 0, .int .u8 0, .int .u8 0, .int .u8 0, .int .u8 0, .int .u8 0, .int .u8 0, .int .u8 0, .int .u8 0, .int .u8 0, .int .u8 0, .int .u8 0, .int .u8 0, .int .u8 0, .int .u8 0, .int .u8 0, .int .u8 0, .int .u8 0, .int .u8 0, .int .i64 0], (.strct [(3, 0), (104, 1), (104, 33), (3, 65)])⟩
def y347 : Ti := ⟨false, false, 1, 8, [.nilFunc], .fn⟩
def y348 : Ti := ⟨false, false, 1, 8, [.pointer none], (.ptr 350)⟩
def y350 : Ti := ⟨false, true, 7, 96, [.int .i64 0, .slice none 0 0, .slice none 0 0, .slice none 0 0, .int .u32 0, .int .i32 0, .int .u32 0], (.strct [(93, 0), (146, 4)])⟩
def y351 : Ti := ⟨false, false, 1, 8, [.nilFunc], .fn⟩
def y361 : Ti := ⟨false, true, 5, 48, [.slice none 0 0, .int .i64 0, .int .u32 0, .int .i32 0, .int .u32 0], (.strct [(35, 0), (26, 1), (146, 2)])⟩
def y367 : Ti := ⟨false, false, 1, 8, [.pointer none], (.ptr 115)⟩
def y369 : Ti := ⟨false, false, 1, 8, [.pointer none], (.ptr 113)⟩
def y384 : Ti := ⟨false, true, 66, 80, [.int .i64 0, .int .u8 0, .int .u8 0, .int .u8 0, .int .u8 0, .int .u8 0, .int .u8 0, .int .u8 0, .int .u8 0, .int .u8 0, .int .u8 0, .int .u8 0, .int .u8 0, .int .u8 0, .int .u8 0, .int .u8 0, .int .u8 0, .int .u8 0, .int .u8 0, .int .u8 0, .int .u8 0, .int .u8 0, .int .u8 0, .int .u8 0, .int .u8 0, .int .u8 0, .int .u8 0, .int .u8 0, .int .u8 0, .int .u8 0, .int .u8 0, .int .u8 0, .int .u8 0, .int .u8 0, .int .u8 0, .int .u8 0, .int .u8 0, .int .u8 0, .int .u8 0, .int .u8 0, .int .u8 0, .int .u8 0, .int .u8 0, .int .u8 0, .int .u8 0, .int .u8 0, .int .u8 0, .int .u8 0, .int .u8 0, .int .u8 0, .int .u8 0, .int .u8 0, .int .u8 0, .int .u8 0, .int .u8 0, .int .u8 0, .int .u8 0, .int .u8 0, .int .u8 0, .int .u8 0, .int .u8 0, .int .u8 0, .int .u8 0, .int .u8 0, .int .u8 0, .int .i64 0], (.strct [(3, 0), (104, 1), (104, 33), (3, 65)])⟩
def y386 : Ti := ⟨false, false, 1, 8, [.pointer none], (.ptr 112)⟩
def y388 : Ti := ⟨false, false, 1, 8, [.pointer none], (.ptr 2)⟩
def y393 : Ti := ⟨false, false, 1, 8, [.map none], (.mp 9 4)⟩
def y395 : Ti := ⟨false, true, 4, 24, [.int .u32 0, .int .i32 0, .int .u32 0, .map none], (.strct [(146, 0), (393, 3)])⟩
def y398 : Ti := ⟨false, false, 1, 8, [.nilFunc], .fn⟩
def y406 : Ti := ⟨false, false, 1, 24, [.slice none 0 0], (.slc 9)⟩
def y416 : Ti := ⟨false, false, 1, 24, [.slice none 0 0], (.slc 98)⟩
def y421 : Ti := ⟨false, false, 1, 8, [.nilFunc], .fn⟩
def y432 : Ti := ⟨false, false, 1, 8, [.pointer none], (.ptr 144)⟩
def y436 : Ti := ⟨false, false, 1, 8, [.nilFunc], .fn⟩
def y437 : Ti := ⟨false, false, 1, 8, [.pointer none], (.ptr 439)⟩
def y439 : Ti := ⟨false, true, 36, 72, [.slice none 0 0, .int .u32 0, .int .i32 0, .int .u32 0, .int .u8 0, .int .u8 0, .int .u8 0, .int .u8 0, .int .u8 0, .int .u8 0, .int .u8 0, .int .u8 0, .int .u8 0, .int .u8 0, .int .u8 0, .int .u8 0, .int .u8 0, .int .u8 0, .int .u8 0, .int .u8 0, .int .u8 0, .int .u8 0, .int .u8 0, .int .u8 0, .int .u8 0, .int .u8 0, .int .u8 0, .int .u8 0, .int .u8 0, .int .u8 0, .int .u8 0, .int .u8 0, .int .u8 0, .int .u8 0, .int .u8 0, .int .u8 0], (.strct [(35, 0), (146, 1), (104, 4)])⟩
def y450 : Ti := ⟨false, false, 1, 8, [.pointer none], (.ptr 395)⟩
def y452 : Ti := ⟨false, false, 1, 8, [.nilFunc], .fn⟩
def y455 : Ti := ⟨false, true, 65, 72, [.int .i64 0, .int .u8 0, .int .u8 0, .int .u8 0, .int .u8 0, .int .u8 0, .int .u8 0, .int .u8 0, .int .u8 0, .int .u8 0, .int .u8 0, .int .u8 0, .int .u8 0, .int .u8 0, .int .u8 0, .int .u8 0, .int .u8 0, .int .u8 0, .int .u8 0, .int .u8 0, .int .u8 0, .int .u8 0, .int .u8 0, .int .u8 0, .int .u8 0, .int .u8 0, .int .u8 0, .int .u8 0, .int .u8 0, .int .u8 0, .int .u8 0, .int .u8 0, .int .u8 0, .int .u8 0, .int .u8 0, .int .u8 0, .int .u8 0, .int .u8 0, .int .u8 0, .int .u8 0, .int .u8 0, .int .u8 0, .int .u8 0, .int .u8 0, .int .u8 0, .int .u8 0, .int .u8 0, .int .u8 0, .int .u8 0, .int .u8 0, .int .u8 0, .int .u8 0, .int .u8 0, .int .u8 0, .int .u8 0, .int .u8 0, .int .u8 0, .int .u8 0, .int .u8 0, .int .u8 0, .int .u8 0, .int .u8 0, .int .u8 0, .int .u8 0, .int .u8 0], (.strct [(3, 0), (135, 1)])⟩
def y464 : Ti := ⟨false, false, 1, 8, [.nilFunc], .fn⟩
def y467 : Ti := ⟨false, false, 1, 8, [.pointer none], (.ptr 501)⟩
def y469 : Ti := ⟨false, false, 1, 8, [.map none], (.mp 3 4)⟩
def y472 : Ti := ⟨false, false, 1, 8, [.nilFunc], .fn⟩
def y475 : Ti := ⟨false, false, 1, 8, [.pointer none], (.ptr 117)⟩
def y476 : Ti := ⟨false, true, 1, 8, [.pointer none], (.strct [(267, 0)])⟩
def y478 : Ti := ⟨false, false, 1, 8, [.pointer none], (.ptr 142)⟩
def y480 : Ti := ⟨false, false, 1, 8, [.pointer none], (.ptr 21)⟩
def y484 : Ti := ⟨false, true, 8, 32, [.int .u32 0, .int .u32 0, .int .u32 0, .int .u32 0, .int .u32 0, .int .u32 0, .int .u32 0, .int .u32 0], (.arr 8 113)⟩
def y485 : Ti := ⟨false, true, 8, 32, [.int .u32 0, .int .u32 0, .int .u32 0, .int .u32 0, .int .u32 0, .int .u32 0, .int .u32 0, .int .u32 0], (.arr 8 113)⟩
def y492 : Ti := ⟨false, true, 64, 256, (List.replicate 64 (.int .u32 0)), (.arr 64 113)⟩
def y498 : Ti := ⟨false, false, 1, 24, [.slice none 0 0], (.slc 71)⟩
def y499 : Ti := ⟨false, false, 1, 8, [.map none], (.mp 3 46)⟩
def y501 : Ti := ⟨false, true, 2, 16, [.map none, .int .i64 0], (.strct [(499, 0), (112, 1)])⟩
def y502 : Ti := ⟨false, false, 1, 8, [.nilFunc], .fn⟩
def ty (t : Nat) : Ti := if t < 198 then (if t < 100 then (if t < 54 then (if t < 26 then (if t < 9 then (if t < 3 then (if t < 2 then (if t = 1 then y1 else .none) else (if t = 2 then y2 else .none)) else (if t < 4 then (if t = 3 then y3 else .none) else (if t < 5 then (if t = 4 then y4 else .none) else (if t = 5 then y5 else .none)))) else (if t < 22 then (if t < 21 then (if t = 9 then y9 else .none) else (if t = 21 then y21 else .none)) else (if t < 23 then (if t = 22 then y22 else .none) else (if t < 25 then (if t = 23 then y23 else .none) else (if t = 25 then y25 else .none))))) else (if t < 46 then (if t < 32 then (if t < 29 then (if t = 26 then y26 else .none) else (if t = 29 then y29 else .none)) else (if t < 35 then (if t = 32 then y32 else .none) else (if t < 42 then (if t = 35 then y35 else .none) else (if t = 42 then y42 else .none)))) else (if t < 50 then (if t < 47 then (if t = 46 then y46 else .none) else (if t = 47 then y47 else .none)) else (if t < 51 then (if t = 50 then y50 else .none) else (if t < 52 then (if t = 51 then y51 else .none) else (if t = 52 then y52 else .none)))))) else (if t < 78 then (if t < 69 then (if t < 58 then (if t < 56 then (if t = 54 then y54 else .none) else (if t = 56 then y56 else .none)) else (if t < 59 then (if t = 58 then y58 else .none) else (if t < 61 then (if t = 59 then y59 else .none) else (if t = 61 then y61 else .none)))) else (if t < 71 then (if t < 70 then (if t = 69 then y69 else .none) else (if t = 70 then y70 else .none)) else (if t < 73 then (if t = 71 then y71 else .none) else (if t < 75 then (if t = 73 then y73 else .none) else (if t = 75 then y75 else .none))))) else (if t < 89 then (if t < 84 then (if t < 82 then (if t = 78 then y78 else .none) else (if t = 82 then y82 else .none)) else (if t < 87 then (if t = 84 then y84 else .none) else (if t < 88 then (if t = 87 then y87 else .none) else (if t = 88 then y88 else .none)))) else (if t < 91 then (if t < 90 then (if t = 89 then y89 else .none) else (if t = 90 then y90 else .none)) else (if t < 93 then (if t = 91 then y91 else .none) else (if t < 98 then (if t = 93 then y93 else .none) else (if t = 98 then y98 else .none))))))) else (if t < 139 then (if t < 118 then (if t < 110 then (if t < 106 then (if t < 104 then (if t = 100 then y100 else .none) else (if t = 104 then y104 else .none)) else (if t < 107 then (if t = 106 then y106 else .none) else (if t < 109 then (if t = 107 then y107 else .none) else (if t = 109 then y109 else .none)))) else (if t < 113 then (if t < 112 then (if t = 110 then y110 else .none) else (if t = 112 then y112 else .none)) else (if t < 115 then (if t = 113 then y113 else .none) else (if t < 117 then (if t = 115 then y115 else .none) else (if t = 117 then y117 else .none))))) else (if t < 130 then (if t < 121 then (if t < 120 then (if t = 118 then y118 else .none) else (if t = 120 then y120 else .none)) else (if t < 122 then (if t = 121 then y121 else .none) else (if t < 124 then (if t = 122 then y122 else .none) else (if t = 124 then y124 else .none)))) else (if t < 135 then (if t < 134 then (if t = 130 then y130 else .none) else (if t = 134 then y134 else .none)) else (if t < 137 then (if t = 135 then y135 else .none) else (if t < 138 then (if t = 137 then y137 else .none) else (if t = 138 then y138 else .none)))))) else (if t < 158 then (if t < 147 then (if t < 142 then (if t < 140 then (if t = 139 then y139 else .none) else (if t = 140 then y140 else .none)) else (if t < 144 then (if t = 142 then y142 else .none) else (if t < 146 then (if t = 144 then y144 else .none) else (if t = 146 then y146 else .none)))) else (if t < 152 then (if t < 149 then (if t = 147 then y147 else .none) else (if t = 149 then y149 else .none)) else (if t < 154 then (if t = 152 then y152 else .none) else (if t < 156 then (if t = 154 then y154 else .none) else (if t = 156 then y156 else .none))))) else (if t < 180 then (if t < 170 then (if t < 168 then (if t = 158 then y158 else .none) else (if t = 168 then y168 else .none)) else (if t < 173 then (if t = 170 then y170 else .none) else (if t < 177 then (if t = 173 then y173 else .none) else (if t = 177 then y177 else .none)))) else (if t < 185 then (if t < 182 then (if t = 180 then y180 else .none) else (if t < 184 then (if t = 182 then y182 else .none) else (if t = 184 then y184 else .none))) else (if t < 187 then (if t = 185 then y185 else .none) else (if t < 189 then (if t = 187 then y187 else .none) else (if t = 189 then y189 else .none)))))))) else (if t < 333 then (if t < 258 then (if t < 231 then (if t < 213 then (if t < 206 then (if t < 204 then (if t = 198 then y198 else .none) else (if t = 204 then y204 else .none)) else (if t < 209 then (if t = 206 then y206 else .none) else (if t < 211 then (if t = 209 then y209 else .none) else (if t = 211 then y211 else .none)))) else (if t < 220 then (if t < 214 then (if t = 213 then y213 else .none) else (if t = 214 then y214 else .none)) else (if t < 226 then (if t = 220 then y220 else .none) else (if t < 228 then (if t = 226 then y226 else .none) else (if t = 228 then y228 else .none))))) else (if t < 246 then (if t < 240 then (if t < 232 then (if t = 231 then y231 else .none) else (if t = 232 then y232 else .none)) else (if t < 241 then (if t = 240 then y240 else .none) else (if t < 244 then (if t = 241 then y241 else .none) else (if t = 244 then y244 else .none)))) else (if t < 253 then (if t < 249 then (if t = 246 then y246 else .none) else (if t = 249 then y249 else .none)) else (if t < 254 then (if t = 253 then y253 else .none) else (if t < 256 then (if t = 254 then y254 else .none) else (if t = 256 then y256 else .none)))))) else (if t < 301 then (if t < 279 then (if t < 265 then (if t < 263 then (if t = 258 then y258 else .none) else (if t = 263 then y263 else .none)) else (if t < 267 then (if t = 265 then y265 else .none) else (if t < 271 then (if t = 267 then y267 else .none) else (if t = 271 then y271 else .none)))) else (if t < 295 then (if t < 290 then (if t = 279 then y279 else .none) else (if t = 290 then y290 else .none)) else (if t < 297 then (if t = 295 then y295 else .none) else (if t < 299 then (if t = 297 then y297 else .none) else (if t = 299 then y299 else .none))))) else (if t < 320 then (if t < 307 then (if t < 303 then (if t = 301 then y301 else .none) else (if t = 303 then y303 else .none)) else (if t < 314 then (if t = 307 then y307 else .none) else (if t < 316 then (if t = 314 then y314 else .none) else (if t = 316 then y316 else .none)))) else (if t < 323 then (if t < 321 then (if t = 320 then y320 else .none) else (if t = 321 then y321 else .none)) else (if t < 325 then (if t = 323 then y323 else .none) else (if t < 329 then (if t = 325 then y325 else .none) else (if t = 329 then y329 else .none))))))) else (if t < 436 then (if t < 384 then (if t < 350 then (if t < 344 then (if t < 341 then (if t = 333 then y333 else .none) else (if t = 341 then y341 else .none)) else (if t < 347 then (if t = 344 then y344 else .none) else (if t < 348 then (if t = 347 then y347 else .none) else (if t = 348 then y348 else .none)))) else (if t < 361 then (if t < 351 then (if t = 350 then y350 else .none) else (if t = 351 then y351 else .none)) else (if t < 367 then (if t = 361 then y361 else .none) else (if t < 369 then (if t = 367 then y367 else .none) else (if t = 369 then y369 else .none))))) else (if t < 398 then (if t < 388 then (if t < 386 then (if t = 384 then y384 else .none) else (if t = 386 then y386 else .none)) else (if t < 393 then (if t = 388 then y388 else .none) else (if t < 395 then (if t = 393 then y393 else .none) else (if t = 395 then y395 else .none)))) else (if t < 416 then (if t < 406 then (if t = 398 then y398 else .none) else (if t = 406 then y406 else .none)) else (if t < 421 then (if t = 416 then y416 else .none) else (if t < 432 then (if t = 421 then y421 else .none) else (if t = 432 then y432 else .none)))))) else (if t < 475 then (if t < 455 then (if t < 439 then (if t < 437 then (if t = 436 then y436 else .none) else (if t = 437 then y437 else .none)) else (if t < 450 then (if t = 439 then y439 else .none) else (if t < 452 then (if t = 450 then y450 else .none) else (if t = 452 then y452 else .none)))) else (if t < 467 then (if t < 464 then (if t = 455 then y455 else .none) else (if t = 464 then y464 else .none)) else (if t < 469 then (if t = 467 then y467 else .none) else (if t < 472 then (if t = 469 then y469 else .none) else (if t = 472 then y472 else .none))))) else (if t < 485 then (if t < 478 then (if t < 476 then (if t = 475 then y475 else .none) else (if t = 476 then y476 else .none)) else (if t < 480 then (if t = 478 then y478 else .none) else (if t < 484 then (if t = 480 then y480 else .none) else (if t = 484 then y484 else .none)))) else (if t < 499 then (if t < 492 then (if t = 485 then y485 else .none) else (if t < 498 then (if t = 492 then y492 else .none) else (if t = 498 then y498 else .none))) else (if t < 501 then (if t = 499 then y499 else .none) else (if t < 502 then (if t = 501 then y501 else .none) else (if t = 502 then y502 else .none))))))))
def tyIds : List Nat := [1, 2, 3, 4, 5, 9, 21, 22, 23, 25, 26, 29, 32, 35, 42, 46, 47, 50, 51, 52, 54, 56, 58, 59, 61, 69, 70, 71, 73, 75, 78, 82, 84, 87, 88, 89, 90, 91, 93, 98, 100, 104, 106, 107, 109, 110, 112, 113, 115, 117, 118, 120, 121, 122, 124, 130, 134, 135, 137, 138, 139, 140, 142, 144, 146, 147, 149, 152, 154, 156, 158, 168, 170, 173, 177, 180, 182, 184, 185, 187, 189, 198, 204, 206, 209, 211, 213, 214, 220, 226, 228, 231, 232, 240, 241, 244, 246, 249, 253, 254, 256, 258, 263, 265, 267, 271, 279, 290, 295, 297, 299, 301, 303, 307, 314, 316, 320, 321, 323, 325, 329, 333, 341, 344, 347, 348, 350, 351, 361, 367, 369, 384, 386, 388, 393, 395, 398, 406, 416, 421, 432, 436, 437, 439, 450, 452, 455, 464, 467, 469, 472, 475, 476, 478, 480, 484, 485, 492, 498, 499, 501, 502]
def fnBad : List Nat := [0, 1, 137, 138, 168, 206, 226, 239, 284, 306, 309, 326, 327, 328, 329, 331, 332, 344, 351, 352, 353, 354, 355, 356, 357, 364, 365, 366, 367, 368, 369, 370, 371, 372, 373, 374, 375, 376, 377, 378, 379, 380, 381, 382, 383]
def fnN : Nat := 384
def fnOk (f : Nat) : Bool := if f < fnN then !fnBad.contains f else false
/-- ledgerline/ledgerlinelaw16.StoreTables -/
def T4 : Tab := ⟨ty, fnOk, fun id => if id = 9 then (.light 0 (.light 1 (.light 2 (.light 3 (.light 4 (.light 11 (.light 12 (.light 13 (.light 14 (.light 20 (.heavy 5 [14] (.light 6 (.light 7 (.fork (.heavy 8 [14] (.fork (.heavy 9 [14] (.light 10 (.heavy 15 [] (.light 16 (.light 17 (.heavy 18 [] (.light 19 (.heavy 21 [] .done)))))))) (.heavy 15 [] (.light 16 (.light 17 (.fork (.heavy 9 [] (.light 10 (.heavy 18 [] (.light 19 (.heavy 21 [] .done))))) (.heavy 18 [] (.heavy 9 [] (.light 10 (.light 19 (.heavy 21 [] .done))))))))))) (.heavy 15 [] (.light 16 (.light 17 (.fork (.heavy 8 [] (.fork (.heavy 9 [] (.light 10 (.heavy 18 [] (.light 19 (.heavy 21 [] .done))))) (.heavy 18 [] (.heavy 9 [] (.light 10 (.light 19 (.heavy 21 [] .done))))))) (.heavy 18 [] (.heavy 8 [] (.heavy 9 [] (.light 10 (.light 19 (.heavy 21 [] .done)))))))))))))))))))))))) else if id = 19 then (.light 0 (.light 1 (.light 2 (.light 3 (.light 6 (.heavy 4 [6] (.heavy 5 [6] (.heavy 7 [] (.light 8 (.light 9 (.light 10 (.light 13 (.heavy 11 [13] (.heavy 12 [13] (.heavy 14 [] (.light 15 (.heavy 16 [] .done))))))))))))))))) else .done, fun _ => false, fun _ => false, [], fun _ _ _ => False⟩
/-- ledgerline/disk.New -/
def T7 : Tab := ⟨ty, fnOk, fun id => if id = 3 then (.light 0 (.light 2 (.fork (.heavy 1 [] (.heavy 3 [] (.light 4 (.heavy 5 [] (.heavy 6 [] (.heavy 7 [] .done)))))) (.heavy 3 [] (.heavy 1 [] (.light 4 (.heavy 5 [] (.heavy 6 [] (.heavy 7 [] .done))))))))) else .done, fun s => [15].contains s, fun _ => false, [], fun _ _ _ => False⟩
/-- ledgerline/ledgerlinelaw16.known -/
def T18 : Tab := ⟨ty, fnOk, fun _ => .done, fun _ => false, fun _ => false, [], fun _ _ _ => False⟩
/-- ledgerline/store.Open -/
def T19 : Tab := ⟨ty, fnOk, fun _ => .done, fun s => [22, 38].contains s, fun _ => false, [], fun _ _ _ => False⟩
/-- ledgerline/ledgerlinelaw16.within -/
def T20 : Tab := ⟨ty, fnOk, fun _ => .done, fun _ => false, fun _ => false, [], fun _ _ _ => False⟩
/-- (*ledgerline/store.Store).Create -/
def T21 : Tab := ⟨ty, fnOk, fun id => if id = 2 then (.light 0 (.light 1 (.light 2 (.light 3 (.light 4 (.light 9 (.heavy 5 [] (.light 6 (.light 7 (.light 8 (.heavy 10 [] (.heavy 11 [] .done)))))))))))) else if id = 5 then (.light 0 (.light 1 (.light 3 (.light 4 (.light 5 (.light 6 (.light 7 (.light 8 (.heavy 2 [7, 3] (.heavy 9 [] (.heavy 10 [] .done))))))))))) else .done, fun _ => false, fun _ => false, [], fun _ _ _ => False⟩
/-- ledgerline/ledgerlineref13.Create -/
def T22 : Tab := ⟨ty, fnOk, fun id => if id = 11 then (.light 0 (.light 1 (.light 2 (.light 3 (.light 4 (.light 5 (.light 6 (.light 7 (.light 8 (.light 9 (.light 10 (.light 11 (.light 12 (.light 13 (.light 14 (.heavy 15 [] (.light 16 .done))))))))))))))))) else .done, fun _ => false, fun _ => false, [], fun _ _ _ => False⟩
/-- (*ledgerline/store.Store).Drop -/
def T23 : Tab := ⟨ty, fnOk, fun id => if id = 5 then (.light 0 (.light 1 (.light 3 (.light 4 (.light 5 (.light 6 (.light 7 (.light 8 (.heavy 2 [7, 3] (.heavy 9 [] (.heavy 10 [] .done))))))))))) else .done, fun _ => false, fun _ => false, [], fun _ _ _ => False⟩
/-- ledgerline/ledgerlineref13.Drop -/
def T24 : Tab := ⟨ty, fnOk, fun _ => .done, fun _ => false, fun _ => false, [], fun _ _ _ => False⟩
/-- ledgerline/ledgerlineref13.Same -/
def T25 : Tab := ⟨ty, fnOk, fun id => if id = 6 then (.light 0 (.light 1 (.light 2 (.light 3 (.light 4 (.light 5 (.light 6 (.light 7 (.light 8 (.light 9 (.heavy 10 [] (.light 11 .done)))))))))))) else if id = 11 then (.light 0 (.light 1 (.light 2 (.light 3 (.light 4 (.light 5 (.light 6 (.light 7 (.light 8 (.light 9 (.heavy 10 [] (.light 11 .done)))))))))))) else .done, fun _ => false, fun _ => false, [], fun _ _ _ => False⟩
/-- ledgerline/ledgerlinelaw13.ToRef -/
def T26 : Tab := ⟨ty, fnOk, fun id => if id = 5 then (.light 0 (.light 1 (.light 2 (.light 3 (.light 4 (.light 5 (.light 6 (.heavy 7 [1] (.heavy 8 [1] (.heavy 9 [] (.light 10 (.heavy 11 [] .done)))))))))))) else if id = 9 then (.light 0 (.light 1 (.light 2 (.light 3 (.light 4 (.light 5 (.light 6 (.light 7 (.light 8 (.light 9 (.light 10 (.light 11 (.light 12 (.light 13 (.heavy 14 [] .done))))))))))))))) else if id = 13 then (.light 0 (.light 1 (.light 2 (.light 3 (.light 4 (.light 5 (.light 6 (.light 7 (.light 8 (.light 9 (.light 10 (.light 11 (.light 12 (.light 13 (.light 14 (.light 15 (.light 16 (.light 17 (.light 18 (.light 19 (.light 20 (.light 21 (.light 22 (.heavy 23 [1] (.heavy 24 [] (.light 25 (.heavy 26 [] .done))))))))))))))))))))))))))) else .done, fun _ => false, fun _ => false, [], fun _ _ _ => False⟩
/-- (*ledgerline/store.Store).DB -/
def T27 : Tab := ⟨ty, fnOk, fun _ => .done, fun _ => false, fun _ => false, [], fun _ _ _ => False⟩
/-- (*ledgerline/store.Store).Ledger -/
def T31 : Tab := ⟨ty, fnOk, fun _ => .done, fun _ => false, fun _ => false, [], fun _ _ _ => False⟩
/-- (*sync.Once).Do -/
def T43 : Tab := ⟨ty, fnOk, fun _ => .done, fun _ => false, fun _ => false, [], fun _ _ _ => False⟩
/-- ledgerline/wal.Open -/
def T55 : Tab := ⟨ty, fnOk, fun id => if id = 7 then (.light 0 (.light 1 (.light 2 (.light 3 (.light 4 (.heavy 5 [] .done)))))) else if id = 8 then (.light 0 (.light 1 (.light 2 (.light 3 (.light 4 (.heavy 5 [] .done)))))) else if id = 9 then (.light 0 (.light 1 (.light 2 (.heavy 3 [] (.heavy 4 [] (.heavy 5 [] .done)))))) else .done, fun s => [22].contains s, fun _ => false, [], fun _ _ _ => False⟩
/-- (*ledgerline/store.state).do -/
def T56 : Tab := ⟨ty, fnOk, fun _ => .done, fun s => [9].contains s, fun _ => false, [], fun _ _ _ => False⟩
/-- (*sync/atomic.Pointer[ledgerline/store.state]).Store -/
def T57 : Tab := ⟨ty, fnOk, fun _ => .done, fun _ => false, fun _ => false, [], fun _ _ _ => False⟩
/-- (*sync/atomic.Pointer[ledgerline/store.state]).Load -/
def T58 : Tab := ⟨ty, fnOk, fun _ => .done, fun _ => false, fun _ => false, [], fun _ _ _ => False⟩
/-- ledgerline/txn.Create -/
def T59 : Tab := ⟨ty, fnOk, fun id => if id = 11 then (.light 0 (.light 2 (.light 3 (.light 4 (.light 5 (.heavy 1 [5] (.heavy 6 [5] (.heavy 7 [] .done)))))))) else if id = 12 then (.light 0 (.light 1 (.light 2 (.light 3 (.light 4 (.light 5 (.light 6 (.light 7 (.light 8 (.heavy 9 [5] (.heavy 10 [5] (.heavy 11 [] (.light 12 (.light 13 (.light 14 (.heavy 15 [] .done)))))))))))))))) else .done, fun _ => false, fun _ => false, [], fun _ _ _ => False⟩
/-- (*ledgerline/store.Store).append -/
def T60 : Tab := ⟨ty, fnOk, fun _ => .done, fun s => [3, 5, 6].contains s, fun _ => false, [], fun _ _ _ => False⟩
/-- ledgerline/store.tableRecord -/
def T61 : Tab := ⟨ty, fnOk, fun id => if id = 1 then (.light 1 (.heavy 0 [1] (.heavy 2 [] (.heavy 3 [] (.heavy 4 [] (.heavy 5 [] .done)))))) else .done, fun _ => false, fun _ => false, [], fun _ _ _ => False⟩
/-- ledgerline/ledgerlineref9.Check -/
def T62 : Tab := ⟨ty, fnOk, fun id => if id = 8 then (.light 0 (.light 1 (.light 2 (.light 3 (.light 4 (.light 5 (.light 6 (.heavy 7 [] (.light 8 (.light 9 (.light 10 (.heavy 11 [] (.heavy 12 [] .done))))))))))))) else .done, fun _ => false, fun _ => false, [], fun _ _ _ => False⟩
/-- ledgerline/ledgerlineref13.Find -/
def T63 : Tab := ⟨ty, fnOk, fun _ => .done, fun _ => false, fun _ => false, [], fun _ _ _ => False⟩
/-- ledgerline/ledgerlineref13.below -/
def T64 : Tab := ⟨ty, fnOk, fun id => if id = 4 then (.light 0 (.light 1 (.light 2 (.light 3 (.light 4 (.light 5 (.light 6 .done))))))) else if id = 5 then (.light 0 (.light 1 (.light 2 (.light 3 (.light 4 (.light 5 (.light 6 (.heavy 7 [] .done)))))))) else .done, fun _ => false, fun _ => false, [], fun _ _ _ => False⟩
/-- ledgerline/txn.Drop -/
def T65 : Tab := ⟨ty, fnOk, fun _ => .done, fun _ => false, fun _ => false, [], fun _ _ _ => False⟩
/-- ledgerline/store.dropRecord -/
def T66 : Tab := ⟨ty, fnOk, fun _ => .done, fun _ => false, fun _ => false, [], fun _ _ _ => False⟩
/-- ledgerline/ledgerlineref12.Same -/
def T67 : Tab := ⟨ty, fnOk, fun id => if id = 6 then (.light 0 (.light 1 (.light 2 (.light 3 (.light 4 (.light 5 (.light 6 (.light 7 (.light 8 (.light 9 (.light 10 .done))))))))))) else if id = 11 then (.light 0 (.light 1 (.light 2 (.light 3 (.light 4 (.light 5 (.light 6 (.light 7 (.light 8 (.light 9 (.light 10 .done))))))))))) else .done, fun _ => false, fun _ => false, [], fun _ _ _ => False⟩
/-- ledgerline/ledgerlineref10.Same -/
def T68 : Tab := ⟨ty, fnOk, fun id => if id = 6 then (.light 0 (.light 1 (.light 2 (.light 3 (.light 4 (.light 5 (.light 6 (.light 7 (.light 8 (.light 9 (.heavy 10 [] (.light 11 .done)))))))))))) else .done, fun _ => false, fun _ => false, [], fun _ _ _ => False⟩
/-- ledgerline/ledgerlineref13.sameWork -/
def T69 : Tab := ⟨ty, fnOk, fun id => if id = 6 then (.light 0 (.light 1 (.light 2 (.light 3 (.light 4 (.light 5 (.light 6 (.light 7 (.light 8 (.light 9 (.heavy 10 [] (.light 11 .done)))))))))))) else if id = 11 then (.light 0 (.light 1 (.light 2 (.light 3 (.light 4 (.light 5 (.light 6 (.light 7 (.light 8 (.light 9 (.light 10 .done))))))))))) else .done, fun _ => false, fun _ => false, [], fun _ _ _ => False⟩
/-- ledgerline/ledgerlinelaw12.ToRef -/
def T70 : Tab := ⟨ty, fnOk, fun id => if id = 5 then (.light 0 (.light 1 (.light 2 (.light 3 (.light 4 (.light 5 (.light 6 (.light 7 (.light 8 (.light 9 (.light 10 (.light 11 (.light 12 (.light 13 (.light 14 (.light 15 (.light 16 (.light 17 (.light 18 (.light 19 (.light 20 (.heavy 21 [1] (.heavy 22 [] (.light 23 (.heavy 24 [] .done))))))))))))))))))))))))) else if id = 9 then (.light 0 (.light 1 (.light 2 (.light 3 (.light 4 (.light 5 (.light 6 (.light 7 (.light 8 (.light 9 (.light 10 (.light 11 (.light 12 (.light 13 (.light 14 (.light 15 (.light 16 (.light 17 (.light 18 (.light 19 (.light 20 (.heavy 21 [1] (.heavy 22 [] (.light 23 (.heavy 24 [] .done))))))))))))))))))))))))) else .done, fun _ => false, fun _ => false, [], fun _ _ _ => False⟩
/-- ledgerline/ledgerlinelaw10.ToRef -/
def T71 : Tab := ⟨ty, fnOk, fun _ => .done, fun _ => false, fun _ => false, [], fun _ _ _ => False⟩
/-- ledgerline/store.ownDB -/
def T72 : Tab := ⟨ty, fnOk, fun id => if id = 1 then (.light 0 (.light 1 (.light 2 (.light 4 (.light 5 (.light 6 (.light 9 (.heavy 3 [6] (.heavy 7 [] (.light 8 (.heavy 10 [] .done))))))))))) else if id = 2 then (.light 0 (.light 1 (.light 3 (.light 4 (.light 6 (.heavy 2 [6, 4] (.heavy 5 [6] (.light 7 (.heavy 8 [] .done))))))))) else .done, fun _ => false, fun _ => false, [], fun _ _ _ => False⟩
/-- ledgerline/txn.begun -/
def T76 : Tab := ⟨ty, fnOk, fun _ => .done, fun s => [6].contains s, fun _ => false, [], fun _ _ _ => False⟩
/-- ledgerline/txn.own -/
def T78 : Tab := ⟨ty, fnOk, fun id => if id = 1 then (.light 0 (.light 1 (.light 3 (.light 4 (.light 6 (.light 7 (.light 8 (.light 10 (.light 11 (.light 12 (.heavy 2 [12, 8, 4] (.heavy 5 [12, 8] (.heavy 9 [12] (.heavy 13 [] (.light 14 (.light 15 (.heavy 16 [] .done))))))))))))))))) else .done, fun _ => false, fun _ => false, [], fun _ _ _ => False⟩
/-- ledgerline/txn.ownRow -/
def T82 : Tab := ⟨ty, fnOk, fun _ => .done, fun _ => false, fun _ => false, [], fun _ _ _ => False⟩
/-- ledgerline/store.ownLedger -/
def T84 : Tab := ⟨ty, fnOk, fun id => if id = 1 then (.light 0 (.light 1 (.light 2 (.light 3 (.light 5 (.light 6 (.light 8 (.light 9 (.heavy 4 [9, 6, 1] (.heavy 7 [9, 1] (.heavy 10 [1] (.light 11 (.heavy 12 [] .done))))))))))))) else .done, fun _ => false, fun _ => false, [], fun _ _ _ => False⟩
/-- ledgerline/wal.look -/
def T103 : Tab := ⟨ty, fnOk, fun id => if id = 14 then (.light 0 (.light 1 (.light 2 (.light 3 (.light 4 (.light 5 (.heavy 6 [] (.light 7 (.light 8 (.light 9 (.light 10 (.heavy 11 [] (.heavy 12 [] .done))))))))))))) else .done, fun s => [28].contains s, fun _ => false, [], fun _ _ _ => False⟩
/-- (*ledgerline/disk.Disk).Read -/
def T104 : Tab := ⟨ty, fnOk, fun _ => .done, fun _ => false, fun _ => false, [], fun _ _ _ => False⟩
/-- (*ledgerline/wal.lazy).bytes -/
def T105 : Tab := ⟨ty, fnOk, fun id => if id = 2 then (.light 0 (.light 1 (.light 2 (.light 3 (.light 4 (.light 5 (.light 6 (.light 7 (.heavy 8 [] (.heavy 9 [] .done)))))))))) else .done, fun _ => false, fun _ => false, [], fun _ _ _ => False⟩
/-- ledgerline/code.New -/
def T106 : Tab := ⟨ty, fnOk, fun _ => .done, fun s => [6].contains s, fun _ => false, [], fun _ _ _ => False⟩
/-- (*ledgerline/code.Reader).Int -/
def T107 : Tab := ⟨ty, fnOk, fun _ => .done, fun _ => false, fun _ => false, [], fun _ _ _ => False⟩
/-- ledgerline/wal.cut -/
def T108 : Tab := ⟨ty, fnOk, fun _ => .done, fun _ => false, fun _ => false, [], fun _ _ _ => False⟩
/-- (*ledgerline/code.Reader).Byte -/
def T109 : Tab := ⟨ty, fnOk, fun _ => .done, fun _ => false, fun _ => false, [], fun _ _ _ => False⟩
/-- ledgerline/schema.Parse -/
def T110 : Tab := ⟨ty, fnOk, fun id => if id = 9 then (.light 0 (.light 1 (.light 2 (.light 4 (.light 6 (.heavy 3 [1] (.heavy 5 [1] (.heavy 7 [1] (.light 8 (.heavy 9 [1] (.heavy 10 [] (.light 11 (.heavy 12 [] .done))))))))))))) else .done, fun _ => false, fun _ => false, [], fun _ _ _ => False⟩
/-- (*ledgerline/code.Reader).Text -/
def T111 : Tab := ⟨ty, fnOk, fun _ => .done, fun _ => false, fun _ => false, [], fun _ _ _ => False⟩
/-- (*ledgerline/code.Reader).Fail -/
def T112 : Tab := ⟨ty, fnOk, fun _ => .done, fun s => [2, 3].contains s, fun _ => false, [], fun _ _ _ => False⟩
/-- (*ledgerline/code.Reader).End -/
def T115 : Tab := ⟨ty, fnOk, fun _ => .done, fun _ => false, fun _ => false, [], fun _ _ _ => False⟩
/-- (*sync/atomic.Bool).Load -/
def T116 : Tab := ⟨ty, fnOk, fun _ => .done, fun _ => false, fun _ => false, [], fun _ _ _ => False⟩
/-- (*sync.Once).doSlow -/
def T117 : Tab := ⟨ty, fnOk, fun _ => .done, fun _ => false, fun _ => false, [], fun _ _ _ => False⟩
/-- (*sync/atomic.Int64).Store -/
def T132 : Tab := ⟨ty, fnOk, fun _ => .done, fun _ => false, fun _ => false, [], fun _ _ _ => False⟩
/-- (*ledgerline/store.state).table -/
def T133 : Tab := ⟨ty, fnOk, fun id => if id = 2 then (.light 0 (.light 1 (.light 2 (.light 3 (.light 4 (.light 9 (.heavy 5 [] (.light 6 (.light 7 (.light 8 (.heavy 10 [] (.heavy 11 [] .done)))))))))))) else .done, fun _ => false, fun _ => false, [], fun _ _ _ => False⟩
/-- (*ledgerline/store.state).drop -/
def T134 : Tab := ⟨ty, fnOk, fun id => if id = 0 then (.light 0 (.light 1 (.light 2 (.light 3 (.light 4 (.light 5 (.light 6 (.light 7 (.light 13 (.heavy 8 [3] (.heavy 9 [] (.light 10 (.light 11 (.light 12 (.heavy 14 [] (.heavy 15 [] .done)))))))))))))))) else .done, fun _ => false, fun _ => false, [], fun _ _ _ => False⟩
/-- (*ledgerline/txn.call).fail -/
def T139 : Tab := ⟨ty, fnOk, fun _ => .done, fun s => [2, 3].contains s, fun _ => false, [], fun _ _ _ => False⟩
/-- ledgerline/schema.Check -/
def T140 : Tab := ⟨ty, fnOk, fun _ => .done, fun s => [3].contains s, fun _ => false, [], fun _ _ _ => False⟩
/-- (*ledgerline/txn.call).table -/
def T141 : Tab := ⟨ty, fnOk, fun _ => .done, fun _ => false, fun _ => false, [], fun _ _ _ => False⟩
/-- slices.Insert[[]ledgerline/table.Table,ledgerline/table.Table] -/
def T142 : Tab := ⟨ty, fnOk, fun id => if id = 11 then (.light 0 (.light 1 (.light 2 (.light 3 (.light 4 (.light 5 (.light 6 (.light 7 (.heavy 8 [] .done))))))))) else if id = 15 then (.light 0 (.light 1 (.light 2 (.light 3 (.light 4 (.light 5 (.light 6 (.light 7 (.heavy 8 [] .done))))))))) else .done, fun _ => false, fun _ => false, [], fun _ _ _ => False⟩
/-- ledgerline/txn.ownTable -/
def T143 : Tab := ⟨ty, fnOk, fun _ => .done, fun _ => false, fun _ => false, [], fun _ _ _ => False⟩
/-- (*ledgerline/store.Store).append$1 -/
def T144 : Tab := ⟨ty, fnOk, fun _ => .done, fun _ => false, fun _ => false, [], fun _ _ _ => False⟩
/-- (*ledgerline/wal.Log).Append -/
def T145 : Tab := ⟨ty, fnOk, fun _ => .done, fun _ => false, fun _ => false, [], fun _ _ _ => False⟩
/-- ledgerline/code.Text -/
def T146 : Tab := ⟨ty, fnOk, fun _ => .done, fun _ => false, fun _ => false, [], fun _ _ _ => False⟩
/-- ledgerline/code.Byte -/
def T147 : Tab := ⟨ty, fnOk, fun _ => .done, fun _ => false, fun _ => false, [], fun _ _ _ => False⟩
/-- ledgerline/schema.Bytes -/
def T148 : Tab := ⟨ty, fnOk, fun id => if id = 1 then (.light 0 (.light 1 (.light 3 (.light 4 (.light 5 (.heavy 2 [4] (.heavy 6 [] (.heavy 7 [] .done)))))))) else if id = 5 then (.light 0 (.light 1 (.light 2 (.light 4 (.light 5 (.light 7 (.light 8 (.heavy 3 [8, 5] (.heavy 6 [8] (.heavy 9 [] (.heavy 10 [] (.heavy 11 [] .done)))))))))))) else if id = 7 then (.light 0 (.light 1 (.light 2 (.light 4 (.light 5 (.heavy 3 [5] (.heavy 6 [] (.heavy 7 [] (.heavy 8 [] .done))))))))) else .done, fun _ => false, fun _ => false, [], fun _ _ _ => False⟩
/-- ledgerline/ledgerlineref9.Name -/
def T149 : Tab := ⟨ty, fnOk, fun _ => .done, fun _ => false, fun _ => false, [], fun _ _ _ => False⟩
/-- ledgerline/ledgerlineref9.Find -/
def T150 : Tab := ⟨ty, fnOk, fun _ => .done, fun _ => false, fun _ => false, [], fun _ _ _ => False⟩
/-- slices.Delete[[]ledgerline/table.Table,ledgerline/table.Table] -/
def T151 : Tab := ⟨ty, fnOk, fun id => if id = 5 then (.light 0 (.light 1 (.light 2 (.light 3 (.light 4 (.light 5 (.heavy 6 [] (.heavy 7 [] .done)))))))) else .done, fun _ => false, fun _ => false, [], fun _ _ _ => False⟩
/-- ledgerline/ledgerlineref9.Same -/
def T152 : Tab := ⟨ty, fnOk, fun id => if id = 6 then (.light 0 (.light 1 (.light 2 (.light 3 (.light 4 (.light 5 (.light 6 (.light 7 (.light 8 (.light 9 (.light 10 .done))))))))))) else .done, fun _ => false, fun _ => false, [], fun _ _ _ => False⟩
/-- ledgerline/ledgerlineref5.Same -/
def T153 : Tab := ⟨ty, fnOk, fun id => if id = 6 then (.light 0 (.light 1 (.light 2 (.light 3 (.light 4 (.light 5 (.light 6 (.light 7 (.light 8 .done))))))))) else .done, fun _ => false, fun _ => false, [], fun _ _ _ => False⟩
/-- ledgerline/ledgerlineref13.SameChange -/
def T154 : Tab := ⟨ty, fnOk, fun id => if id = 6 then (.light 0 (.light 1 (.light 2 (.light 3 (.light 4 (.light 5 (.light 6 (.light 7 (.light 8 (.light 9 (.light 10 .done))))))))))) else .done, fun _ => false, fun _ => false, [], fun _ _ _ => False⟩
/-- slices.Clone[[]ledgerline/lock.Hold,ledgerline/lock.Hold] -/
def T155 : Tab := ⟨ty, fnOk, fun _ => .done, fun _ => false, fun _ => false, [], fun _ _ _ => False⟩
/-- ledgerline/store.each[ledgerline/table.Table] -/
def T156 : Tab := ⟨ty, fnOk, fun _ => .done, fun _ => false, fun _ => false, [], fun _ _ _ => False⟩
/-- ledgerline/store.ownTable -/
def T157 : Tab := ⟨ty, fnOk, fun _ => .done, fun _ => false, fun _ => false, [], fun _ _ _ => False⟩
/-- ledgerline/store.each[ledgerline/txn.Work] -/
def T158 : Tab := ⟨ty, fnOk, fun _ => .done, fun _ => false, fun _ => false, [], fun _ _ _ => False⟩
/-- ledgerline/store.ownWork -/
def T159 : Tab := ⟨ty, fnOk, fun id => if id = 1 then (.light 0 (.light 1 (.light 3 (.light 4 (.heavy 2 [4] (.light 6 (.heavy 5 [] (.heavy 7 [] (.light 8 (.heavy 9 [] .done)))))))))) else .done, fun _ => false, fun _ => false, [], fun _ _ _ => False⟩
/-- ledgerline/txn.each[ledgerline/table.Table] -/
def T165 : Tab := ⟨ty, fnOk, fun _ => .done, fun _ => false, fun _ => false, [], fun _ _ _ => False⟩
/-- ledgerline/txn.each[ledgerline/txn.Work] -/
def T166 : Tab := ⟨ty, fnOk, fun _ => .done, fun _ => false, fun _ => false, [], fun _ _ _ => False⟩
/-- ledgerline/txn.ownWork -/
def T167 : Tab := ⟨ty, fnOk, fun id => if id = 1 then (.light 0 (.light 1 (.light 3 (.light 4 (.heavy 2 [4] (.light 6 (.heavy 5 [] (.heavy 7 [] (.light 8 (.heavy 9 [] .done)))))))))) else .done, fun _ => false, fun _ => false, [], fun _ _ _ => False⟩
/-- slices.Clone[[]ledgerline/api.Value,ledgerline/api.Value] -/
def T174 : Tab := ⟨ty, fnOk, fun _ => .done, fun _ => false, fun _ => false, [], fun _ _ _ => False⟩
/-- ledgerline/store.ownTxs -/
def T176 : Tab := ⟨ty, fnOk, fun _ => .done, fun _ => false, fun _ => false, [], fun _ _ _ => False⟩
/-- slices.Clone[[]ledgerline/ledger.Block,ledgerline/ledger.Block] -/
def T177 : Tab := ⟨ty, fnOk, fun _ => .done, fun _ => false, fun _ => false, [], fun _ _ _ => False⟩
/-- ledgerline/store.each[[]ledgerline/api.Tx] -/
def T178 : Tab := ⟨ty, fnOk, fun _ => .done, fun _ => false, fun _ => false, [], fun _ _ _ => False⟩
/-- ledgerline/txn.each[ledgerline/api.Change] -/
def T179 : Tab := ⟨ty, fnOk, fun _ => .done, fun _ => false, fun _ => false, [], fun _ _ _ => False⟩
/-- ledgerline/txn.ownChange -/
def T180 : Tab := ⟨ty, fnOk, fun _ => .done, fun _ => false, fun _ => false, [], fun _ _ _ => False⟩
/-- ledgerline/code.Int -/
def T185 : Tab := ⟨ty, fnOk, fun _ => .done, fun _ => false, fun _ => false, [], fun _ _ _ => False⟩
/-- (*ledgerline/disk.Disk).checked -/
def T195 : Tab := ⟨ty, fnOk, fun _ => .done, fun _ => false, fun _ => false, [], fun _ _ _ => False⟩
/-- slices.Clone[[]byte,byte] -/
def T196 : Tab := ⟨ty, fnOk, fun _ => .done, fun _ => false, fun _ => false, [], fun _ _ _ => False⟩
/-- (*ledgerline/wal.lazy).read -/
def T197 : Tab := ⟨ty, fnOk, fun _ => .done, fun _ => false, fun _ => false, [], fun _ _ _ => False⟩
/-- (*ledgerline/code.Reader).number -/
def T198 : Tab := ⟨ty, fnOk, fun _ => .done, fun _ => false, fun _ => false, [], fun _ _ _ => False⟩
/-- slices.Clone[[][]byte,[]byte] -/
def T199 : Tab := ⟨ty, fnOk, fun _ => .done, fun _ => false, fun _ => false, [], fun _ _ _ => False⟩
/-- ledgerline/schema.truth -/
def T200 : Tab := ⟨ty, fnOk, fun _ => .done, fun _ => false, fun _ => false, [], fun _ _ _ => False⟩
/-- slices.Clone[[]ledgerline/api.Col,ledgerline/api.Col] -/
def T201 : Tab := ⟨ty, fnOk, fun _ => .done, fun _ => false, fun _ => false, [], fun _ _ _ => False⟩
/-- (*ledgerline/code.Reader).take -/
def T202 : Tab := ⟨ty, fnOk, fun _ => .done, fun _ => false, fun _ => false, [], fun _ _ _ => False⟩
/-- (*ledgerline/code.Reader).Fail$1 -/
def T203 : Tab := ⟨ty, fnOk, fun _ => .done, fun _ => false, fun _ => false, [], fun _ _ _ => False⟩
/-- (*sync.Mutex).Lock -/
def T207 : Tab := ⟨ty, fnOk, fun _ => .done, fun _ => false, fun _ => false, [], fun _ _ _ => False⟩
/-- (*sync.Mutex).Unlock -/
def T208 : Tab := ⟨ty, fnOk, fun _ => .done, fun _ => false, fun _ => false, [], fun _ _ _ => False⟩
/-- (*sync/atomic.Bool).Store -/
def T209 : Tab := ⟨ty, fnOk, fun id => if id = 0 then (.light 0 (.light 1 (.light 2 (.light 3 (.heavy 4 [] (.heavy 5 [] .done)))))) else .done, fun _ => false, fun _ => false, [], fun _ _ _ => False⟩
/-- (*ledgerline/store.reader).must -/
def T227 : Tab := ⟨ty, fnOk, fun _ => .done, fun s => [2].contains s, fun _ => false, [], fun _ _ _ => False⟩
/-- (*ledgerline/txn.call).fail$1 -/
def T233 : Tab := ⟨ty, fnOk, fun _ => .done, fun _ => false, fun _ => false, [], fun _ _ _ => False⟩
/-- (*ledgerline/schema.speller).name -/
def T234 : Tab := ⟨ty, fnOk, fun _ => .done, fun _ => false, fun _ => false, [], fun _ _ _ => False⟩
/-- ledgerline/schema.Find -/
def T235 : Tab := ⟨ty, fnOk, fun _ => .done, fun s => [3].contains s, fun _ => false, [], fun _ _ _ => False⟩
/-- slices.BinarySearchFunc[[]ledgerline/table.Table,ledgerline/table.Table,string] -/
def T236 : Tab := ⟨ty, fnOk, fun _ => .done, fun _ => false, fun _ => false, [], fun _ _ _ => False⟩
/-- (*ledgerline/txn.call).table$1 -/
def T237 : Tab := ⟨ty, fnOk, fun _ => .done, fun _ => false, fun _ => false, [], fun _ _ _ => False⟩
/-- strings.Compare -/
def T238 : Tab := ⟨ty, fnOk, fun _ => .done, fun _ => false, fun _ => false, [], fun _ _ _ => False⟩
/-- ledgerline/txn.each[[]ledgerline/api.Value] -/
def T241 : Tab := ⟨ty, fnOk, fun _ => .done, fun _ => false, fun _ => false, [], fun _ _ _ => False⟩
/-- (*ledgerline/disk.Disk).Pages -/
def T242 : Tab := ⟨ty, fnOk, fun _ => .done, fun _ => false, fun _ => false, [], fun _ _ _ => False⟩
/-- (*sync/atomic.Int64).Load -/
def T243 : Tab := ⟨ty, fnOk, fun _ => .done, fun _ => false, fun _ => false, [], fun _ _ _ => False⟩
/-- (*ledgerline/wal.Log).pages -/
def T244 : Tab := ⟨ty, fnOk, fun id => if id = 11 then (.light 0 (.light 1 (.light 2 (.light 3 (.light 4 (.light 5 (.light 6 (.light 7 (.heavy 8 [] (.heavy 9 [] .done)))))))))) else .done, fun _ => false, fun _ => false, [], fun _ _ _ => False⟩
/-- slices.Concat[[]byte,byte] -/
def T245 : Tab := ⟨ty, fnOk, fun _ => .done, fun _ => false, fun _ => false, [], fun _ _ _ => False⟩
/-- (*ledgerline/disk.Disk).Write -/
def T246 : Tab := ⟨ty, fnOk, fun id => if id = 6 then (.light 0 (.light 1 (.light 2 (.light 3 (.light 4 (.light 5 (.light 6 (.heavy 7 [] .done)))))))) else if id = 7 then (.light 0 (.light 1 (.light 2 (.light 3 (.light 4 (.light 5 (.light 6 (.light 7 (.heavy 8 [4] (.heavy 9 [] (.light 10 (.light 11 (.heavy 12 [] .done))))))))))))) else .done, fun s => [8].contains s, fun _ => false, [], fun _ _ _ => False⟩
/-- (*ledgerline/wal.Log).Count -/
def T247 : Tab := ⟨ty, fnOk, fun _ => .done, fun _ => false, fun _ => false, [], fun _ _ _ => False⟩
/-- (*ledgerline/disk.Disk).Sync -/
def T248 : Tab := ⟨ty, fnOk, fun id => if id = 3 then (.light 0 (.light 1 (.light 2 (.light 3 (.light 4 (.light 5 (.light 6 (.light 7 (.heavy 8 [] .done))))))))) else .done, fun _ => false, fun _ => false, [], fun _ _ _ => False⟩
/-- (*sync/atomic.Int64).Add -/
def T249 : Tab := ⟨ty, fnOk, fun _ => .done, fun _ => false, fun _ => false, [], fun _ _ _ => False⟩
/-- ledgerline/schema.flag -/
def T250 : Tab := ⟨ty, fnOk, fun _ => .done, fun _ => false, fun _ => false, [], fun _ _ _ => False⟩
/-- ledgerline/ledgerlineref9.Reserved -/
def T251 : Tab := ⟨ty, fnOk, fun _ => .done, fun _ => false, fun _ => false, [], fun _ _ _ => False⟩
/-- ledgerline/store.each[[]ledgerline/api.Value] -/
def T252 : Tab := ⟨ty, fnOk, fun _ => .done, fun _ => false, fun _ => false, [], fun _ _ _ => False⟩
/-- ledgerline/store.ownRow -/
def T253 : Tab := ⟨ty, fnOk, fun _ => .done, fun _ => false, fun _ => false, [], fun _ _ _ => False⟩
/-- ledgerline/store.each[ledgerline/api.Change] -/
def T254 : Tab := ⟨ty, fnOk, fun _ => .done, fun _ => false, fun _ => false, [], fun _ _ _ => False⟩
/-- ledgerline/store.ownChange -/
def T255 : Tab := ⟨ty, fnOk, fun _ => .done, fun _ => false, fun _ => false, [], fun _ _ _ => False⟩
/-- slices.Clone[[]ledgerline/txn.Mark,ledgerline/txn.Mark] -/
def T256 : Tab := ⟨ty, fnOk, fun _ => .done, fun _ => false, fun _ => false, [], fun _ _ _ => False⟩
/-- ledgerline/store.each[ledgerline/api.Tx] -/
def T273 : Tab := ⟨ty, fnOk, fun _ => .done, fun _ => false, fun _ => false, [], fun _ _ _ => False⟩
/-- (*ledgerline/disk.power).Dead -/
def T280 : Tab := ⟨ty, fnOk, fun _ => .done, fun _ => false, fun _ => false, [], fun _ _ _ => False⟩
/-- (*internal/sync.Mutex).Lock -/
def T282 : Tab := ⟨ty, fnOk, fun _ => .done, fun _ => false, fun _ => false, [], fun _ _ _ => False⟩
/-- (*internal/sync.Mutex).Unlock -/
def T283 : Tab := ⟨ty, fnOk, fun _ => .done, fun _ => false, fun _ => false, [], fun _ _ _ => False⟩
/-- sync/atomic.b32 -/
def T285 : Tab := ⟨ty, fnOk, fun _ => .done, fun _ => false, fun _ => false, [], fun _ _ _ => False⟩
/-- (*ledgerline/store.reader).must$1 -/
def T300 : Tab := ⟨ty, fnOk, fun _ => .done, fun _ => false, fun _ => false, [], fun _ _ _ => False⟩
/-- (*ledgerline/schema.speller).read -/
def T301 : Tab := ⟨ty, fnOk, fun _ => .done, fun _ => false, fun _ => false, [], fun _ _ _ => False⟩
/-- slices.IndexFunc[[]ledgerline/api.Col,ledgerline/api.Col] -/
def T302 : Tab := ⟨ty, fnOk, fun _ => .done, fun _ => false, fun _ => false, [], fun _ _ _ => False⟩
/-- ledgerline/schema.Find$1 -/
def T303 : Tab := ⟨ty, fnOk, fun _ => .done, fun _ => false, fun _ => false, [], fun _ _ _ => False⟩
/-- internal/bytealg.CompareString -/
def T304 : Tab := ⟨ty, fnOk, fun _ => .done, fun _ => false, fun _ => false, [], fun _ _ _ => False⟩
/-- slices.Grow[[]byte,byte] -/
def T307 : Tab := ⟨ty, fnOk, fun _ => .done, fun _ => false, fun _ => false, [], fun _ _ _ => False⟩
/-- (*ledgerline/disk.power).step -/
def T308 : Tab := ⟨ty, fnOk, fun _ => .done, fun _ => false, fun _ => false, [], fun _ _ _ => False⟩
/-- ledgerline/schema.language -/
def T343 : Tab := ⟨ty, fnOk, fun _ => .done, fun _ => false, fun _ => false, [], fun _ _ _ => False⟩
theorem pickTy {c : Prop} [Decidable c] {a b : Ti} {q : Prop} (ha : c → a = .none ∨ q) (hb : ¬ c → b = .none ∨ q) : (if c then a else b) = .none ∨ q := by
  by_cases h : c
  · rw [if_pos h]; exact ha h
  · rw [if_neg h]; exact hb h
theorem ty_mem (t : Nat) : ty t = .none ∨ t ∈ tyIds := by
  unfold ty
  repeat' (first
    | exact .inl rfl
    | (refine pickTy (fun e => ?_) (fun e => ?_)))
  all_goals (right; rw [e]; decide)
theorem ty_map : tyIds.map ty = tyIds.map (mkTi Tryz.prog) := by kernel_rfl
theorem fn_all : ((List.range fnN).all fun f => fnBad.contains f || (match Tryz.prog.funcs[f]? with
    | some fn => fn.body.isSome && decide (fn.name ≠ "runtime.NumGoroutine")
    | none => false)) = true := by kernel_rfl
theorem mixed : Tryz.prog.follows .mixedOrders = true := by kernel_rfl
theorem tabOkP (pl : Nat → Plan) (pb pn : Nat → Bool) (rs : List Nat) (kp : List PanicEntry → List SV → Heap → Prop) : TabOk Tryz.prog ⟨ty, fnOk, pl, pb, pn, rs, kp⟩ where
  ty t := by
    rcases ty_mem t with h | h
    · exact .inr h
    · exact .inl (List.map_inj_left.1 ty_map t h)
  fn f h := by
    have h : fnOk f = true := h
    unfold fnOk at h
    split at h
    · rename_i hlt
      have h1 := List.all_eq_true.1 fn_all f (by simpa using hlt)
      simp only [Bool.or_eq_true] at h1
      rcases h1 with h1 | h1
      · rw [h1] at h; cases h
      · split at h1
        · rename_i fn hfn
          simp only [Bool.and_eq_true, decide_eq_true_eq] at h1
          exact ⟨fn, hfn, h1.1, h1.2⟩
        · cases h1
    · cases h
  mixed := mixed
theorem tabOk (pl : Nat → Plan) (pb : Nat → Bool) : TabOk Tryz.prog ⟨ty, fnOk, pl, pb, fun _ => false, [], fun _ _ _ => False⟩ := tabOkP pl pb _ _ _
end Go.S

