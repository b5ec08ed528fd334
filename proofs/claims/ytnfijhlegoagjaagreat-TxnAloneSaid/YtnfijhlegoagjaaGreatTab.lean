import Derived.Test.YtnfijhlegoagjaaGreatProg
import Derived.Test.YtnfijhlegoagjaaGreatSxB
import Derived.KernelRfl
set_option linter.unusedVariables false
set_option linter.unusedSimpArgs false
set_option linter.unusedSectionVars false
set_option linter.unusedVariables false
namespace Go.S
open Go.Sx Go.Proofs

def y1 : Ti := ⟨false, false, 1, 8, [.nilFunc], .fn⟩
def y2 : Ti := ⟨false, false, 1, 8, [.int .i64 0], (.int .i64)⟩
def y3 : Ti := ⟨false, false, 1, 8, [.int .i64 0], (.int .i64)⟩
def y4 : Ti := ⟨false, false, 1, 1, [.bool false], .bool⟩
def y5 : Ti := ⟨false, false, 1, 1, [.int .u8 0], (.int .u8)⟩
def y9 : Ti := ⟨false, false, 1, 16, [.string ⟨#[]⟩], .str⟩
def y21 : Ti := ⟨false, false, 1, 4, [.int .i32 0], (.int .i32)⟩
def y22 : Ti := ⟨false, false, 1, 24, [.slice none 0 0], (.slc 3)⟩
def y24 : Ti := ⟨false, false, 1, 24, [.slice none 0 0], (.slc 43)⟩
def y25 : Ti := ⟨false, false, 1, 24, [.slice none 0 0], (.slc 60)⟩
def y26 : Ti := ⟨false, false, 1, 24, [.slice none 0 0], (.slc 188)⟩
def y28 : Ti := ⟨false, true, 2, 48, [.slice none 0 0, .slice none 0 0], (.strct [(26, 0), (26, 1)])⟩
def y30 : Ti := ⟨false, true, 4, 96, [.slice none 0 0, .slice none 0 0, .slice none 0 0, .slice none 0 0], (.strct [(24, 0), (25, 1), (28, 2)])⟩
def y31 : Ti := ⟨false, true, 26, 26, (List.replicate 26 (.bool false)), (.arr 26 4)⟩
def y33 : Ti := ⟨false, false, 1, 24, [.slice none 0 0], (.slc 104)⟩
def y35 : Ti := ⟨false, true, 4, 56, [.string ⟨#[]⟩, .slice none 0 0, .int .i64 0, .bool false], (.strct [(9, 0), (33, 1), (3, 2), (4, 3)])⟩
def y37 : Ti := ⟨false, false, 1, 24, [.slice none 0 0], (.slc 5)⟩
def y38 : Ti := ⟨false, false, 1, 8, [.int .i64 0], (.int .i64)⟩
def y41 : Ti := ⟨false, false, 1, 24, [.slice none 0 0], (.slc 63)⟩
def y43 : Ti := ⟨false, true, 5, 80, [.string ⟨#[]⟩, .slice none 0 0, .int .i64 0, .bool false, .slice none 0 0], (.strct [(35, 0), (41, 4)])⟩
def y46 : Ti := ⟨false, false, 1, 24, [.slice none 0 0], (.slc 100)⟩
def y47 : Ti := ⟨false, false, 1, 24, [.slice none 0 0], (.slc 143)⟩
def y48 : Ti := ⟨false, false, 1, 24, [.slice none 0 0], (.slc 209)⟩
def y50 : Ti := ⟨false, true, 2, 48, [.slice none 0 0, .slice none 0 0], (.strct [(48, 0), (48, 1)])⟩
def y52 : Ti := ⟨false, true, 4, 96, [.slice none 0 0, .slice none 0 0, .slice none 0 0, .slice none 0 0], (.strct [(46, 0), (47, 1), (50, 2)])⟩
def y56 : Ti := ⟨false, false, 1, 24, [.slice none 0 0], (.slc 9)⟩
def y57 : Ti := ⟨false, false, 1, 24, [.slice none 0 0], (.slc 77)⟩
def y58 : Ti := ⟨false, false, 1, 24, [.slice none 0 0], (.slc 145)⟩
def y60 : Ti := ⟨false, true, 3, 56, [.int .i64 0, .slice none 0 0, .slice none 0 0], (.strct [(3, 0), (57, 1), (58, 2)])⟩
def y63 : Ti := ⟨false, false, 1, 24, [.slice none 0 0], (.slc 68)⟩
def y68 : Ti := ⟨true, true, 3, 32, [.int .i64 0, .int .i64 0, .string ⟨#[]⟩], (.strct [(3, 0), (3, 1), (9, 2)])⟩
def y73 : Ti := ⟨false, false, 1, 24, [.slice none 0 0], (.slc 75)⟩
def y75 : Ti := ⟨true, true, 5, 40, [.int .i64 0, .int .i64 0, .int .i64 0, .int .i64 0, .bool false], (.strct [(3, 0), (3, 1), (3, 2), (3, 3), (4, 4)])⟩
def y77 : Ti := ⟨false, true, 3, 48, [.string ⟨#[]⟩, .int .i64 0, .slice none 0 0], (.strct [(9, 0), (3, 1), (63, 2)])⟩
def y98 : Ti := ⟨false, false, 1, 8, [.nilFunc], .fn⟩
def y100 : Ti := ⟨false, true, 5, 80, [.string ⟨#[]⟩, .slice none 0 0, .int .i64 0, .bool false, .slice none 0 0], (.strct [(35, 0), (41, 4)])⟩
def y104 : Ti := ⟨true, true, 3, 32, [.string ⟨#[]⟩, .int .i64 0, .bool false], (.strct [(9, 0), (3, 1), (4, 2)])⟩
def y105 : Ti := ⟨false, false, 1, 8, [.pointer none], (.ptr 124)⟩
def y112 : Ti := ⟨true, true, 0, 0, [], (.strct [])⟩
def y113 : Ti := ⟨true, true, 0, 0, [], (.strct [])⟩
def y114 : Ti := ⟨false, false, 1, 4, [.int .u32 0], (.int .u32)⟩
def y116 : Ti := ⟨false, true, 1, 4, [.int .u32 0], (.strct [(113, 0), (114, 0)])⟩
def y118 : Ti := ⟨true, true, 2, 8, [.int .i32 0, .int .u32 0], (.strct [(21, 0), (114, 1)])⟩
def y120 : Ti := ⟨false, true, 2, 8, [.int .i32 0, .int .u32 0], (.strct [(112, 0), (118, 0)])⟩
def y122 : Ti := ⟨false, true, 3, 12, [.int .u32 0, .int .i32 0, .int .u32 0], (.strct [(112, 0), (116, 0), (120, 1)])⟩
def y124 : Ti := ⟨false, true, 8, 120, [.slice none 0 0, .slice none 0 0, .slice none 0 0, .slice none 0 0, .int .u32 0, .int .i32 0, .int .u32 0, .int .i64 0], (.strct [(30, 0), (122, 4), (38, 7)])⟩
def y127 : Ti := ⟨false, false, 1, 8, [.nilFunc], .fn⟩
def y134 : Ti := ⟨false, false, 1, 8, [.nilFunc], .fn⟩
def y135 : Ti := ⟨false, false, 1, 8, [.nilFunc], .fn⟩
def y141 : Ti := ⟨false, false, 1, 24, [.slice none 0 0], (.slc 146)⟩
def y143 : Ti := ⟨false, true, 3, 56, [.int .i64 0, .slice none 0 0, .slice none 0 0], (.strct [(3, 0), (57, 1), (141, 2)])⟩
def y145 : Ti := ⟨true, true, 2, 24, [.string ⟨#[]⟩, .int .i64 0], (.strct [(9, 0), (3, 1)])⟩
def y146 : Ti := ⟨true, true, 2, 24, [.string ⟨#[]⟩, .int .i64 0], (.strct [(9, 0), (3, 1)])⟩
def y149 : Ti := ⟨false, false, 1, 8, [.nilFunc], .fn⟩
def y151 : Ti := ⟨false, false, 1, 8, [.nilFunc], .fn⟩
def y154 : Ti := ⟨false, false, 1, 8, [.nilFunc], .fn⟩
def y157 : Ti := ⟨false, false, 1, 8, [.nilFunc], .fn⟩
def y175 : Ti := ⟨false, false, 1, 8, [.map none], (.mp 9 4)⟩
def y177 : Ti := ⟨false, true, 4, 24, [.int .u32 0, .int .i32 0, .int .u32 0, .map none], (.strct [(122, 0), (175, 3)])⟩
def y182 : Ti := ⟨false, false, 1, 8, [.nilFunc], .fn⟩
def y185 : Ti := ⟨false, false, 1, 8, [.nilFunc], .fn⟩
def y188 : Ti := ⟨true, true, 3, 32, [.int .i64 0, .string ⟨#[]⟩, .bool false], (.strct [(3, 0), (9, 1), (4, 2)])⟩
def y194 : Ti := ⟨false, false, 1, 8, [.nilFunc], .fn⟩
def y203 : Ti := ⟨false, true, 5, 80, [.string ⟨#[]⟩, .slice none 0 0, .int .i64 0, .bool false, .slice none 0 0], (.strct [(43, 0)])⟩
def y209 : Ti := ⟨true, true, 3, 32, [.int .i64 0, .string ⟨#[]⟩, .bool false], (.strct [(3, 0), (9, 1), (4, 2)])⟩
def y213 : Ti := ⟨false, false, 1, 8, [.nilFunc], .fn⟩
def y231 : Ti := ⟨false, false, 1, 8, [.pointer none], (.ptr 122)⟩
def y232 : Ti := ⟨false, false, 1, 8, [.pointer none], (.ptr 177)⟩
def y234 : Ti := ⟨false, false, 1, 8, [.nilFunc], .fn⟩
def y235 : Ti := ⟨false, false, 1, 8, [.int .u64 0], (.int .u64)⟩
def y239 : Ti := ⟨false, false, 1, 8, [.nilFunc], .fn⟩
def y242 : Ti := ⟨false, false, 1, 8, [.pointer none], (.ptr 276)⟩
def y244 : Ti := ⟨false, false, 1, 8, [.map none], (.mp 3 4)⟩
def y247 : Ti := ⟨false, false, 1, 24, [.slice none 0 0], (.slc 41)⟩
def y251 : Ti := ⟨false, false, 1, 8, [.nilFunc], .fn⟩
def y252 : Ti := ⟨false, false, 1, 8, [.nilFunc], .fn⟩
def y263 : Ti := ⟨false, false, 1, 8, [.pointer none], (.ptr 116)⟩
def y265 : Ti := ⟨false, false, 1, 8, [.pointer none], (.ptr 114)⟩
def y270 : Ti := ⟨false, false, 1, 24, [.slice none 0 0], (.slc 26)⟩
def y271 : Ti := ⟨false, false, 1, 8, [.map none], (.mp 3 22)⟩
def y272 : Ti := ⟨true, true, 0, 0, [], (.strct [])⟩
def y274 : Ti := ⟨false, true, 1, 8, [.int .i64 0], (.strct [(113, 0), (272, 0), (2, 0)])⟩
def y276 : Ti := ⟨false, true, 2, 16, [.map none, .int .i64 0], (.strct [(271, 0), (274, 1)])⟩
def y282 : Ti := ⟨false, false, 1, 8, [.pointer none], (.ptr 120)⟩
def y285 : Ti := ⟨false, false, 1, 8, [.pointer none], (.ptr 274)⟩
def y287 : Ti := ⟨false, false, 1, 8, [.pointer none], (.ptr 2)⟩
def y288 : Ti := ⟨false, false, 1, 8, [.pointer none], (.ptr 118)⟩
def y290 : Ti := ⟨false, false, 1, 8, [.pointer none], (.ptr 21)⟩
def y292 : Ti := ⟨false, false, 1, 8, [.pointer none], .oth⟩
def ty (t : Nat) : Ti := if t < 122 then (if t < 48 then (if t < 28 then (if t < 9 then (if t < 3 then (if t < 2 then (if t = 1 then y1 else .none) else (if t = 2 then y2 else .none)) else (if t < 4 then (if t = 3 then y3 else .none) else (if t < 5 then (if t = 4 then y4 else .none) else (if t = 5 then y5 else .none)))) else (if t < 24 then (if t < 21 then (if t = 9 then y9 else .none) else (if t < 22 then (if t = 21 then y21 else .none) else (if t = 22 then y22 else .none))) else (if t < 25 then (if t = 24 then y24 else .none) else (if t < 26 then (if t = 25 then y25 else .none) else (if t = 26 then y26 else .none))))) else (if t < 37 then (if t < 31 then (if t < 30 then (if t = 28 then y28 else .none) else (if t = 30 then y30 else .none)) else (if t < 33 then (if t = 31 then y31 else .none) else (if t < 35 then (if t = 33 then y33 else .none) else (if t = 35 then y35 else .none)))) else (if t < 43 then (if t < 38 then (if t = 37 then y37 else .none) else (if t < 41 then (if t = 38 then y38 else .none) else (if t = 41 then y41 else .none))) else (if t < 46 then (if t = 43 then y43 else .none) else (if t < 47 then (if t = 46 then y46 else .none) else (if t = 47 then y47 else .none)))))) else (if t < 77 then (if t < 58 then (if t < 52 then (if t < 50 then (if t = 48 then y48 else .none) else (if t = 50 then y50 else .none)) else (if t < 56 then (if t = 52 then y52 else .none) else (if t < 57 then (if t = 56 then y56 else .none) else (if t = 57 then y57 else .none)))) else (if t < 68 then (if t < 60 then (if t = 58 then y58 else .none) else (if t < 63 then (if t = 60 then y60 else .none) else (if t = 63 then y63 else .none))) else (if t < 73 then (if t = 68 then y68 else .none) else (if t < 75 then (if t = 73 then y73 else .none) else (if t = 75 then y75 else .none))))) else (if t < 112 then (if t < 100 then (if t < 98 then (if t = 77 then y77 else .none) else (if t = 98 then y98 else .none)) else (if t < 104 then (if t = 100 then y100 else .none) else (if t < 105 then (if t = 104 then y104 else .none) else (if t = 105 then y105 else .none)))) else (if t < 116 then (if t < 113 then (if t = 112 then y112 else .none) else (if t < 114 then (if t = 113 then y113 else .none) else (if t = 114 then y114 else .none))) else (if t < 118 then (if t = 116 then y116 else .none) else (if t < 120 then (if t = 118 then y118 else .none) else (if t = 120 then y120 else .none))))))) else (if t < 231 then (if t < 154 then (if t < 141 then (if t < 127 then (if t < 124 then (if t = 122 then y122 else .none) else (if t = 124 then y124 else .none)) else (if t < 134 then (if t = 127 then y127 else .none) else (if t < 135 then (if t = 134 then y134 else .none) else (if t = 135 then y135 else .none)))) else (if t < 146 then (if t < 143 then (if t = 141 then y141 else .none) else (if t < 145 then (if t = 143 then y143 else .none) else (if t = 145 then y145 else .none))) else (if t < 149 then (if t = 146 then y146 else .none) else (if t < 151 then (if t = 149 then y149 else .none) else (if t = 151 then y151 else .none))))) else (if t < 185 then (if t < 175 then (if t < 157 then (if t = 154 then y154 else .none) else (if t = 157 then y157 else .none)) else (if t < 177 then (if t = 175 then y175 else .none) else (if t < 182 then (if t = 177 then y177 else .none) else (if t = 182 then y182 else .none)))) else (if t < 203 then (if t < 188 then (if t = 185 then y185 else .none) else (if t < 194 then (if t = 188 then y188 else .none) else (if t = 194 then y194 else .none))) else (if t < 209 then (if t = 203 then y203 else .none) else (if t < 213 then (if t = 209 then y209 else .none) else (if t = 213 then y213 else .none)))))) else (if t < 265 then (if t < 242 then (if t < 234 then (if t < 232 then (if t = 231 then y231 else .none) else (if t = 232 then y232 else .none)) else (if t < 235 then (if t = 234 then y234 else .none) else (if t < 239 then (if t = 235 then y235 else .none) else (if t = 239 then y239 else .none)))) else (if t < 251 then (if t < 244 then (if t = 242 then y242 else .none) else (if t < 247 then (if t = 244 then y244 else .none) else (if t = 247 then y247 else .none))) else (if t < 252 then (if t = 251 then y251 else .none) else (if t < 263 then (if t = 252 then y252 else .none) else (if t = 263 then y263 else .none))))) else (if t < 282 then (if t < 272 then (if t < 270 then (if t = 265 then y265 else .none) else (if t < 271 then (if t = 270 then y270 else .none) else (if t = 271 then y271 else .none))) else (if t < 274 then (if t = 272 then y272 else .none) else (if t < 276 then (if t = 274 then y274 else .none) else (if t = 276 then y276 else .none)))) else (if t < 288 then (if t < 285 then (if t = 282 then y282 else .none) else (if t < 287 then (if t = 285 then y285 else .none) else (if t = 287 then y287 else .none))) else (if t < 290 then (if t = 288 then y288 else .none) else (if t < 292 then (if t = 290 then y290 else .none) else (if t = 292 then y292 else .none)))))))
def tyIds : List Nat := [1, 2, 3, 4, 5, 9, 21, 22, 24, 25, 26, 28, 30, 31, 33, 35, 37, 38, 41, 43, 46, 47, 48, 50, 52, 56, 57, 58, 60, 63, 68, 73, 75, 77, 98, 100, 104, 105, 112, 113, 114, 116, 118, 120, 122, 124, 127, 134, 135, 141, 143, 145, 146, 149, 151, 154, 157, 175, 177, 182, 185, 188, 194, 203, 209, 213, 231, 232, 234, 235, 239, 242, 244, 247, 251, 252, 263, 265, 270, 271, 272, 274, 276, 282, 285, 287, 288, 290, 292]
def fnBad : List Nat := [0, 1, 105, 111, 174, 179, 193, 195, 197, 198, 199, 200, 202, 203, 205, 206, 207, 208, 209, 210, 211, 212, 213, 214, 215, 216, 217, 218, 219, 220, 221, 222, 223, 224, 225, 226, 227, 228, 229]
def fnN : Nat := 230
def fnOk (f : Nat) : Bool := if f < fnN then !fnBad.contains f else false
/-- gosem.cut.init -/
def T2 : Tab := ⟨ty, fnOk, fun _ => .done, fun _ => false⟩
/-- ledgerline/ledgerlinelaw13.TxnTables -/
def T3 : Tab := ⟨ty, fnOk, fun id => if id = 28 then (.light 0 (.light 1 (.light 2 (.light 3 (.light 4 (.light 5 (.light 6 (.light 7 (.light 8 (.light 9 (.light 10 (.light 11 (.light 12 (.light 13 (.light 14 (.light 15 .done)))))))))))))))) else .done, fun _ => false⟩
/-- ledgerline/ledgerlinelaw13.TxnDead -/
def T4 : Tab := ⟨ty, fnOk, fun id => if id = 17 then (.light 0 (.light 1 (.light 2 (.light 3 (.light 4 (.heavy 5 [] (.light 6 (.light 7 (.light 8 (.heavy 9 [] (.heavy 10 [] .done))))))))))) else if id = 18 then (.light 0 (.light 1 (.light 2 (.light 3 (.light 4 (.heavy 5 [] (.light 6 (.light 7 (.light 8 (.heavy 9 [] (.heavy 10 [] .done))))))))))) else .done, fun _ => false⟩
/-- ledgerline/ledgerlinelaw13.TxnOnly -/
def T5 : Tab := ⟨ty, fnOk, fun id => if id = 7 then (.light 0 (.light 1 (.light 2 (.light 3 (.heavy 4 [] (.light 5 (.light 6 (.light 7 (.heavy 8 [] (.heavy 9 [] .done)))))))))) else if id = 8 then (.light 0 (.light 1 (.light 2 (.light 3 (.heavy 4 [] (.light 5 (.light 6 (.light 7 (.heavy 8 [] (.heavy 9 [] .done)))))))))) else .done, fun _ => false⟩
/-- ledgerline/ledgerlinelaw13.TxnMany -/
def T6 : Tab := ⟨ty, fnOk, fun _ => .done, fun _ => false⟩
/-- ledgerline/ledgerlinelaw13.TxnLog -/
def T7 : Tab := ⟨ty, fnOk, fun id => if id = 8 then (.light 1 (.light 2 (.light 3 (.light 4 (.light 5 (.heavy 0 [5] (.heavy 6 [] (.heavy 7 [] .done)))))))) else if id = 11 then (.light 0 (.light 1 (.light 2 (.light 3 (.light 8 (.heavy 4 [] (.light 5 (.light 6 (.light 7 (.heavy 9 [] (.heavy 10 [] .done))))))))))) else if id = 15 then (.light 0 (.light 1 (.light 2 (.light 3 (.light 4 (.light 5 (.light 6 (.light 7 (.light 8 (.light 9 .done)))))))))) else .done, fun _ => false⟩
/-- ledgerline/ledgerlinelaw13.TxnDrops -/
def T8 : Tab := ⟨ty, fnOk, fun id => if id = 7 then (.light 0 (.light 2 (.light 3 (.light 4 (.light 5 (.heavy 1 [5, 0] (.heavy 6 [0] (.heavy 7 [] (.light 8 (.light 9 (.light 10 (.heavy 11 [] .done)))))))))))) else if id = 15 then (.light 0 (.heavy 1 [0] (.heavy 2 [] (.light 3 (.light 4 (.light 5 (.heavy 6 [] (.heavy 7 [] .done)))))))) else .done, fun _ => false⟩
/-- ledgerline/ledgerlinelaw13.TxnMarks -/
def T9 : Tab := ⟨ty, fnOk, fun id => if id = 17 then (.light 0 (.light 2 (.light 3 (.light 4 (.light 5 (.heavy 1 [5, 0] (.heavy 6 [0] (.heavy 7 [] (.light 8 (.light 9 (.light 10 (.heavy 11 [] .done)))))))))))) else if id = 18 then (.light 0 (.light 2 (.light 3 (.light 4 (.light 5 (.heavy 1 [5, 0] (.heavy 6 [0] (.light 7 (.light 8 (.heavy 9 [] (.light 10 (.light 11 (.light 12 (.heavy 13 [] .done)))))))))))))) else .done, fun _ => false⟩
/-- ledgerline/ledgerlinelaw13.TxnNone -/
def T10 : Tab := ⟨ty, fnOk, fun id => if id = 7 then (.light 0 (.light 1 (.light 3 (.light 9 (.heavy 2 [0] (.heavy 4 [0] (.heavy 5 [] (.light 6 (.light 7 (.light 8 (.heavy 10 [] (.heavy 11 [] .done)))))))))))) else .done, fun _ => false⟩
/-- ledgerline/ledgerlinelaw13.TxnBack -/
def T11 : Tab := ⟨ty, fnOk, fun id => if id = 10 then (.light 0 (.light 1 (.light 2 (.light 3 (.light 4 (.light 5 (.light 9 (.light 10 (.light 11 (.light 12 (.light 13 (.light 16 (.light 17 (.light 18 (.light 19 (.light 20 (.heavy 6 [20, 13, 0] (.heavy 7 [20, 13, 0] (.light 8 (.heavy 14 [20, 0] (.heavy 15 [20, 0] (.heavy 21 [0] (.heavy 22 [] (.light 23 (.light 24 (.light 25 (.heavy 26 [] .done))))))))))))))))))))))))))) else if id = 24 then (.light 0 (.light 1 (.light 4 (.light 6 (.light 7 (.heavy 2 [7, 0] (.light 3 (.heavy 5 [7, 0] (.heavy 8 [0] (.heavy 9 [] (.light 10 (.light 11 (.light 12 (.heavy 13 [] .done)))))))))))))) else if id = 26 then (.light 0 (.light 1 (.light 4 (.light 6 (.light 7 (.heavy 2 [7, 0] (.light 3 (.heavy 5 [7, 0] (.heavy 8 [0] (.light 9 (.light 10 (.heavy 11 [] (.light 12 (.light 13 (.light 14 (.heavy 15 [] .done)))))))))))))))) else .done, fun _ => false⟩
/-- ledgerline/ledgerlinelaw13.TxnAlone -/
def T12 : Tab := ⟨ty, fnOk, fun id => if id = 7 then (.light 0 (.light 1 (.light 9 (.heavy 2 [0] (.light 3 (.heavy 4 [] (.light 5 (.light 6 (.light 7 (.light 8 (.heavy 10 [] (.heavy 11 [] (.heavy 12 [] .done))))))))))))) else if id = 8 then (.light 0 (.light 1 (.light 9 (.heavy 2 [0] (.light 3 (.heavy 4 [] (.light 5 (.light 6 (.light 7 (.light 8 (.heavy 10 [] (.heavy 11 [] (.heavy 12 [] .done))))))))))))) else if id = 9 then (.light 0 (.light 1 (.heavy 2 [1] (.heavy 3 [] .done)))) else if id = 20 then (.light 0 (.light 1 (.heavy 2 [1] (.heavy 3 [] .done)))) else if id = 23 then (.light 0 (.light 1 (.light 2 (.light 3 (.light 9 (.heavy 4 [2, 1] (.light 5 (.heavy 6 [1] (.light 7 (.light 8 (.heavy 10 [] .done))))))))))) else if id = 26 then (.light 0 (.light 1 (.light 2 (.light 3 (.light 4 (.light 5 (.light 6 (.light 7 (.light 8 (.light 9 (.light 10 (.light 11 (.light 12 (.light 13 (.light 14 (.heavy 15 [3, 1] (.heavy 16 [] (.heavy 17 [] .done)))))))))))))))))) else .done, fun _ => false⟩
/-- ledgerline/ledgerlinelaw13.TxnPlays -/
def T13 : Tab := ⟨ty, fnOk, fun id => if id = 7 then (.light 0 (.light 1 (.light 3 (.light 4 (.heavy 2 [0] (.heavy 5 [] (.heavy 6 [] .done))))))) else if id = 8 then (.light 0 (.light 1 (.light 2 (.light 3 (.light 4 (.light 5 (.light 11 (.light 12 (.heavy 6 [] (.light 7 (.light 8 (.light 9 (.light 10 (.heavy 13 [] (.heavy 14 [] (.heavy 15 [] .done)))))))))))))))) else if id = 9 then (.light 0 (.light 1 (.light 2 (.light 3 (.light 5 (.heavy 4 [5] (.heavy 6 [] (.light 7 (.light 8 (.light 9 (.light 10 (.light 12 (.heavy 11 [12] (.heavy 13 [] (.light 14 (.light 15 .done)))))))))))))))) else if id = 11 then (.light 0 (.light 1 (.heavy 2 [1] (.heavy 3 [] .done)))) else .done, fun _ => false⟩
/-- ledgerline/ledgerlinelaw13.known -/
def T14 : Tab := ⟨ty, fnOk, fun _ => .done, fun _ => false⟩
/-- ledgerline/ledgerlinelaw13.within -/
def T15 : Tab := ⟨ty, fnOk, fun _ => .done, fun _ => false⟩
/-- ledgerline/ledgerlinelaw13.shape -/
def T16 : Tab := ⟨ty, fnOk, fun _ => .done, fun _ => false⟩
/-- ledgerline/txn.Create -/
def T17 : Tab := ⟨ty, fnOk, fun id => if id = 11 then (.light 0 (.light 2 (.light 3 (.light 4 (.light 5 (.heavy 1 [5] (.heavy 6 [5] (.heavy 7 [] .done)))))))) else if id = 12 then (.light 0 (.light 1 (.light 2 (.light 3 (.light 4 (.light 5 (.light 6 (.light 7 (.light 8 (.heavy 9 [5] (.heavy 10 [5] (.heavy 11 [] (.light 12 (.light 13 (.light 14 (.heavy 15 [] .done)))))))))))))))) else .done, fun _ => false⟩
/-- ledgerline/txn.Begin -/
def T18 : Tab := ⟨ty, fnOk, fun _ => .done, fun _ => false⟩
/-- ledgerline/ledgerlinelaw13.Start -/
def T19 : Tab := ⟨ty, fnOk, fun id => if id = 5 then (.light 0 (.light 1 (.heavy 2 [0] (.heavy 3 [] (.light 4 (.light 5 (.light 6 (.heavy 7 [] .done)))))))) else if id = 6 then (.light 0 (.light 1 (.heavy 2 [0] (.heavy 3 [] (.light 4 (.light 5 (.light 6 (.heavy 7 [] .done)))))))) else if id = 7 then (.light 0 (.light 1 (.heavy 2 [1] (.heavy 3 [] .done)))) else .done, fun _ => false⟩
/-- ledgerline/txn.Hold -/
def T20 : Tab := ⟨ty, fnOk, fun _ => .done, fun _ => false⟩
/-- ledgerline/ledgerlinelaw13.begun -/
def T21 : Tab := ⟨ty, fnOk, fun _ => .done, fun _ => false⟩
/-- ledgerline/ledgerlinelaw10.Fit -/
def T22 : Tab := ⟨ty, fnOk, fun _ => .done, fun _ => false⟩
/-- ledgerline/txn.Put -/
def T23 : Tab := ⟨ty, fnOk, fun _ => .done, fun s => [7].contains s⟩
/-- ledgerline/txn.Take -/
def T24 : Tab := ⟨ty, fnOk, fun _ => .done, fun s => [7].contains s⟩
/-- ledgerline/ledgerlineref13.Find -/
def T25 : Tab := ⟨ty, fnOk, fun _ => .done, fun _ => false⟩
/-- ledgerline/ledgerlinelaw13.ToRef -/
def T26 : Tab := ⟨ty, fnOk, fun id => if id = 5 then (.light 0 (.light 1 (.light 2 (.light 3 (.light 4 (.light 5 (.light 6 (.heavy 7 [1] (.heavy 8 [1] (.heavy 9 [] (.light 10 (.heavy 11 [] .done)))))))))))) else if id = 9 then (.light 0 (.light 1 (.light 2 (.light 3 (.light 4 (.light 5 (.light 6 (.light 7 (.light 8 (.light 9 (.light 10 (.light 11 (.light 12 (.light 13 (.heavy 14 [] .done))))))))))))))) else if id = 13 then (.light 0 (.light 1 (.light 2 (.light 3 (.light 4 (.light 5 (.light 6 (.light 7 (.light 8 (.light 9 (.light 10 (.light 11 (.light 12 (.light 13 (.light 14 (.light 15 (.light 16 (.light 17 (.light 18 (.light 19 (.light 20 (.light 21 (.light 22 (.heavy 23 [1] (.heavy 24 [] (.light 25 (.heavy 26 [] .done))))))))))))))))))))))))))) else .done, fun _ => false⟩
/-- ledgerline/txn.Save -/
def T27 : Tab := ⟨ty, fnOk, fun id => if id = 10 then (.light 0 (.light 1 (.light 2 (.light 3 (.light 4 (.light 5 (.light 6 (.light 7 (.light 8 (.light 9 (.light 10 (.light 11 (.heavy 12 [4] (.heavy 13 [] (.light 14 (.light 15 (.heavy 16 [] .done))))))))))))))))) else .done, fun _ => false⟩
/-- ledgerline/txn.Commit -/
def T28 : Tab := ⟨ty, fnOk, fun _ => .done, fun _ => false⟩
/-- ledgerline/ledgerlinelaw13.changes -/
def T29 : Tab := ⟨ty, fnOk, fun id => if id = 6 then (.light 0 (.light 1 (.light 2 (.light 3 (.light 4 (.light 5 (.light 6 (.light 7 (.heavy 8 [] (.light 9 .done)))))))))) else .done, fun _ => false⟩
/-- ledgerline/txn.Drop -/
def T30 : Tab := ⟨ty, fnOk, fun _ => .done, fun _ => false⟩
/-- ledgerline/txn.Rows -/
def T31 : Tab := ⟨ty, fnOk, fun id => if id = 6 then (.light 0 (.light 1 (.light 2 (.light 3 (.light 4 (.light 5 (.light 6 (.light 7 (.light 8 (.light 9 (.heavy 10 [9, 5] (.heavy 11 [] (.heavy 12 [] .done))))))))))))) else .done, fun _ => false⟩
/-- ledgerline/txn.Back -/
def T32 : Tab := ⟨ty, fnOk, fun id => if id = 11 then (.light 0 (.light 1 (.light 2 (.light 3 (.light 4 (.light 5 (.light 6 (.light 7 (.light 8 (.light 9 (.light 10 (.light 11 (.heavy 12 [] .done))))))))))))) else .done, fun _ => false⟩
/-- ledgerline/ledgerlinelaw13.rows -/
def T33 : Tab := ⟨ty, fnOk, fun id => if id = 6 then (.light 0 (.light 1 (.light 2 (.light 3 (.light 4 (.light 5 (.light 6 (.light 7 (.heavy 8 [] (.light 9 .done)))))))))) else .done, fun _ => false⟩
/-- ledgerline/txn.Rollback -/
def T34 : Tab := ⟨ty, fnOk, fun _ => .done, fun _ => false⟩
/-- ledgerline/txn.Same -/
def T35 : Tab := ⟨ty, fnOk, fun _ => .done, fun s => [5].contains s⟩
/-- ledgerline/ledgerlineref13.Begin -/
def T36 : Tab := ⟨ty, fnOk, fun _ => .done, fun _ => false⟩
/-- ledgerline/ledgerlineref13.Rows -/
def T37 : Tab := ⟨ty, fnOk, fun id => if id = 4 then (.light 0 (.light 1 (.light 2 (.light 3 (.light 4 (.light 8 (.light 9 (.heavy 5 [2, 0] (.light 6 (.light 7 (.heavy 10 [0] (.heavy 11 [] (.heavy 12 [] (.heavy 13 [] .done)))))))))))))) else .done, fun _ => false⟩
/-- (ledgerline/ledgerlinelaw13.Act).Do -/
def T38 : Tab := ⟨ty, fnOk, fun id => if id = 9 then (.light 0 (.light 2 (.light 3 (.heavy 1 [3] (.heavy 4 [] (.heavy 5 [] .done)))))) else if id = 25 then (.light 0 (.light 1 (.light 2 (.light 4 (.heavy 3 [0] (.heavy 5 [0] (.heavy 6 [] (.light 7 (.light 8 (.light 9 (.heavy 10 [] (.heavy 11 [] .done)))))))))))) else if id = 29 then (.light 0 (.light 1 (.light 2 (.light 3 (.light 4 (.light 5 (.heavy 6 [] (.light 7 (.light 8 (.light 9 (.heavy 10 [] (.heavy 11 [] .done)))))))))))) else if id = 30 then (.light 0 (.light 1 (.light 2 (.light 3 (.light 4 (.light 5 (.heavy 6 [] (.light 7 (.light 8 (.light 9 (.heavy 10 [] (.heavy 11 [] .done)))))))))))) else if id = 34 then (.light 0 (.light 1 (.light 2 (.light 3 (.light 4 (.light 5 (.heavy 6 [1, 0] (.heavy 7 [1] (.heavy 8 [] (.heavy 9 [] (.heavy 10 [] (.heavy 11 [] .done)))))))))))) else if id = 44 then (.light 0 (.light 1 (.light 2 (.light 3 (.light 4 (.light 5 (.heavy 6 [1, 0] (.heavy 7 [1] (.heavy 8 [] (.heavy 9 [] (.heavy 10 [] (.heavy 11 [] .done)))))))))))) else if id = 56 then (.light 0 (.light 1 (.light 2 (.light 3 (.light 4 (.light 5 (.light 6 (.light 7 (.heavy 8 [1] (.heavy 9 [] (.heavy 10 [] .done))))))))))) else .done, fun _ => false⟩
/-- ledgerline/ledgerlineref13.Who -/
def T39 : Tab := ⟨ty, fnOk, fun _ => .done, fun _ => false⟩
/-- ledgerline/table.Same -/
def T40 : Tab := ⟨ty, fnOk, fun _ => .done, fun _ => false⟩
/-- ledgerline/ledgerlinelaw10.Of -/
def T41 : Tab := ⟨ty, fnOk, fun _ => .done, fun _ => false⟩
/-- ledgerline/ledgerlineref13.Same -/
def T42 : Tab := ⟨ty, fnOk, fun id => if id = 6 then (.light 0 (.light 1 (.light 2 (.light 3 (.light 4 (.light 5 (.light 6 (.light 7 (.light 8 (.light 9 (.heavy 10 [] (.light 11 .done)))))))))))) else if id = 11 then (.light 0 (.light 1 (.light 2 (.light 3 (.light 4 (.light 5 (.light 6 (.light 7 (.light 8 (.light 9 (.heavy 10 [] (.light 11 .done)))))))))))) else .done, fun _ => false⟩
/-- ledgerline/txn.begun -/
def T43 : Tab := ⟨ty, fnOk, fun _ => .done, fun s => [6].contains s⟩
/-- (*ledgerline/txn.call).fail -/
def T44 : Tab := ⟨ty, fnOk, fun _ => .done, fun s => [2, 3].contains s⟩
/-- ledgerline/schema.Check -/
def T45 : Tab := ⟨ty, fnOk, fun _ => .done, fun s => [3].contains s⟩
/-- (*ledgerline/txn.call).table -/
def T46 : Tab := ⟨ty, fnOk, fun _ => .done, fun _ => false⟩
/-- ledgerline/txn.own -/
def T47 : Tab := ⟨ty, fnOk, fun id => if id = 1 then (.light 0 (.light 1 (.light 3 (.light 4 (.light 6 (.light 7 (.light 8 (.light 10 (.light 11 (.light 12 (.heavy 2 [12, 8, 4] (.heavy 5 [12, 8] (.heavy 9 [12] (.heavy 13 [] (.light 14 (.light 15 (.heavy 16 [] .done))))))))))))))))) else .done, fun _ => false⟩
/-- slices.Insert[[]ledgerline/table.Table,ledgerline/table.Table] -/
def T48 : Tab := ⟨ty, fnOk, fun id => if id = 11 then (.light 0 (.light 1 (.light 2 (.light 3 (.light 4 (.light 5 (.light 6 (.light 7 (.heavy 8 [] .done))))))))) else if id = 15 then (.light 0 (.light 1 (.light 2 (.light 3 (.light 4 (.light 5 (.light 6 (.light 7 (.heavy 8 [] .done))))))))) else .done, fun _ => false⟩
/-- ledgerline/txn.ownTable -/
def T49 : Tab := ⟨ty, fnOk, fun _ => .done, fun _ => false⟩
/-- (*ledgerline/txn.call).work -/
def T50 : Tab := ⟨ty, fnOk, fun _ => .done, fun _ => false⟩
/-- slices.Insert[[]ledgerline/txn.Work,ledgerline/txn.Work] -/
def T51 : Tab := ⟨ty, fnOk, fun id => if id = 11 then (.light 0 (.light 1 (.light 2 (.light 3 (.light 4 (.light 5 (.light 6 (.light 7 (.heavy 8 [] .done))))))))) else if id = 15 then (.light 0 (.light 1 (.light 2 (.light 3 (.light 4 (.light 5 (.light 6 (.light 7 (.heavy 8 [] .done))))))))) else .done, fun _ => false⟩
/-- ledgerline/ledgerlineref13.Create -/
def T52 : Tab := ⟨ty, fnOk, fun id => if id = 11 then (.light 0 (.light 1 (.light 2 (.light 3 (.light 4 (.light 5 (.light 6 (.light 7 (.light 8 (.light 9 (.light 10 (.light 11 (.light 12 (.light 13 (.light 14 (.heavy 15 [] (.light 16 .done))))))))))))))))) else .done, fun _ => false⟩
/-- (*ledgerline/txn.call).hold -/
def T53 : Tab := ⟨ty, fnOk, fun id => if id = 9 then (.light 0 (.light 1 (.light 2 (.light 3 (.light 4 (.light 5 (.heavy 6 [] (.light 7 (.light 8 (.light 9 (.heavy 10 [] (.heavy 11 [] .done)))))))))))) else .done, fun s => [4, 5, 6, 7].contains s⟩
/-- ledgerline/ledgerlinelaw10.within -/
def T54 : Tab := ⟨ty, fnOk, fun _ => .done, fun _ => false⟩
/-- ledgerline/txn.Put$1 -/
def T55 : Tab := ⟨ty, fnOk, fun id => if id = 2 then (.light 0 (.light 1 (.light 4 (.heavy 2 [0] (.light 3 (.heavy 5 [] (.heavy 6 [] (.heavy 7 [] .done)))))))) else .done, fun _ => false⟩
/-- ledgerline/table.Put -/
def T56 : Tab := ⟨ty, fnOk, fun id => if id = 5 then (.light 0 (.light 1 (.light 2 (.heavy 3 [0] (.heavy 4 [] (.light 5 (.light 6 (.light 7 (.heavy 8 [] (.heavy 9 [] .done)))))))))) else if id = 10 then (.light 0 (.light 1 (.light 2 (.light 3 (.light 4 (.light 5 (.light 6 (.light 8 (.light 9 (.light 10 (.light 11 (.heavy 7 [9, 2, 0] (.heavy 12 [0] (.heavy 13 [] (.heavy 14 [] (.heavy 15 [] .done)))))))))))))))) else .done, fun _ => false⟩
/-- ledgerline/txn.ownRow -/
def T57 : Tab := ⟨ty, fnOk, fun _ => .done, fun _ => false⟩
/-- ledgerline/txn.change -/
def T58 : Tab := ⟨ty, fnOk, fun id => if id = 13 then (.light 0 (.light 1 (.light 2 (.light 3 (.light 4 (.light 5 (.light 6 (.light 7 (.heavy 8 [] .done))))))))) else if id = 14 then (.light 0 (.light 1 (.light 2 (.light 3 (.light 4 (.light 5 (.heavy 6 [4] (.heavy 7 [] (.light 8 (.light 9 (.heavy 10 [] .done))))))))))) else .done, fun _ => false⟩
/-- ledgerline/txn.Take$1 -/
def T59 : Tab := ⟨ty, fnOk, fun _ => .done, fun _ => false⟩
/-- ledgerline/table.Take -/
def T60 : Tab := ⟨ty, fnOk, fun id => if id = 5 then (.light 0 (.light 1 (.light 2 (.light 3 (.light 4 (.light 5 (.light 6 (.light 7 (.light 8 (.light 9 (.light 10 (.light 13 (.light 14 (.light 15 (.light 16 (.light 17 (.heavy 11 [17, 14, 0] (.heavy 12 [17, 14] (.heavy 18 [] (.heavy 19 [] (.heavy 20 [] (.heavy 21 [] .done)))))))))))))))))))))) else .done, fun _ => false⟩
/-- ledgerline/ledgerlinelaw12.ToRef -/
def T61 : Tab := ⟨ty, fnOk, fun id => if id = 5 then (.light 0 (.light 1 (.light 2 (.light 3 (.light 4 (.light 5 (.light 6 (.light 7 (.light 8 (.light 9 (.light 10 (.light 11 (.light 12 (.light 13 (.light 14 (.light 15 (.light 16 (.light 17 (.light 18 (.light 19 (.light 20 (.heavy 21 [1] (.heavy 22 [] (.light 23 (.heavy 24 [] .done))))))))))))))))))))))))) else if id = 9 then (.light 0 (.light 1 (.light 2 (.light 3 (.light 4 (.light 5 (.light 6 (.light 7 (.light 8 (.light 9 (.light 10 (.light 11 (.light 12 (.light 13 (.light 14 (.light 15 (.light 16 (.light 17 (.light 18 (.light 19 (.light 20 (.heavy 21 [1] (.heavy 22 [] (.light 23 (.heavy 24 [] .done))))))))))))))))))))))))) else .done, fun _ => false⟩
/-- ledgerline/ledgerlinelaw10.ToRef -/
def T62 : Tab := ⟨ty, fnOk, fun _ => .done, fun _ => false⟩
/-- ledgerline/txn.each[ledgerline/api.Change] -/
def T63 : Tab := ⟨ty, fnOk, fun _ => .done, fun _ => false⟩
/-- ledgerline/txn.ownChange -/
def T64 : Tab := ⟨ty, fnOk, fun _ => .done, fun _ => false⟩
/-- (*ledgerline/txn.call).end -/
def T65 : Tab := ⟨ty, fnOk, fun _ => .done, fun _ => false⟩
/-- ledgerline/ledgerlineref13.SameChange -/
def T66 : Tab := ⟨ty, fnOk, fun id => if id = 6 then (.light 0 (.light 1 (.light 2 (.light 3 (.light 4 (.light 5 (.light 6 (.light 7 (.light 8 (.light 9 (.light 10 .done))))))))))) else .done, fun _ => false⟩
/-- slices.Delete[[]ledgerline/table.Table,ledgerline/table.Table] -/
def T67 : Tab := ⟨ty, fnOk, fun id => if id = 5 then (.light 0 (.light 1 (.light 2 (.light 3 (.light 4 (.light 5 (.heavy 6 [] (.heavy 7 [] .done)))))))) else .done, fun _ => false⟩
/-- (*ledgerline/txn.call).undo -/
def T68 : Tab := ⟨ty, fnOk, fun id => if id = 2 then (.light 0 (.light 1 (.light 2 (.light 3 (.light 4 (.light 5 (.light 6 (.light 7 (.light 8 (.light 9 (.light 10 (.light 11 (.light 12 (.heavy 13 [] .done)))))))))))))) else if id = 8 then (.light 0 (.light 1 (.light 2 (.light 3 (.light 4 (.light 5 (.heavy 6 [] (.light 7 (.light 8 (.light 9 (.light 10 (.heavy 11 [] .done)))))))))))) else if id = 9 then (.light 0 (.light 1 (.light 2 (.light 3 (.light 4 (.light 5 (.light 6 (.light 7 (.light 8 (.light 9 (.light 10 (.light 11 (.light 12 (.light 13 (.light 14 (.light 15 (.light 16 .done))))))))))))))))) else if id = 10 then (.light 0 (.light 1 (.light 2 (.light 3 (.light 4 (.light 5 (.light 6 (.light 7 (.light 8 (.light 9 (.light 10 (.light 11 (.light 12 (.heavy 13 [] (.light 14 (.light 15 (.light 16 (.light 17 (.light 18 (.heavy 19 [] .done)))))))))))))))))))) else if id = 11 then (.light 0 (.light 1 (.light 2 (.light 3 (.light 4 (.light 5 (.light 6 (.light 7 (.light 8 (.light 9 (.light 10 (.light 11 (.light 12 (.light 13 (.light 14 (.light 15 (.heavy 16 [] .done))))))))))))))))) else .done, fun _ => false⟩
/-- ledgerline/ledgerlineref5.Same -/
def T69 : Tab := ⟨ty, fnOk, fun id => if id = 6 then (.light 0 (.light 1 (.light 2 (.light 3 (.light 4 (.light 5 (.light 6 (.light 7 (.light 8 .done))))))))) else .done, fun _ => false⟩
/-- (*ledgerline/txn.call).back -/
def T70 : Tab := ⟨ty, fnOk, fun _ => .done, fun _ => false⟩
/-- ledgerline/txn.Same$1 -/
def T71 : Tab := ⟨ty, fnOk, fun _ => .done, fun _ => false⟩
/-- slices.Equal[[]ledgerline/api.Value,ledgerline/api.Value] -/
def T72 : Tab := ⟨ty, fnOk, fun id => if id = 6 then (.light 0 (.light 1 (.light 2 (.light 3 (.light 4 (.light 5 (.light 6 (.light 7 (.light 8 .done))))))))) else .done, fun _ => false⟩
/-- ledgerline/txn.Same$2 -/
def T73 : Tab := ⟨ty, fnOk, fun _ => .done, fun _ => false⟩
/-- slices.EqualFunc[[]ledgerline/api.Change,[]ledgerline/api.Change,ledgerline/api.Change,ledgerline/api.Change] -/
def T74 : Tab := ⟨ty, fnOk, fun _ => .done, fun _ => false⟩
/-- slices.Equal[[]ledgerline/txn.Mark,ledgerline/txn.Mark] -/
def T75 : Tab := ⟨ty, fnOk, fun id => if id = 6 then (.light 0 (.light 1 (.light 2 (.light 3 (.light 4 (.light 5 (.light 6 (.light 7 (.light 8 .done))))))))) else .done, fun _ => false⟩
/-- slices.EqualFunc[[]ledgerline/table.Table,[]ledgerline/table.Table,ledgerline/table.Table,ledgerline/table.Table] -/
def T76 : Tab := ⟨ty, fnOk, fun _ => .done, fun _ => false⟩
/-- slices.EqualFunc[[]ledgerline/txn.Work,[]ledgerline/txn.Work,ledgerline/txn.Work,ledgerline/txn.Work] -/
def T77 : Tab := ⟨ty, fnOk, fun _ => .done, fun _ => false⟩
/-- ledgerline/lock.Same -/
def T78 : Tab := ⟨ty, fnOk, fun _ => .done, fun _ => false⟩
/-- ledgerline/ledgerlineref13.Hold -/
def T79 : Tab := ⟨ty, fnOk, fun _ => .done, fun _ => false⟩
/-- ledgerline/ledgerlineref10.Range -/
def T80 : Tab := ⟨ty, fnOk, fun id => if id = 5 then (.light 0 (.light 1 (.light 2 (.light 3 (.light 4 (.light 5 (.light 6 (.light 7 (.light 8 (.light 9 (.light 10 (.heavy 11 [] .done)))))))))))) else .done, fun _ => false⟩
/-- ledgerline/ledgerlineref13.Put -/
def T81 : Tab := ⟨ty, fnOk, fun id => if id = 4 then (.light 0 (.light 1 (.light 2 (.light 3 (.heavy 4 [1] (.light 5 (.light 6 (.light 7 (.light 8 (.light 9 .done)))))))))) else .done, fun _ => false⟩
/-- ledgerline/ledgerlineref13.Take -/
def T82 : Tab := ⟨ty, fnOk, fun id => if id = 7 then (.light 0 (.light 1 (.light 2 (.light 3 (.heavy 4 [1] (.light 5 (.light 6 (.light 7 (.light 8 (.light 9 .done)))))))))) else if id = 9 then (.light 0 (.light 1 (.light 2 (.light 3 (.light 4 (.light 5 (.light 11 (.heavy 6 [] (.light 7 (.light 8 (.light 9 (.light 10 (.heavy 12 [] (.heavy 13 [] (.heavy 14 [] .done))))))))))))))) else .done, fun _ => false⟩
/-- ledgerline/ledgerlineref13.Save -/
def T83 : Tab := ⟨ty, fnOk, fun id => if id = 9 then (.light 1 (.light 2 (.light 4 (.light 5 (.light 6 (.light 7 (.light 8 (.fork (.heavy 0 [6, 2] (.fork (.heavy 3 [6] (.heavy 9 [] (.heavy 10 [] (.light 11 (.heavy 12 [] .done))))) (.heavy 9 [2] (.heavy 3 [] (.heavy 10 [] (.light 11 (.heavy 12 [] .done))))))) (.heavy 9 [2] (.heavy 0 [2] (.heavy 3 [] (.heavy 10 [] (.light 11 (.heavy 12 [] .done)))))))))))))) else .done, fun _ => false⟩
/-- ledgerline/ledgerlineref13.Back -/
def T84 : Tab := ⟨ty, fnOk, fun id => if id = 9 then (.light 0 (.light 1 (.light 2 (.light 3 (.light 4 (.light 5 (.light 6 (.light 7 (.light 8 (.light 9 (.light 10 (.light 11 (.heavy 12 [] (.heavy 13 [] .done)))))))))))))) else .done, fun _ => false⟩
/-- ledgerline/ledgerlineref13.Commit -/
def T85 : Tab := ⟨ty, fnOk, fun _ => .done, fun _ => false⟩
/-- ledgerline/ledgerlineref13.Rollback -/
def T86 : Tab := ⟨ty, fnOk, fun _ => .done, fun _ => false⟩
/-- ledgerline/ledgerlineref13.Drop -/
def T87 : Tab := ⟨ty, fnOk, fun _ => .done, fun _ => false⟩
/-- ledgerline/schema.Same -/
def T88 : Tab := ⟨ty, fnOk, fun _ => .done, fun _ => false⟩
/-- slices.EqualFunc[[][]ledgerline/api.Value,[][]ledgerline/api.Value,[]ledgerline/api.Value,[]ledgerline/api.Value] -/
def T89 : Tab := ⟨ty, fnOk, fun _ => .done, fun _ => false⟩
/-- ledgerline/row.Same -/
def T90 : Tab := ⟨ty, fnOk, fun _ => .done, fun _ => false⟩
/-- ledgerline/ledgerlineref12.Same -/
def T91 : Tab := ⟨ty, fnOk, fun id => if id = 6 then (.light 0 (.light 1 (.light 2 (.light 3 (.light 4 (.light 5 (.light 6 (.light 7 (.light 8 (.light 9 (.light 10 .done))))))))))) else if id = 11 then (.light 0 (.light 1 (.light 2 (.light 3 (.light 4 (.light 5 (.light 6 (.light 7 (.light 8 (.light 9 (.light 10 .done))))))))))) else .done, fun _ => false⟩
/-- ledgerline/ledgerlineref10.Same -/
def T92 : Tab := ⟨ty, fnOk, fun id => if id = 6 then (.light 0 (.light 1 (.light 2 (.light 3 (.light 4 (.light 5 (.light 6 (.light 7 (.light 8 (.light 9 (.heavy 10 [] (.light 11 .done)))))))))))) else .done, fun _ => false⟩
/-- ledgerline/ledgerlineref13.sameWork -/
def T93 : Tab := ⟨ty, fnOk, fun id => if id = 6 then (.light 0 (.light 1 (.light 2 (.light 3 (.light 4 (.light 5 (.light 6 (.light 7 (.light 8 (.light 9 (.heavy 10 [] (.light 11 .done)))))))))))) else if id = 11 then (.light 0 (.light 1 (.light 2 (.light 3 (.light 4 (.light 5 (.light 6 (.light 7 (.light 8 (.light 9 (.light 10 .done))))))))))) else .done, fun _ => false⟩
/-- (*sync.Once).Do -/
def T94 : Tab := ⟨ty, fnOk, fun _ => .done, fun _ => false⟩
/-- (*ledgerline/txn.call).fail$1 -/
def T95 : Tab := ⟨ty, fnOk, fun _ => .done, fun _ => false⟩
/-- (*ledgerline/schema.speller).name -/
def T96 : Tab := ⟨ty, fnOk, fun _ => .done, fun _ => false⟩
/-- ledgerline/schema.Find -/
def T97 : Tab := ⟨ty, fnOk, fun _ => .done, fun s => [3].contains s⟩
/-- slices.BinarySearchFunc[[]ledgerline/table.Table,ledgerline/table.Table,string] -/
def T98 : Tab := ⟨ty, fnOk, fun _ => .done, fun _ => false⟩
/-- (*ledgerline/txn.call).table$1 -/
def T99 : Tab := ⟨ty, fnOk, fun _ => .done, fun _ => false⟩
/-- strings.Compare -/
def T100 : Tab := ⟨ty, fnOk, fun _ => .done, fun _ => false⟩
/-- ledgerline/txn.each[ledgerline/table.Table] -/
def T101 : Tab := ⟨ty, fnOk, fun _ => .done, fun _ => false⟩
/-- ledgerline/txn.each[ledgerline/txn.Work] -/
def T102 : Tab := ⟨ty, fnOk, fun _ => .done, fun _ => false⟩
/-- ledgerline/txn.ownWork -/
def T103 : Tab := ⟨ty, fnOk, fun id => if id = 1 then (.light 0 (.light 1 (.light 3 (.light 4 (.heavy 2 [4] (.light 6 (.heavy 5 [] (.heavy 7 [] (.light 8 (.heavy 9 [] .done)))))))))) else .done, fun _ => false⟩
/-- slices.Clone[[]ledgerline/lock.Hold,ledgerline/lock.Hold] -/
def T104 : Tab := ⟨ty, fnOk, fun _ => .done, fun _ => false⟩
/-- slices.rotateRight[ledgerline/table.Table] -/
def T106 : Tab := ⟨ty, fnOk, fun _ => .done, fun _ => false⟩
/-- slices.Clone[[]ledgerline/api.Col,ledgerline/api.Col] -/
def T107 : Tab := ⟨ty, fnOk, fun _ => .done, fun _ => false⟩
/-- ledgerline/txn.each[[]ledgerline/api.Value] -/
def T108 : Tab := ⟨ty, fnOk, fun _ => .done, fun _ => false⟩
/-- slices.BinarySearchFunc[[]ledgerline/txn.Work,ledgerline/txn.Work,int] -/
def T109 : Tab := ⟨ty, fnOk, fun _ => .done, fun _ => false⟩
/-- (*ledgerline/txn.call).work$1 -/
def T110 : Tab := ⟨ty, fnOk, fun _ => .done, fun _ => false⟩
/-- slices.rotateRight[ledgerline/txn.Work] -/
def T112 : Tab := ⟨ty, fnOk, fun _ => .done, fun _ => false⟩
/-- ledgerline/ledgerlineref9.Check -/
def T113 : Tab := ⟨ty, fnOk, fun id => if id = 8 then (.light 0 (.light 1 (.light 2 (.light 3 (.light 4 (.light 5 (.light 6 (.heavy 7 [] (.light 8 (.light 9 (.light 10 (.heavy 11 [] (.heavy 12 [] .done))))))))))))) else .done, fun _ => false⟩
/-- ledgerline/ledgerlineref13.below -/
def T114 : Tab := ⟨ty, fnOk, fun id => if id = 4 then (.light 0 (.light 1 (.light 2 (.light 3 (.light 4 (.light 5 (.light 6 .done))))))) else if id = 5 then (.light 0 (.light 1 (.light 2 (.light 3 (.light 4 (.light 5 (.light 6 (.heavy 7 [] .done)))))))) else .done, fun _ => false⟩
/-- (*ledgerline/txn.call).hold$1 -/
def T115 : Tab := ⟨ty, fnOk, fun id => if id = 1 then (.light 0 (.light 1 (.light 2 (.light 3 (.light 4 (.light 5 (.light 6 (.light 7 (.light 8 (.light 9 (.heavy 10 [0] (.light 11 (.light 12 (.light 13 (.light 14 (.light 15 (.light 16 (.heavy 17 [] (.heavy 18 [] .done))))))))))))))))))) else .done, fun _ => false⟩
/-- ledgerline/lock.Ask -/
def T116 : Tab := ⟨ty, fnOk, fun id => if id = 2 then (.light 0 (.light 1 (.light 2 (.light 3 (.light 4 (.light 5 (.light 6 (.light 7 (.light 8 (.light 9 (.light 10 (.light 11 (.light 12 (.light 13 (.light 14 (.light 15 (.light 16 (.light 17 (.light 18 (.heavy 19 [] .done)))))))))))))))))))) else if id = 4 then (.light 0 (.light 1 (.light 3 (.light 4 (.light 5 (.light 6 (.light 9 (.heavy 2 [6, 4] (.heavy 7 [] (.light 8 (.heavy 10 [] .done))))))))))) else .done, fun _ => false⟩
/-- ledgerline/lock.Victim -/
def T117 : Tab := ⟨ty, fnOk, fun _ => .done, fun _ => false⟩
/-- ledgerline/row.Fits -/
def T118 : Tab := ⟨ty, fnOk, fun _ => .done, fun _ => false⟩
/-- (ledgerline/table.keyed).with -/
def T119 : Tab := ⟨ty, fnOk, fun id => if id = 3 then (.light 0 (.light 1 (.heavy 2 [0] (.heavy 3 [0] (.light 4 (.heavy 5 [] .done)))))) else .done, fun _ => false⟩
/-- (ledgerline/table.keyed).find -/
def T120 : Tab := ⟨ty, fnOk, fun _ => .done, fun s => [2].contains s⟩
/-- (ledgerline/table.keyed).key -/
def T121 : Tab := ⟨ty, fnOk, fun _ => .done, fun _ => false⟩
/-- slices.Clone[[]ledgerline/api.Value,ledgerline/api.Value] -/
def T122 : Tab := ⟨ty, fnOk, fun _ => .done, fun _ => false⟩
/-- slices.Delete[[]ledgerline/txn.Work,ledgerline/txn.Work] -/
def T123 : Tab := ⟨ty, fnOk, fun id => if id = 5 then (.light 0 (.light 1 (.light 2 (.light 3 (.light 4 (.light 5 (.heavy 6 [] (.heavy 7 [] .done)))))))) else .done, fun _ => false⟩
/-- ledgerline/lock.Free -/
def T124 : Tab := ⟨ty, fnOk, fun id => if id = 1 then (.light 0 (.light 1 (.light 2 (.light 4 (.light 5 (.light 6 (.heavy 3 [5] (.heavy 7 [] (.light 8 (.heavy 9 [] .done)))))))))) else .done, fun _ => false⟩
/-- slices.Backward[[]ledgerline/api.Change,ledgerline/api.Change] -/
def T125 : Tab := ⟨ty, fnOk, fun _ => .done, fun s => [1].contains s⟩
/-- slices.Equal[[]ledgerline/lock.Hold,ledgerline/lock.Hold] -/
def T126 : Tab := ⟨ty, fnOk, fun id => if id = 6 then (.light 0 (.light 1 (.light 2 (.light 3 (.light 4 (.light 5 (.light 6 (.light 7 (.light 8 .done))))))))) else .done, fun _ => false⟩
/-- ledgerline/ledgerlineref12.Ask -/
def T127 : Tab := ⟨ty, fnOk, fun id => if id = 6 then (.light 0 (.light 1 (.light 2 (.light 3 (.light 4 (.light 5 (.light 6 (.light 7 (.light 8 (.light 9 (.light 10 (.light 11 (.light 12 (.light 13 (.light 14 (.light 15 (.light 16 (.light 17 (.light 18 (.light 19 .done)))))))))))))))))))) else if id = 8 then (.light 0 (.light 1 (.light 2 (.light 3 (.light 4 (.light 5 (.light 6 (.light 7 (.heavy 8 [] (.light 9 (.light 10 (.heavy 11 [] .done)))))))))))) else if id = 13 then (.light 0 (.light 1 (.light 2 (.light 3 (.light 5 (.fork (.heavy 4 [5] (.heavy 6 [] (.heavy 7 [] (.light 8 (.heavy 9 [] .done))))) (.heavy 6 [3, 1] (.heavy 4 [] (.heavy 7 [] (.light 8 (.heavy 9 [] .done))))))))))) else .done, fun _ => false⟩
/-- ledgerline/ledgerlineref12.Victim -/
def T128 : Tab := ⟨ty, fnOk, fun id => if id = 8 then (.light 0 (.light 1 (.light 2 (.light 3 (.light 4 (.light 5 (.light 6 (.light 7 (.light 8 (.light 9 (.light 10 (.light 11 (.light 13 (.heavy 12 [] (.heavy 14 [] (.light 15 .done)))))))))))))))) else .done, fun _ => false⟩
/-- ledgerline/ledgerlineref4.Compare -/
def T129 : Tab := ⟨ty, fnOk, fun id => if id = 8 then (.light 0 (.light 1 (.light 2 (.light 3 (.light 4 (.light 5 (.light 6 (.light 7 (.light 8 .done))))))))) else if id = 9 then (.light 0 (.light 1 (.light 2 (.light 3 (.light 4 (.light 5 (.light 6 (.light 7 (.light 8 (.light 9 (.heavy 10 [] (.heavy 11 [] .done)))))))))))) else .done, fun _ => false⟩
/-- ledgerline/ledgerlineref10.Put -/
def T130 : Tab := ⟨ty, fnOk, fun id => if id = 4 then (.light 0 (.light 1 (.light 2 (.light 3 (.light 4 (.light 5 (.light 6 (.heavy 7 [] (.light 8 (.light 9 (.light 10 (.heavy 11 [] (.heavy 12 [] .done))))))))))))) else if id = 9 then (.light 0 (.light 1 (.light 2 (.light 3 (.light 4 (.light 5 (.light 6 (.heavy 7 [] (.heavy 8 [] .done))))))))) else .done, fun _ => false⟩
/-- ledgerline/ledgerlineref13.note -/
def T131 : Tab := ⟨ty, fnOk, fun id => if id = 4 then (.light 1 (.light 2 (.light 4 (.fork (.heavy 0 [4, 2] (.fork (.heavy 3 [4] (.heavy 5 [] (.heavy 6 [] (.light 7 (.heavy 8 [] .done))))) (.heavy 5 [2] (.heavy 3 [] (.heavy 6 [] (.light 7 (.heavy 8 [] .done))))))) (.heavy 5 [2] (.heavy 0 [2] (.heavy 3 [] (.heavy 6 [] (.light 7 (.heavy 8 [] .done)))))))))) else .done, fun _ => false⟩
/-- ledgerline/ledgerlineref13.set -/
def T132 : Tab := ⟨ty, fnOk, fun _ => .done, fun _ => false⟩
/-- ledgerline/ledgerlineref10.Take -/
def T133 : Tab := ⟨ty, fnOk, fun _ => .done, fun _ => false⟩
/-- ledgerline/ledgerlineref9.Name -/
def T134 : Tab := ⟨ty, fnOk, fun _ => .done, fun _ => false⟩
/-- ledgerline/ledgerlineref13.put -/
def T135 : Tab := ⟨ty, fnOk, fun _ => .done, fun _ => false⟩
/-- ledgerline/ledgerlineref13.undo -/
def T136 : Tab := ⟨ty, fnOk, fun id => if id = 8 then (.light 0 (.light 1 (.light 2 (.light 3 (.light 4 (.light 5 (.light 6 (.light 7 (.heavy 8 [] (.light 9 (.light 10 (.light 11 (.light 12 (.heavy 13 [] .done)))))))))))))) else .done, fun _ => false⟩
/-- ledgerline/ledgerlineref13.end -/
def T137 : Tab := ⟨ty, fnOk, fun _ => .done, fun _ => false⟩
/-- slices.Equal[[]ledgerline/api.Col,ledgerline/api.Col] -/
def T138 : Tab := ⟨ty, fnOk, fun id => if id = 6 then (.light 0 (.light 1 (.light 2 (.light 3 (.light 4 (.light 5 (.light 6 (.light 7 (.light 8 .done))))))))) else .done, fun _ => false⟩
/-- ledgerline/ledgerlineref9.Same -/
def T139 : Tab := ⟨ty, fnOk, fun id => if id = 6 then (.light 0 (.light 1 (.light 2 (.light 3 (.light 4 (.light 5 (.light 6 (.light 7 (.light 8 (.light 9 (.light 10 .done))))))))))) else .done, fun _ => false⟩
/-- (*sync/atomic.Bool).Load -/
def T140 : Tab := ⟨ty, fnOk, fun _ => .done, fun _ => false⟩
/-- (*sync.Once).doSlow -/
def T141 : Tab := ⟨ty, fnOk, fun _ => .done, fun _ => false⟩
/-- (*ledgerline/schema.speller).read -/
def T142 : Tab := ⟨ty, fnOk, fun _ => .done, fun _ => false⟩
/-- slices.IndexFunc[[]ledgerline/api.Col,ledgerline/api.Col] -/
def T143 : Tab := ⟨ty, fnOk, fun _ => .done, fun _ => false⟩
/-- ledgerline/schema.Find$1 -/
def T144 : Tab := ⟨ty, fnOk, fun _ => .done, fun _ => false⟩
/-- internal/bytealg.CompareString -/
def T145 : Tab := ⟨ty, fnOk, fun _ => .done, fun _ => false⟩
/-- slices.Clone[[]ledgerline/txn.Mark,ledgerline/txn.Mark] -/
def T146 : Tab := ⟨ty, fnOk, fun _ => .done, fun _ => false⟩
/-- slices.rotateLeft[ledgerline/table.Table] -/
def T147 : Tab := ⟨ty, fnOk, fun _ => .done, fun _ => false⟩
/-- slices.rotateLeft[ledgerline/txn.Work] -/
def T148 : Tab := ⟨ty, fnOk, fun _ => .done, fun _ => false⟩
/-- ledgerline/ledgerlineref9.Find -/
def T149 : Tab := ⟨ty, fnOk, fun _ => .done, fun _ => false⟩
/-- (ledgerline/lock.Locks).mine -/
def T150 : Tab := ⟨ty, fnOk, fun _ => .done, fun s => [3].contains s⟩
/-- slices.ContainsFunc[[]ledgerline/lock.Hold,ledgerline/lock.Hold] -/
def T151 : Tab := ⟨ty, fnOk, fun _ => .done, fun _ => false⟩
/-- (ledgerline/lock.Hold).against -/
def T152 : Tab := ⟨ty, fnOk, fun _ => .done, fun _ => false⟩
/-- ledgerline/lock.without -/
def T153 : Tab := ⟨ty, fnOk, fun _ => .done, fun _ => false⟩
/-- slices.Concat[[]ledgerline/lock.Hold,ledgerline/lock.Hold] -/
def T154 : Tab := ⟨ty, fnOk, fun _ => .done, fun _ => false⟩
/-- ledgerline/lock.ringsOf -/
def T155 : Tab := ⟨ty, fnOk, fun id => if id = 9 then (.light 0 (.light 1 (.light 2 (.light 3 (.light 4 (.light 5 (.light 6 (.light 7 (.light 8 (.light 9 (.light 10 (.light 11 (.light 13 (.light 14 (.fork (.heavy 12 [14, 5, 3] (.heavy 15 [5, 3] (.heavy 16 [5, 3] (.heavy 17 [] .done)))) (.heavy 15 [11, 9, 5, 3] (.heavy 12 [5, 3] (.heavy 16 [5, 3] (.heavy 17 [] .done))))))))))))))))))) else .done, fun s => [10].contains s⟩
/-- (*ledgerline/lock.rings).over -/
def T156 : Tab := ⟨ty, fnOk, fun id => if id = 6 then (.light 0 (.light 1 (.light 2 (.light 3 (.light 4 (.light 5 (.light 6 (.light 9 (.heavy 7 [] (.light 8 .done)))))))))) else .done, fun _ => false⟩
/-- ledgerline/value.Check -/
def T157 : Tab := ⟨ty, fnOk, fun id => if id = 3 then (.light 0 (.light 1 (.heavy 2 [0] (.light 3 (.light 4 (.light 5 (.light 6 (.light 7 (.light 8 (.light 9 (.light 10 (.light 11 (.light 12 (.light 13 (.light 14 (.light 15 (.light 16 (.light 17 (.light 18 (.heavy 19 [] .done)))))))))))))))))))) else .done, fun _ => false⟩
/-- ledgerline/table.own -/
def T158 : Tab := ⟨ty, fnOk, fun _ => .done, fun _ => false⟩
/-- slices.Concat[[][]ledgerline/api.Value,[]ledgerline/api.Value] -/
def T159 : Tab := ⟨ty, fnOk, fun _ => .done, fun _ => false⟩
/-- slices.BinarySearchFunc[[][]ledgerline/api.Value,[]ledgerline/api.Value,ledgerline/api.Value] -/
def T160 : Tab := ⟨ty, fnOk, fun id => if id = 5 then (.light 0 (.light 1 (.light 2 (.light 3 (.light 4 (.light 5 (.heavy 6 [] (.light 7 .done)))))))) else if id = 8 then (.light 0 (.light 1 (.light 2 (.light 3 (.light 4 (.light 5 (.light 6 (.light 7 (.light 8 (.light 9 (.light 10 (.heavy 11 [] (.light 12 (.light 13 (.heavy 14 [] (.heavy 15 [] .done)))))))))))))))) else .done, fun _ => false⟩
/-- (ledgerline/table.keyed).find$1 -/
def T161 : Tab := ⟨ty, fnOk, fun id => if id = 1 then (.light 0 (.light 1 (.light 3 (.heavy 2 [3] (.heavy 4 [] (.heavy 5 [] .done)))))) else .done, fun _ => false⟩
/-- ledgerline/value.Compare -/
def T162 : Tab := ⟨ty, fnOk, fun id => if id = 1 then (.light 0 (.light 1 (.light 2 (.light 3 (.light 5 (.light 6 (.light 7 (.light 8 (.light 10 (.light 11 (.light 12 (.light 13 (.heavy 4 [13, 11, 8, 6] (.heavy 9 [13, 11] (.heavy 14 [] (.heavy 15 [] (.heavy 16 [] (.heavy 17 [] .done)))))))))))))))))) else .done, fun _ => false⟩
/-- slices.Backward[[]ledgerline/api.Change,ledgerline/api.Change]$1 -/
def T163 : Tab := ⟨ty, fnOk, fun _ => .done, fun _ => false⟩
/-- ledgerline/ledgerlineref12.Against -/
def T164 : Tab := ⟨ty, fnOk, fun _ => .done, fun _ => false⟩
/-- ledgerline/ledgerlineref12.without -/
def T165 : Tab := ⟨ty, fnOk, fun _ => .done, fun _ => false⟩
/-- ledgerline/ledgerlineref12.from -/
def T166 : Tab := ⟨ty, fnOk, fun id => if id = 13 then (.light 0 (.light 1 (.light 2 (.light 3 (.light 4 (.light 5 (.light 6 (.light 7 (.light 8 (.light 9 (.heavy 10 [] (.light 11 (.light 12 (.light 13 (.heavy 14 [] (.light 15 (.light 16 .done))))))))))))))))) else .done, fun _ => false⟩
/-- ledgerline/ledgerlineref12.in -/
def T167 : Tab := ⟨ty, fnOk, fun _ => .done, fun _ => false⟩
/-- ledgerline/ledgerlineref4.order -/
def T168 : Tab := ⟨ty, fnOk, fun _ => .done, fun _ => false⟩
/-- ledgerline/ledgerlineref5.Fits -/
def T169 : Tab := ⟨ty, fnOk, fun id => if id = 12 then (.light 0 (.light 1 (.light 2 (.light 3 (.light 4 (.light 5 (.light 6 (.light 7 (.light 8 (.light 9 (.light 10 (.light 11 .done)))))))))))) else .done, fun _ => false⟩
/-- ledgerline/ledgerlineref10.Get -/
def T170 : Tab := ⟨ty, fnOk, fun id => if id = 2 then (.light 0 (.light 1 (.light 2 (.light 3 (.light 4 (.light 5 (.light 6 (.light 7 (.light 8 (.light 9 (.light 10 (.light 11 (.light 12 (.light 13 (.light 14 (.light 15 (.light 16 (.heavy 17 [] (.light 18 (.light 19 .done)))))))))))))))))))) else .done, fun _ => false⟩
/-- ledgerline/ledgerlineref10.at -/
def T171 : Tab := ⟨ty, fnOk, fun id => if id = 2 then (.light 0 (.light 1 (.light 2 (.light 3 (.light 4 (.light 5 (.light 6 (.light 7 (.light 8 (.light 9 (.light 10 (.light 11 (.light 12 (.light 13 (.light 14 (.light 15 (.light 16 (.heavy 17 [] (.light 18 (.light 19 .done)))))))))))))))))))) else .done, fun _ => false⟩
/-- ledgerline/ledgerlineref9.Reserved -/
def T172 : Tab := ⟨ty, fnOk, fun _ => .done, fun _ => false⟩
/-- ledgerline/ledgerlineref12.Free -/
def T173 : Tab := ⟨ty, fnOk, fun id => if id = 1 then (.light 0 (.light 1 (.light 2 (.light 4 (.light 5 (.light 6 (.heavy 3 [5] (.heavy 7 [] (.light 8 (.heavy 9 [] .done)))))))))) else .done, fun _ => false⟩
/-- (*sync.Mutex).Lock -/
def T175 : Tab := ⟨ty, fnOk, fun _ => .done, fun _ => false⟩
/-- (*sync.Mutex).Unlock -/
def T176 : Tab := ⟨ty, fnOk, fun _ => .done, fun _ => false⟩
/-- (*sync/atomic.Bool).Store -/
def T177 : Tab := ⟨ty, fnOk, fun id => if id = 0 then (.light 0 (.light 1 (.light 2 (.light 3 (.heavy 4 [] (.heavy 5 [] .done)))))) else .done, fun _ => false⟩
/-- ledgerline/schema.language -/
def T178 : Tab := ⟨ty, fnOk, fun _ => .done, fun _ => false⟩
/-- slices.Reverse[[]ledgerline/table.Table,ledgerline/table.Table] -/
def T180 : Tab := ⟨ty, fnOk, fun id => if id = 3 then (.light 0 (.light 1 (.light 2 (.light 3 (.light 4 (.light 5 (.light 6 (.light 7 (.light 8 (.light 9 (.light 10 (.light 11 (.light 12 (.heavy 13 [] (.light 14 (.heavy 15 [] .done)))))))))))))))) else .done, fun _ => false⟩
/-- slices.Reverse[[]ledgerline/txn.Work,ledgerline/txn.Work] -/
def T181 : Tab := ⟨ty, fnOk, fun id => if id = 3 then (.light 0 (.light 1 (.light 2 (.light 3 (.light 4 (.light 5 (.light 6 (.light 7 (.light 8 (.light 9 (.light 10 (.light 11 (.light 12 (.heavy 13 [] (.light 14 (.heavy 15 [] .done)))))))))))))))) else .done, fun _ => false⟩
/-- slices.IndexFunc[[]ledgerline/lock.Hold,ledgerline/lock.Hold] -/
def T182 : Tab := ⟨ty, fnOk, fun _ => .done, fun _ => false⟩
/-- (ledgerline/lock.Locks).mine$1 -/
def T183 : Tab := ⟨ty, fnOk, fun _ => .done, fun _ => false⟩
/-- slices.Grow[[]ledgerline/lock.Hold,ledgerline/lock.Hold] -/
def T184 : Tab := ⟨ty, fnOk, fun _ => .done, fun _ => false⟩
/-- (*sync/atomic.Int64).Add -/
def T185 : Tab := ⟨ty, fnOk, fun _ => .done, fun _ => false⟩
/-- ledgerline/value.bare -/
def T186 : Tab := ⟨ty, fnOk, fun _ => .done, fun _ => false⟩
/-- slices.Grow[[][]ledgerline/api.Value,[]ledgerline/api.Value] -/
def T187 : Tab := ⟨ty, fnOk, fun _ => .done, fun _ => false⟩
/-- cmp.Or[int] -/
def T188 : Tab := ⟨ty, fnOk, fun _ => .done, fun _ => false⟩
/-- cmp.Compare[int] -/
def T189 : Tab := ⟨ty, fnOk, fun _ => .done, fun _ => false⟩
/-- ledgerline/ledgerlineref4.Check -/
def T190 : Tab := ⟨ty, fnOk, fun _ => .done, fun _ => false⟩
/-- (*internal/sync.Mutex).Lock -/
def T191 : Tab := ⟨ty, fnOk, fun _ => .done, fun _ => false⟩
/-- (*internal/sync.Mutex).Unlock -/
def T192 : Tab := ⟨ty, fnOk, fun _ => .done, fun _ => false⟩
/-- sync/atomic.b32 -/
def T194 : Tab := ⟨ty, fnOk, fun _ => .done, fun _ => false⟩
/-- cmp.isNaN[int] -/
def T196 : Tab := ⟨ty, fnOk, fun _ => .done, fun _ => false⟩
/-- (*internal/sync.Mutex).lockSlow -/
def T201 : Tab := ⟨ty, fnOk, fun _ => .done, fun _ => false⟩
/-- (*internal/sync.Mutex).unlockSlow -/
def T204 : Tab := ⟨ty, fnOk, fun _ => .done, fun _ => false⟩

theorem pickTy {c : Prop} [Decidable c] {a b : Ti} {q : Prop} (ha : c → a = .none ∨ q) (hb : ¬ c → b = .none ∨ q) : (if c then a else b) = .none ∨ q := by
  by_cases h : c
  · rw [if_pos h]; exact ha h
  · rw [if_neg h]; exact hb h
theorem ty_mem (t : Nat) : ty t = .none ∨ t ∈ tyIds := by
  unfold ty
  repeat' (first
    | exact .inl rfl
    | (refine pickTy (fun e => ?_) (fun e => ?_)))
  all_goals (right; rw [e]; decide)
theorem ty_map : tyIds.map ty = tyIds.map (mkTi Tryz.prog) := by kernel_rfl
theorem fn_all : ((List.range fnN).all fun f => fnBad.contains f || (match Tryz.prog.funcs[f]? with
    | some fn => fn.body.isSome && decide (fn.name ≠ "runtime.NumGoroutine")
    | none => false)) = true := by kernel_rfl
theorem mixed : Tryz.prog.follows .mixedOrders = true := by kernel_rfl
theorem tabOk (pl : Nat → Plan) (pb : Nat → Bool) : TabOk Tryz.prog ⟨ty, fnOk, pl, pb⟩ where
  ty t := by
    rcases ty_mem t with h | h
    · exact .inr h
    · exact .inl (List.map_inj_left.1 ty_map t h)
  fn f h := by
    have h : fnOk f = true := h
    unfold fnOk at h
    split at h
    · rename_i hlt
      have h1 := List.all_eq_true.1 fn_all f (by simpa using hlt)
      simp only [Bool.or_eq_true] at h1
      rcases h1 with h1 | h1
      · rw [h1] at h; cases h
      · split at h1
        · rename_i fn hfn
          simp only [Bool.and_eq_true, decide_eq_true_eq] at h1
          exact ⟨fn, hfn, h1.1, h1.2⟩
        · cases h1
    · cases h
  mixed := mixed
end Go.S

