import Derived.Test.YtficmdggjjepmaaGreatProg
import Derived.Test.YtficmdggjjepmaaGreatSxB
set_option linter.all false
namespace Go.S
open Go.Sx Go.Proofs
variable {c:Code}{fn:Func}{f:FuncId}{args:List Value}{R:Value->ab->Prop}{h:ab}
def y1:Ti:=⟨false,false,1,8,[.nilFunc],.fn⟩
def y2:Ti:=⟨false,false,1,8,[.int .i64 0],(.int .i64)⟩
def y3:Ti:=⟨false,false,1,8,[.int .i64 0],(.int .i64)⟩
def y4:Ti:=⟨false,false,1,1,[.bool false],.bool⟩
def y5:Ti:=⟨false,false,1,1,[.int .u8 0],(.int .u8)⟩
def y9:Ti:=⟨false,false,1,16,[.string ⟨#[]⟩],.str⟩
def gXg:Ti:=⟨false,false,1,4,[.int .i32 0],(.int .i32)⟩
def gXf:Ti:=⟨false,false,1,24,[.slice none 0 0],(.nd 35)⟩
def gXe:Ti:=⟨false,false,1,24,[.slice none 0 0],(.nd 106)⟩
def gXd:Ti:=⟨false,false,1,8,[.pointer none],(.ptr 120)⟩
def gXc:Ti:=⟨false,false,1,8,[.int .i64 0],(.int .i64)⟩
def gXb:Ti:=⟨false,false,1,8,[.pointer none],(.ptr 124)⟩
def gXa:Ti:=⟨false,false,1,8,[.pointer none],(.ptr 130)⟩
def gQZ:Ti:=⟨false,false,1,24,[.slice none 0 0],(.nd 5)⟩
def gQY:Ti:=⟨false,false,1,24,[.slice none 0 0],(.nd 137)⟩
def gQX:Ti:=⟨false,false,1,24,[.slice none 0 0],(.nd 3)⟩
def gQW:Ti:=⟨false,false,1,8,[.pointer none],(.ptr 189)⟩
def gQV:Ti:=⟨false,false,1,24,[.slice none 0 0],(.nd 198)⟩
def gQU:Ti:=⟨false,false,1,24,[.slice none 0 0],(.nd 206)⟩
def gQT:Ti:=⟨false,false,1,24,[.slice none 0 0],(.nd 314)⟩
def gQS:Ti:=⟨false,true,2,48,[.slice none 0 0,.slice none 0 0],(.bV [(52,0),(52,1)])⟩
def gQR:Ti:=⟨false,true,4,96,[.slice none 0 0,.slice none 0 0,.slice none 0 0,.slice none 0 0],(.bV [(50,0),(51,1),(54,2)])⟩
def gQQ:Ti:=⟨true,true,3,32,[.string ⟨#[]⟩,.int .i64 0,.bool false],(.bV [(9,0),(3,1),(4,2)])⟩
def gQP:Ti:=⟨false,false,1,24,[.slice none 0 0],(.nd 58)⟩
def gQO:Ti:=⟨false,true,4,56,[.string ⟨#[]⟩,.slice none 0 0,.int .i64 0,.bool false],(.bV [(9,0),(59,1),(3,2),(4,3)])⟩
def gQN:Ti:=⟨false,false,1,24,[.slice none 0 0],(.nd 100)⟩
def gQM:Ti:=⟨false,false,1,24,[.slice none 0 0],(.nd 211)⟩
def gQL:Ti:=⟨false,false,1,24,[.slice none 0 0],(.nd 316)⟩
def gQK:Ti:=⟨false,true,2,48,[.slice none 0 0,.slice none 0 0],(.bV [(71,0),(71,1)])⟩
def gQJ:Ti:=⟨false,true,4,96,[.slice none 0 0,.slice none 0 0,.slice none 0 0,.slice none 0 0],(.bV [(69,0),(70,1),(73,2)])⟩
def gQI:Ti:=⟨false,false,1,8,[.pointer none],(.ptr 84)⟩
def gQH:Ti:=⟨false,false,1,8,[.pointer none],(.ptr 325)⟩
def gQG:Ti:=⟨false,true,4,32,[.pointer none,.pointer none,.pointer none,.pointer none],(.bV [(25,0),(29,1),(47,2),(82,3)])⟩
def gQF:Ti:=⟨true,true,3,32,[.int .i64 0,.int .i64 0,.string ⟨#[]⟩],(.bV [(3,0),(3,1),(9,2)])⟩
def gQE:Ti:=⟨false,false,1,24,[.slice none 0 0],(.nd 87)⟩
def gQD:Ti:=⟨false,false,1,24,[.slice none 0 0],(.nd 154)⟩
def gQC:Ti:=⟨false,false,1,24,[.slice none 0 0],(.nd 344)⟩
def gQB:Ti:=⟨false,false,1,24,[.slice none 0 0],(.nd 89)⟩
def gQA:Ti:=⟨false,true,4,80,[.int .i64 0,.slice none 0 0,.slice none 0 0,.slice none 0 0],(.bV [(3,0),(89,1),(90,2),(91,3)])⟩
def gQz:Ti:=⟨false,false,1,24,[.slice none 0 0],(.nd 88)⟩
def dKL:Ti:=⟨false,true,5,80,[.string ⟨#[]⟩,.slice none 0 0,.int .i64 0,.bool false,.slice none 0 0],(.bV [(61,0),(98,4)])⟩
def dKK:Ti:=⟨false,true,32,32,(List.replicate 32 (.int .u8 0)),(.arr 32 5)⟩
def dKJ:Ti:=⟨false,true,33,40,[.int .i64 0,.int .u8 0,.int .u8 0,.int .u8 0,.int .u8 0,.int .u8 0,.int .u8 0,.int .u8 0,.int .u8 0,.int .u8 0,.int .u8 0,.int .u8 0,.int .u8 0,.int .u8 0,.int .u8 0,.int .u8 0,.int .u8 0,.int .u8 0,.int .u8 0,.int .u8 0,.int .u8 0,.int .u8 0,.int .u8 0,.int .u8 0,.int .u8 0,.int .u8 0,.int .u8 0,.int .u8 0,.int .u8 0,.int .u8 0,.int .u8 0,.int .u8 0,.int .u8 0],(.bV [(3,0),(104,1)])⟩
def dKI:Ti:=⟨false,false,1,24,[.slice none 0 0],(.nd 135)⟩
def dKH:Ti:=⟨true,true,0,0,[],(.bV [])⟩
def dKG:Ti:=⟨true,true,0,0,[],(.bV [])⟩
def dKF:Ti:=⟨false,true,1,8,[.int .i64 0],(.bV [(109,0),(110,0),(2,0)])⟩
def dKE:Ti:=⟨false,false,1,4,[.int .u32 0],(.int .u32)⟩
def dKD:Ti:=⟨false,true,1,4,[.int .u32 0],(.bV [(109,0),(113,0)])⟩
def dKC:Ti:=⟨false,true,2,16,[.int .i64 0,.int .u32 0],(.bV [(112,0),(115,1)])⟩
def dKB:Ti:=⟨false,false,1,24,[.slice none 0 0],(.nd 455)⟩
def dKA:Ti:=⟨false,true,5,88,[.int .i64 0,.int .u32 0,.slice none 0 0,.slice none 0 0,.slice none 0 0],(.bV [(117,0),(107,2),(107,3),(118,4)])⟩
def dKz:Ti:=⟨false,false,1,24,[.slice none 0 0],(.nd 134)⟩
def dKy:Ti:=⟨false,false,1,24,[.slice none 0 0],(.nd 256)⟩
def dKx:Ti:=⟨false,true,5,88,[.slice none 0 0,.slice none 0 0,.slice none 0 0,.int .i64 0,.bool false],(.bV [(121,0),(121,1),(122,2),(3,3),(4,4)])⟩
def dKw:Ti:=⟨false,true,3,24,[.pointer none,.int .i64 0,.int .i64 0],(.bV [(29,0),(3,1),(3,2)])⟩
def dKv:Ti:=⟨false,true,64,64,(List.replicate 64 (.int .u8 0)),(.arr 64 5)⟩
def dKu:Ti:=⟨false,true,64,64,(List.replicate 64 (.int .u8 0)),(.arr 64 5)⟩
def dKt:Ti:=⟨true,true,4,32,[.int .i64 0,.int .i64 0,.int .i64 0,.int .i64 0],(.bV [(3,0),(3,1),(3,2),(3,3)])⟩
def dKs:Ti:=⟨false,false,1,8,[.pointer none],(.ptr 149)⟩
def dKr:Ti:=⟨false,false,1,8,[.map none],(.mp 3 104)⟩
def dKq:Ti:=⟨true,true,0,0,[],(.bV [])⟩
def dKp:Ti:=⟨true,true,2,8,[.int .i32 0,.int .u32 0],(.bV [(21,0),(113,1)])⟩
def dKo:Ti:=⟨false,true,2,8,[.int .i32 0,.int .u32 0],(.bV [(140,0),(142,0)])⟩
def dKn:Ti:=⟨false,true,3,12,[.int .u32 0,.int .i32 0,.int .u32 0],(.bV [(140,0),(115,0),(144,1)])⟩
def dKm:Ti:=⟨false,false,1,24,[.slice none 0 0],(.nd 104)⟩
def dKl:Ti:=⟨false,true,12,200,[.int .u32 0,.int .i32 0,.int .u32 0,.slice none 0 0,.slice none 0 0,.slice none 0 0,.slice none 0 0,.slice none 0 0,.int .i64 0,.slice none 0 0,.slice none 0 0,.map none],(.bV [(146,0),(42,3),(75,4),(3,8),(147,9),(90,10),(139,11)])⟩
def dKk:Ti:=⟨false,false,1,24,[.slice none 0 0],(.nd 228)⟩
def dKj:Ti:=⟨false,true,2,32,[.int .i64 0,.slice none 0 0],(.bV [(3,0),(152,1)])⟩
def dKi:Ti:=⟨false,true,68,128,[.int .i64 0,.slice none 0 0,.slice none 0 0,.int .u8 0,.int .u8 0,.int .u8 0,.int .u8 0,.int .u8 0,.int .u8 0,.int .u8 0,.int .u8 0,.int .u8 0,.int .u8 0,.int .u8 0,.int .u8 0,.int .u8 0,.int .u8 0,.int .u8 0,.int .u8 0,.int .u8 0,.int .u8 0,.int .u8 0,.int .u8 0,.int .u8 0,.int .u8 0,.int .u8 0,.int .u8 0,.int .u8 0,.int .u8 0,.int .u8 0,.int .u8 0,.int .u8 0,.int .u8 0,.int .u8 0,.int .u8 0,.bool false,.int .u8 0,.int .u8 0,.int .u8 0,.int .u8 0,.int .u8 0,.int .u8 0,.int .u8 0,.int .u8 0,.int .u8 0,.int .u8 0,.int .u8 0,.int .u8 0,.int .u8 0,.int .u8 0,.int .u8 0,.int .u8 0,.int .u8 0,.int .u8 0,.int .u8 0,.int .u8 0,.int .u8 0,.int .u8 0,.int .u8 0,.int .u8 0,.int .u8 0,.int .u8 0,.int .u8 0,.int .u8 0,.int .u8 0,.int .u8 0,.int .u8 0,.int .u8 0],(.bV [(154,0),(147,2),(104,3),(4,35),(104,36)])⟩
def dKh:Ti:=⟨false,true,108,256,[.bool false,.int .i64 0,.string ⟨#[]⟩,.slice none 0 0,.int .i64 0,.bool false,.string ⟨#[]⟩,.int .i64 0,.slice none 0 0,.slice none 0 0,.int .u8 0,.int .u8 0,.int .u8 0,.int .u8 0,.int .u8 0,.int .u8 0,.int .u8 0,.int .u8 0,.int .u8 0,.int .u8 0,.int .u8 0,.int .u8 0,.int .u8 0,.int .u8 0,.int .u8 0,.int .u8 0,.int .u8 0,.int .u8 0,.int .u8 0,.int .u8 0,.int .u8 0,.int .u8 0,.int .u8 0,.int .u8 0,.int .u8 0,.int .u8 0,.int .u8 0,.int .u8 0,.int .u8 0,.int .u8 0,.int .u8 0,.int .u8 0,.bool false,.int .u8 0,.int .u8 0,.int .u8 0,.int .u8 0,.int .u8 0,.int .u8 0,.int .u8 0,.int .u8 0,.int .u8 0,.int .u8 0,.int .u8 0,.int .u8 0,.int .u8 0,.int .u8 0,.int .u8 0,.int .u8 0,.int .u8 0,.int .u8 0,.int .u8 0,.int .u8 0,.int .u8 0,.int .u8 0,.int .u8 0,.int .u8 0,.int .u8 0,.int .u8 0,.int .u8 0,.int .u8 0,.int .u8 0,.int .u8 0,.int .u8 0,.int .u8 0,.int .i64 0,.int .u8 0,.int .u8 0,.int .u8 0,.int .u8 0,.int .u8 0,.int .u8 0,.int .u8 0,.int .u8 0,.int .u8 0,.int .u8 0,.int .u8 0,.int .u8 0,.int .u8 0,.int .u8 0,.int .u8 0,.int .u8 0,.int .u8 0,.int .u8 0,.int .u8 0,.int .u8 0,.int .u8 0,.int .u8 0,.int .u8 0,.int .u8 0,.int .u8 0,.int .u8 0,.int .u8 0,.int .u8 0,.int .u8 0,.int .u8 0,.int .u8 0,.int .u8 0],(.bV [(4,0),(3,1),(61,2),(9,6),(156,7),(3,75),(104,76)])⟩
def dKg:Ti:=⟨false,false,1,8,[.pointer none],(.ptr 170)⟩
def dKf:Ti:=⟨false,true,8,176,[.slice none 0 0,.slice none 0 0,.slice none 0 0,.slice none 0 0,.int .i64 0,.slice none 0 0,.slice none 0 0,.slice none 0 0],(.bV [(56,0),(3,4),(147,5),(147,6),(42,7)])⟩
def dKe:Ti:=⟨false,true,75,216,[.int .i64 0,.string ⟨#[]⟩,.slice none 0 0,.int .i64 0,.bool false,.string ⟨#[]⟩,.int .i64 0,.slice none 0 0,.slice none 0 0,.int .u8 0,.int .u8 0,.int .u8 0,.int .u8 0,.int .u8 0,.int .u8 0,.int .u8 0,.int .u8 0,.int .u8 0,.int .u8 0,.int .u8 0,.int .u8 0,.int .u8 0,.int .u8 0,.int .u8 0,.int .u8 0,.int .u8 0,.int .u8 0,.int .u8 0,.int .u8 0,.int .u8 0,.int .u8 0,.int .u8 0,.int .u8 0,.int .u8 0,.int .u8 0,.int .u8 0,.int .u8 0,.int .u8 0,.int .u8 0,.int .u8 0,.int .u8 0,.bool false,.int .i64 0,.int .u8 0,.int .u8 0,.int .u8 0,.int .u8 0,.int .u8 0,.int .u8 0,.int .u8 0,.int .u8 0,.int .u8 0,.int .u8 0,.int .u8 0,.int .u8 0,.int .u8 0,.int .u8 0,.int .u8 0,.int .u8 0,.int .u8 0,.int .u8 0,.int .u8 0,.int .u8 0,.int .u8 0,.int .u8 0,.int .u8 0,.int .u8 0,.int .u8 0,.int .u8 0,.int .u8 0,.int .u8 0,.int .u8 0,.int .u8 0,.int .u8 0,.int .u8 0],(.bV [(3,0),(61,1),(9,5),(154,6),(147,8),(104,9),(4,41),(3,42),(104,43)])⟩
def dKd:Ti:=⟨false,false,1,8,[.pointer none],(.ptr 295)⟩
def dKc:Ti:=⟨false,false,1,8,[.pointer none],(.ptr 182)⟩
def dKb:Ti:=⟨false,true,8,176,[.slice none 0 0,.slice none 0 0,.slice none 0 0,.slice none 0 0,.int .i64 0,.slice none 0 0,.slice none 0 0,.slice none 0 0],(.bV [(75,0),(93,4)])⟩
def dKa:Ti:=⟨false,true,0,0,[],(.arr 0 180)⟩
def dJZ:Ti:=⟨false,false,1,8,[.pointer none],.eQV⟩
def dJY:Ti:=⟨false,true,1,8,[.pointer none],(.bV [(184,0),(109,0),(185,0)])⟩
def dJX:Ti:=⟨false,true,2,16,[.pointer none,.pointer none],(.bV [(177,0),(187,1)])⟩
def dJW:Ti:=⟨false,true,5,80,[.string ⟨#[]⟩,.slice none 0 0,.int .i64 0,.bool false,.slice none 0 0],(.bV [(61,0),(98,4)])⟩
def dJV:Ti:=⟨false,false,1,24,[.slice none 0 0],(.nd 214)⟩
def dJU:Ti:=⟨false,true,3,56,[.int .i64 0,.slice none 0 0,.slice none 0 0],(.bV [(3,0),(152,1),(204,2)])⟩
def dJT:Ti:=⟨false,false,1,24,[.slice none 0 0],(.nd 213)⟩
def dJS:Ti:=⟨false,true,3,56,[.int .i64 0,.slice none 0 0,.slice none 0 0],(.bV [(3,0),(152,1),(209,2)])⟩
def dJR:Ti:=⟨true,true,2,24,[.string ⟨#[]⟩,.int .i64 0],(.bV [(9,0),(3,1)])⟩
def dJQ:Ti:=⟨true,true,2,24,[.string ⟨#[]⟩,.int .i64 0],(.bV [(9,0),(3,1)])⟩
def dJP:Ti:=⟨false,false,1,8,[.pointer none],(.ptr 226)⟩
def dJO:Ti:=⟨false,true,8,120,[.slice none 0 0,.slice none 0 0,.slice none 0 0,.slice none 0 0,.int .u32 0,.int .i32 0,.int .u32 0,.int .i64 0],(.bV [(75,0),(146,4),(26,7)])⟩
def dJN:Ti:=⟨false,true,3,48,[.string ⟨#[]⟩,.int .i64 0,.slice none 0 0],(.bV [(9,0),(3,1),(88,2)])⟩
def dJM:Ti:=⟨false,false,1,8,[.nilFunc],.fn⟩
def dJL:Ti:=⟨false,false,1,8,[.nilFunc],.fn⟩
def dJK:Ti:=⟨false,false,1,8,[.nilFunc],.fn⟩
def dJJ:Ti:=⟨false,false,1,8,[.nilFunc],.fn⟩
def dJI:Ti:=⟨false,false,1,8,[.nilFunc],.fn⟩
def dJH:Ti:=⟨false,false,1,8,[.nilFunc],.fn⟩
def dJG:Ti:=⟨false,false,1,8,[.pointer none],(.ptr 290)⟩
def dJF:Ti:=⟨false,false,1,8,[.int .u64 0],(.int .u64)⟩
def dJE:Ti:=⟨false,false,1,8,[.int .u64 0],(.int .u64)⟩
def dJD:Ti:=⟨false,true,65,72,[.int .i64 0,.int .u8 0,.int .u8 0,.int .u8 0,.int .u8 0,.int .u8 0,.int .u8 0,.int .u8 0,.int .u8 0,.int .u8 0,.int .u8 0,.int .u8 0,.int .u8 0,.int .u8 0,.int .u8 0,.int .u8 0,.int .u8 0,.int .u8 0,.int .u8 0,.int .u8 0,.int .u8 0,.int .u8 0,.int .u8 0,.int .u8 0,.int .u8 0,.int .u8 0,.int .u8 0,.int .u8 0,.int .u8 0,.int .u8 0,.int .u8 0,.int .u8 0,.int .u8 0,.int .u8 0,.int .u8 0,.int .u8 0,.int .u8 0,.int .u8 0,.int .u8 0,.int .u8 0,.int .u8 0,.int .u8 0,.int .u8 0,.int .u8 0,.int .u8 0,.int .u8 0,.int .u8 0,.int .u8 0,.int .u8 0,.int .u8 0,.int .u8 0,.int .u8 0,.int .u8 0,.int .u8 0,.int .u8 0,.int .u8 0,.int .u8 0,.int .u8 0,.int .u8 0,.int .u8 0,.int .u8 0,.int .u8 0,.int .u8 0,.int .u8 0,.int .u8 0],(.bV [(3,0),(134,1)])⟩
def dJC:Ti:=⟨false,true,4,48,[.int .i64 0,.int .i64 0,.slice none 0 0,.bool false],(.bV [(3,0),(3,1),(22,2),(4,3)])⟩
def dJB:Ti:=⟨false,false,1,8,[.pointer none],(.ptr 265)⟩
def dJA:Ti:=⟨false,true,6,56,[.pointer none,.int .u32 0,.int .i32 0,.int .u32 0,.slice none 0 0,.int .i64 0],(.bV [(25,0),(146,1),(35,4),(26,5)])⟩
def dJz:Ti:=⟨false,false,1,8,[.pointer none],(.ptr 361)⟩
def dJy:Ti:=⟨false,true,1,8,[.pointer none],(.bV [(267,0)])⟩
def dJx:Ti:=⟨false,false,1,8,[.pointer none],(.ptr 146)⟩
def dJw:Ti:=⟨false,true,3,40,[.slice none 0 0,.int .i64 0,.int .i64 0],(.bV [(35,0),(3,1),(3,2)])⟩
def dJv:Ti:=⟨false,true,3,24,[.pointer none,.int .i64 0,.int .i64 0],(.bV [(25,0),(112,1),(112,2)])⟩
def dJu:Ti:=⟨false,false,1,8,[.pointer none],(.ptr 299)⟩
def dJt:Ti:=⟨false,true,5,24,[.pointer none,.int .u32 0,.int .i32 0,.int .u32 0,.bool false],(.bV [(267,0),(146,1),(4,4)])⟩
def dJs:Ti:=⟨false,false,1,8,[.pointer none],(.ptr 187)⟩
def dJr:Ti:=⟨false,false,1,8,[.pointer none],(.ptr 185)⟩
def dJq:Ti:=⟨false,false,1,8,[.nilFunc],.fn⟩
def dJp:Ti:=⟨true,true,3,32,[.int .i64 0,.string ⟨#[]⟩,.bool false],(.bV [(3,0),(9,1),(4,2)])⟩
def dJo:Ti:=⟨true,true,3,32,[.int .i64 0,.string ⟨#[]⟩,.bool false],(.bV [(3,0),(9,1),(4,2)])⟩
def dJn:Ti:=⟨false,false,1,8,[.nilFunc],.fn⟩
def dJm:Ti:=⟨false,false,1,24,[.slice none 0 0],(.nd 384)⟩
def dJl:Ti:=⟨false,true,4,80,[.int .i64 0,.slice none 0 0,.slice none 0 0,.slice none 0 0],(.bV [(3,0),(89,1),(321,2),(91,3)])⟩
def dJk:Ti:=⟨false,true,9,184,[.pointer none,.slice none 0 0,.slice none 0 0,.slice none 0 0,.slice none 0 0,.int .i64 0,.slice none 0 0,.slice none 0 0,.slice none 0 0],(.bV [(32,0),(56,1),(323,5)])⟩
def dJj:Ti:=⟨false,false,1,8,[.nilFunc],.fn⟩
def dJi:Ti:=⟨false,true,5,80,[.string ⟨#[]⟩,.slice none 0 0,.int .i64 0,.bool false,.slice none 0 0],(.bV [(100,0)])⟩
def dJh:Ti:=⟨false,false,1,8,[.nilFunc],.fn⟩
def dJg:Ti:=⟨false,true,66,80,[.int .i64 0,.int .u8 0,.int .u8 0,.int .u8 0,.int .u8 0,.int .u8 0,.int .u8 0,.int .u8 0,.int .u8 0,.int .u8 0,.int .u8 0,.int .u8 0,.int .u8 0,.int .u8 0,.int .u8 0,.int .u8 0,.int .u8 0,.int .u8 0,.int .u8 0,.int .u8 0,.int .u8 0,.int .u8 0,.int .u8 0,.int .u8 0,.int .u8 0,.int .u8 0,.int .u8 0,.int .u8 0,.int .u8 0,.int .u8 0,.int .u8 0,.int .u8 0,.int .u8 0,.int .u8 0,.int .u8 0,.int .u8 0,.int .u8 0,.int .u8 0,.int .u8 0,.int .u8 0,.int .u8 0,.int .u8 0,.int .u8 0,.int .u8 0,.int .u8 0,.int .u8 0,.int .u8 0,.int .u8 0,.int .u8 0,.int .u8 0,.int .u8 0,.int .u8 0,.int .u8 0,.int .u8 0,.int .u8 0,.int .u8 0,.int .u8 0,.int .u8 0,.int .u8 0,.int .u8 0,.int .u8 0,.int .u8 0,.int .u8 0,.int .u8 0,.int .u8 0,.int .i64 0],(.bV [(3,0),(104,1),(104,33),(3,65)])⟩
def dJf:Ti:=⟨false,false,1,8,[.nilFunc],.fn⟩
def dJe:Ti:=⟨false,false,1,8,[.pointer none],(.ptr 350)⟩
def dJd:Ti:=⟨false,true,7,96,[.int .i64 0,.slice none 0 0,.slice none 0 0,.slice none 0 0,.int .u32 0,.int .i32 0,.int .u32 0],(.bV [(93,0),(146,4)])⟩
def dJc:Ti:=⟨false,false,1,8,[.nilFunc],.fn⟩
def dJb:Ti:=⟨false,true,5,48,[.slice none 0 0,.int .i64 0,.int .u32 0,.int .i32 0,.int .u32 0],(.bV [(35,0),(26,1),(146,2)])⟩
def dJa:Ti:=⟨false,false,1,8,[.pointer none],(.ptr 115)⟩
def dZZ:Ti:=⟨false,false,1,8,[.pointer none],(.ptr 113)⟩
def dZY:Ti:=⟨false,true,66,80,[.int .i64 0,.int .u8 0,.int .u8 0,.int .u8 0,.int .u8 0,.int .u8 0,.int .u8 0,.int .u8 0,.int .u8 0,.int .u8 0,.int .u8 0,.int .u8 0,.int .u8 0,.int .u8 0,.int .u8 0,.int .u8 0,.int .u8 0,.int .u8 0,.int .u8 0,.int .u8 0,.int .u8 0,.int .u8 0,.int .u8 0,.int .u8 0,.int .u8 0,.int .u8 0,.int .u8 0,.int .u8 0,.int .u8 0,.int .u8 0,.int .u8 0,.int .u8 0,.int .u8 0,.int .u8 0,.int .u8 0,.int .u8 0,.int .u8 0,.int .u8 0,.int .u8 0,.int .u8 0,.int .u8 0,.int .u8 0,.int .u8 0,.int .u8 0,.int .u8 0,.int .u8 0,.int .u8 0,.int .u8 0,.int .u8 0,.int .u8 0,.int .u8 0,.int .u8 0,.int .u8 0,.int .u8 0,.int .u8 0,.int .u8 0,.int .u8 0,.int .u8 0,.int .u8 0,.int .u8 0,.int .u8 0,.int .u8 0,.int .u8 0,.int .u8 0,.int .u8 0,.int .i64 0],(.bV [(3,0),(104,1),(104,33),(3,65)])⟩
def dZX:Ti:=⟨false,false,1,8,[.pointer none],(.ptr 112)⟩
def dZW:Ti:=⟨false,false,1,8,[.pointer none],(.ptr 2)⟩
def dZV:Ti:=⟨false,false,1,8,[.map none],(.mp 9 4)⟩
def dZU:Ti:=⟨false,true,4,24,[.int .u32 0,.int .i32 0,.int .u32 0,.map none],(.bV [(146,0),(393,3)])⟩
def dZT:Ti:=⟨false,false,1,8,[.nilFunc],.fn⟩
def dZS:Ti:=⟨false,false,1,24,[.slice none 0 0],(.nd 9)⟩
def dZR:Ti:=⟨false,false,1,24,[.slice none 0 0],(.nd 98)⟩
def dZQ:Ti:=⟨false,false,1,8,[.nilFunc],.fn⟩
def dZP:Ti:=⟨false,false,1,8,[.pointer none],(.ptr 144)⟩
def dZO:Ti:=⟨false,false,1,8,[.nilFunc],.fn⟩
def dZN:Ti:=⟨false,false,1,8,[.pointer none],(.ptr 439)⟩
def dZM:Ti:=⟨false,true,36,72,[.slice none 0 0,.int .u32 0,.int .i32 0,.int .u32 0,.int .u8 0,.int .u8 0,.int .u8 0,.int .u8 0,.int .u8 0,.int .u8 0,.int .u8 0,.int .u8 0,.int .u8 0,.int .u8 0,.int .u8 0,.int .u8 0,.int .u8 0,.int .u8 0,.int .u8 0,.int .u8 0,.int .u8 0,.int .u8 0,.int .u8 0,.int .u8 0,.int .u8 0,.int .u8 0,.int .u8 0,.int .u8 0,.int .u8 0,.int .u8 0,.int .u8 0,.int .u8 0,.int .u8 0,.int .u8 0,.int .u8 0,.int .u8 0],(.bV [(35,0),(146,1),(104,4)])⟩
def dZL:Ti:=⟨false,false,1,8,[.pointer none],(.ptr 395)⟩
def dZK:Ti:=⟨false,false,1,8,[.nilFunc],.fn⟩
def dZJ:Ti:=⟨false,true,65,72,[.int .i64 0,.int .u8 0,.int .u8 0,.int .u8 0,.int .u8 0,.int .u8 0,.int .u8 0,.int .u8 0,.int .u8 0,.int .u8 0,.int .u8 0,.int .u8 0,.int .u8 0,.int .u8 0,.int .u8 0,.int .u8 0,.int .u8 0,.int .u8 0,.int .u8 0,.int .u8 0,.int .u8 0,.int .u8 0,.int .u8 0,.int .u8 0,.int .u8 0,.int .u8 0,.int .u8 0,.int .u8 0,.int .u8 0,.int .u8 0,.int .u8 0,.int .u8 0,.int .u8 0,.int .u8 0,.int .u8 0,.int .u8 0,.int .u8 0,.int .u8 0,.int .u8 0,.int .u8 0,.int .u8 0,.int .u8 0,.int .u8 0,.int .u8 0,.int .u8 0,.int .u8 0,.int .u8 0,.int .u8 0,.int .u8 0,.int .u8 0,.int .u8 0,.int .u8 0,.int .u8 0,.int .u8 0,.int .u8 0,.int .u8 0,.int .u8 0,.int .u8 0,.int .u8 0,.int .u8 0,.int .u8 0,.int .u8 0,.int .u8 0,.int .u8 0,.int .u8 0],(.bV [(3,0),(135,1)])⟩
def dZI:Ti:=⟨false,false,1,8,[.nilFunc],.fn⟩
def dZH:Ti:=⟨false,false,1,8,[.pointer none],(.ptr 501)⟩
def dZG:Ti:=⟨false,false,1,8,[.map none],(.mp 3 4)⟩
def dZF:Ti:=⟨false,false,1,8,[.nilFunc],.fn⟩
def dZE:Ti:=⟨false,false,1,8,[.pointer none],(.ptr 117)⟩
def dZD:Ti:=⟨false,true,1,8,[.pointer none],(.bV [(267,0)])⟩
def dZC:Ti:=⟨false,false,1,8,[.pointer none],(.ptr 142)⟩
def dZB:Ti:=⟨false,false,1,8,[.pointer none],(.ptr 21)⟩
def dZA:Ti:=⟨false,true,8,32,[.int .u32 0,.int .u32 0,.int .u32 0,.int .u32 0,.int .u32 0,.int .u32 0,.int .u32 0,.int .u32 0],(.arr 8 113)⟩
def dZz:Ti:=⟨false,true,8,32,[.int .u32 0,.int .u32 0,.int .u32 0,.int .u32 0,.int .u32 0,.int .u32 0,.int .u32 0,.int .u32 0],(.arr 8 113)⟩
def dZy:Ti:=⟨false,true,64,256,(List.replicate 64 (.int .u32 0)),(.arr 64 113)⟩
def dZx:Ti:=⟨false,false,1,24,[.slice none 0 0],(.nd 71)⟩
def dZw:Ti:=⟨false,false,1,8,[.map none],(.mp 3 46)⟩
def dZv:Ti:=⟨false,true,2,16,[.map none,.int .i64 0],(.bV [(499,0),(112,1)])⟩
def dZu:Ti:=⟨false,false,1,8,[.nilFunc],.fn⟩
def ty(t:Nat):Ti:=if t<198 then(if t<100 then(if t<54 then(if t<26 then(if t<9 then(if t<3 then(if t<2 then(if t=1 then y1 else .none)else(if t=2 then y2 else .none))else(if t<4 then(if t=3 then y3 else .none)else(if t<5 then(if t=4 then y4 else .none)else(if t=5 then y5 else .none))))else(if t<22 then(if t<21 then(if t=9 then y9 else .none)else(if t=21 then gXg else .none))else(if t<23 then(if t=22 then gXf else .none)else(if t<25 then(if t=23 then gXe else .none)else(if t=25 then gXd else .none)))))else(if t<46 then(if t<32 then(if t<29 then(if t=26 then gXc else .none)else(if t=29 then gXb else .none))else(if t<35 then(if t=32 then gXa else .none)else(if t<42 then(if t=35 then gQZ else .none)else(if t=42 then gQY else .none))))else(if t<50 then(if t<47 then(if t=46 then gQX else .none)else(if t=47 then gQW else .none))else(if t<51 then(if t=50 then gQV else .none)else(if t<52 then(if t=51 then gQU else .none)else(if t=52 then gQT else .none))))))else(if t<78 then(if t<69 then(if t<58 then(if t<56 then(if t=54 then gQS else .none)else(if t=56 then gQR else .none))else(if t<59 then(if t=58 then gQQ else .none)else(if t<61 then(if t=59 then gQP else .none)else(if t=61 then gQO else .none))))else(if t<71 then(if t<70 then(if t=69 then gQN else .none)else(if t=70 then gQM else .none))else(if t<73 then(if t=71 then gQL else .none)else(if t<75 then(if t=73 then gQK else .none)else(if t=75 then gQJ else .none)))))else(if t<89 then(if t<84 then(if t<82 then(if t=78 then gQI else .none)else(if t=82 then gQH else .none))else(if t<87 then(if t=84 then gQG else .none)else(if t<88 then(if t=87 then gQF else .none)else(if t=88 then gQE else .none))))else(if t<91 then(if t<90 then(if t=89 then gQD else .none)else(if t=90 then gQC else .none))else(if t<93 then(if t=91 then gQB else .none)else(if t<98 then(if t=93 then gQA else .none)else(if t=98 then gQz else .none)))))))else(if t<139 then(if t<118 then(if t<110 then(if t<106 then(if t<104 then(if t=100 then dKL else .none)else(if t=104 then dKK else .none))else(if t<107 then(if t=106 then dKJ else .none)else(if t<109 then(if t=107 then dKI else .none)else(if t=109 then dKH else .none))))else(if t<113 then(if t<112 then(if t=110 then dKG else .none)else(if t=112 then dKF else .none))else(if t<115 then(if t=113 then dKE else .none)else(if t<117 then(if t=115 then dKD else .none)else(if t=117 then dKC else .none)))))else(if t<130 then(if t<121 then(if t<120 then(if t=118 then dKB else .none)else(if t=120 then dKA else .none))else(if t<122 then(if t=121 then dKz else .none)else(if t<124 then(if t=122 then dKy else .none)else(if t=124 then dKx else .none))))else(if t<135 then(if t<134 then(if t=130 then dKw else .none)else(if t=134 then dKv else .none))else(if t<137 then(if t=135 then dKu else .none)else(if t<138 then(if t=137 then dKt else .none)else(if t=138 then dKs else .none))))))else(if t<158 then(if t<147 then(if t<142 then(if t<140 then(if t=139 then dKr else .none)else(if t=140 then dKq else .none))else(if t<144 then(if t=142 then dKp else .none)else(if t<146 then(if t=144 then dKo else .none)else(if t=146 then dKn else .none))))else(if t<152 then(if t<149 then(if t=147 then dKm else .none)else(if t=149 then dKl else .none))else(if t<154 then(if t=152 then dKk else .none)else(if t<156 then(if t=154 then dKj else .none)else(if t=156 then dKi else .none)))))else(if t<180 then(if t<170 then(if t<168 then(if t=158 then dKh else .none)else(if t=168 then dKg else .none))else(if t<173 then(if t=170 then dKf else .none)else(if t<177 then(if t=173 then dKe else .none)else(if t=177 then dKd else .none))))else(if t<185 then(if t<182 then(if t=180 then dKc else .none)else(if t<184 then(if t=182 then dKb else .none)else(if t=184 then dKa else .none)))else(if t<187 then(if t=185 then dJZ else .none)else(if t<189 then(if t=187 then dJY else .none)else(if t=189 then dJX else .none))))))))else(if t<333 then(if t<258 then(if t<231 then(if t<213 then(if t<206 then(if t<204 then(if t=198 then dJW else .none)else(if t=204 then dJV else .none))else(if t<209 then(if t=206 then dJU else .none)else(if t<211 then(if t=209 then dJT else .none)else(if t=211 then dJS else .none))))else(if t<220 then(if t<214 then(if t=213 then dJR else .none)else(if t=214 then dJQ else .none))else(if t<226 then(if t=220 then dJP else .none)else(if t<228 then(if t=226 then dJO else .none)else(if t=228 then dJN else .none)))))else(if t<246 then(if t<240 then(if t<232 then(if t=231 then dJM else .none)else(if t=232 then dJL else .none))else(if t<241 then(if t=240 then dJK else .none)else(if t<244 then(if t=241 then dJJ else .none)else(if t=244 then dJI else .none))))else(if t<253 then(if t<249 then(if t=246 then dJH else .none)else(if t=249 then dJG else .none))else(if t<254 then(if t=253 then dJF else .none)else(if t<256 then(if t=254 then dJE else .none)else(if t=256 then dJD else .none))))))else(if t<301 then(if t<279 then(if t<265 then(if t<263 then(if t=258 then dJC else .none)else(if t=263 then dJB else .none))else(if t<267 then(if t=265 then dJA else .none)else(if t<271 then(if t=267 then dJz else .none)else(if t=271 then dJy else .none))))else(if t<295 then(if t<290 then(if t=279 then dJx else .none)else(if t=290 then dJw else .none))else(if t<297 then(if t=295 then dJv else .none)else(if t<299 then(if t=297 then dJu else .none)else(if t=299 then dJt else .none)))))else(if t<320 then(if t<307 then(if t<303 then(if t=301 then dJs else .none)else(if t=303 then dJr else .none))else(if t<314 then(if t=307 then dJq else .none)else(if t<316 then(if t=314 then dJp else .none)else(if t=316 then dJo else .none))))else(if t<323 then(if t<321 then(if t=320 then dJn else .none)else(if t=321 then dJm else .none))else(if t<325 then(if t=323 then dJl else .none)else(if t<329 then(if t=325 then dJk else .none)else(if t=329 then dJj else .none)))))))else(if t<436 then(if t<384 then(if t<350 then(if t<344 then(if t<341 then(if t=333 then dJi else .none)else(if t=341 then dJh else .none))else(if t<347 then(if t=344 then dJg else .none)else(if t<348 then(if t=347 then dJf else .none)else(if t=348 then dJe else .none))))else(if t<361 then(if t<351 then(if t=350 then dJd else .none)else(if t=351 then dJc else .none))else(if t<367 then(if t=361 then dJb else .none)else(if t<369 then(if t=367 then dJa else .none)else(if t=369 then dZZ else .none)))))else(if t<398 then(if t<388 then(if t<386 then(if t=384 then dZY else .none)else(if t=386 then dZX else .none))else(if t<393 then(if t=388 then dZW else .none)else(if t<395 then(if t=393 then dZV else .none)else(if t=395 then dZU else .none))))else(if t<416 then(if t<406 then(if t=398 then dZT else .none)else(if t=406 then dZS else .none))else(if t<421 then(if t=416 then dZR else .none)else(if t<432 then(if t=421 then dZQ else .none)else(if t=432 then dZP else .none))))))else(if t<475 then(if t<455 then(if t<439 then(if t<437 then(if t=436 then dZO else .none)else(if t=437 then dZN else .none))else(if t<450 then(if t=439 then dZM else .none)else(if t<452 then(if t=450 then dZL else .none)else(if t=452 then dZK else .none))))else(if t<467 then(if t<464 then(if t=455 then dZJ else .none)else(if t=464 then dZI else .none))else(if t<469 then(if t=467 then dZH else .none)else(if t<472 then(if t=469 then dZG else .none)else(if t=472 then dZF else .none)))))else(if t<485 then(if t<478 then(if t<476 then(if t=475 then dZE else .none)else(if t=476 then dZD else .none))else(if t<480 then(if t=478 then dZC else .none)else(if t<484 then(if t=480 then dZB else .none)else(if t=484 then dZA else .none))))else(if t<499 then(if t<492 then(if t=485 then dZz else .none)else(if t<498 then(if t=492 then dZy else .none)else(if t=498 then dZx else .none)))else(if t<501 then(if t=499 then dZw else .none)else(if t<502 then(if t=501 then dZv else .none)else(if t=502 then dZu else .none))))))))
def OU:List Nat:=[1,2,3,4,5,9,21,22,23,25,26,29,32,35,42,46,47,50,51,52,54,56,58,59,61,69,70,71,73,75,78,82,84,87,88,89,90,91,93,98,100,104,106,107,109,110,112,113,115,117,118,120,121,122,124,130,134,135,137,138,139,140,142,144,146,147,149,152,154,156,158,168,170,173,177,180,182,184,185,187,189,198,204,206,209,211,213,214,220,226,228,231,232,240,241,244,246,249,253,254,256,258,263,265,267,271,279,290,295,297,299,301,303,307,314,316,320,321,323,325,329,333,341,344,347,348,350,351,361,367,369,384,386,388,393,395,398,406,416,421,432,436,437,439,450,452,455,464,467,469,472,475,476,478,480,484,485,492,498,499,501,502]
def ZO:List Nat:=[0,1,137,138,168,206,226,239,284,306,309,326,327,328,329,331,332,344,351,352,353,354,355,356,357,364,365,366,367,368,369,370,371,372,373,374,375,376,377,378,379,380,381,382,383]
def fJy:Nat:=384
def ax(f:Nat):Bool:=if f<fJy then !ZO.contains f else false
def xr(p:Nat->sX)(b:Nat->Bool):aN:=⟨ty,ax,p,b,λ_=>false,[],λ_ _ _=>False⟩
def hKy(b:Nat->Bool):aN:=xr (λ_=>.done) b
def nX:aN:=hKy (λ_=>false)
def kS(a:Nat)(p:sX):sX:=.aa a (.aa (a+1) p)
def xl(a:Nat)(p:sX):sX:=kS a (kS (a+2) p)
def Ho(a:Nat)(p:sX):sX:=xl a (xl (a+4) p)
def hKT(a:Nat)(p:sX):sX:=Ho a (Ho (a+8) p)
def T3:aN:=xr (λid=>if id=19 then(xl 0 (.ad 4 [2] (xl 5 (.ad 9 [] .done))))else .done) (λ_=>false)
def T6:aN:=nX
def T7:aN:=xr (λid=>if id=3 then(.aa 0 (.aa 2 (.fork (.ad 1 [] (.ad 3 [] (.aa 4 (.ad 5 [] (.ad 6 [] (.ad 7 [] .done)))))) (.ad 3 [] (.ad 1 [] (.aa 4 (.ad 5 [] (.ad 6 [] (.ad 7 [] .done)))))))))else .done) (λs=>[15].contains s)
def T8:aN:=xr (λid=>if id=3 then(.aa 0 (.aa 2 (.fork (.ad 1 [] (.ad 3 [] (.aa 4 (.ad 5 [] (.ad 6 [] (.ad 7 [] .done)))))) (.ad 3 [] (.ad 1 [] (.aa 4 (.ad 5 [] (.ad 6 [] (.ad 7 [] .done)))))))))else .done) (λs=>[15].contains s)
def T9:aN:=hKy (λs=>[30].contains s)
def gQq:aN:=xr (λid=>if id=3 then(Ho 0 (xl 8 (kS 12 (.aa 14 (.ad 15 [] .done)))))else if id=17 then(Ho 0 (xl 8 (.aa 12 (.ad 13 [] (.ad 14 [] .done)))))else if id=23 then(Ho 0 (xl 8 (xl 13 (.aa 17 (.ad 12 [16,3] (.ad 18 [3] (.ad 19 [] (.ad 20 [] .done))))))))else .done) (λ_=>false)
def gQp:aN:=nX
def gQo:aN:=nX
def gQn:aN:=xr (λid=>if id=6 then(Ho 0 (xl 8 (kS 12 (.ad 14 [] .done))))else if id=7 then(Ho 0 (xl 8 (kS 12 (.ad 14 [] .done))))else .done) (λ_=>false)
def gQm:aN:=nX
def gQl:aN:=xr (λid=>if id=6 then(Ho 0 (.aa 8 .done))else .done) (λ_=>false)
def gQk:aN:=hKy (λs=>[13,5,8].contains s)
def gQj:aN:=xr (λid=>if id=16 then(hKT 0 (Ho 16 (kS 24 (.aa 26 .done))))else .done) (λs=>[14].contains s)
def gQe:aN:=xr (λid=>if id=11 then(Ho 0 (xl 8 (kS 12 (.aa 14 (.ad 15 [] (.aa 16 .done))))))else .done) (λ_=>false)
def dZq:aN:=nX
def fKW:aN:=nX
def fKV:aN:=nX
def fKU:aN:=nX
def fKT:aN:=xr (λid=>if id=10 then(xl 0 (kS 4 (.ad 6 [4] (.ad 7 [] (kS 8 (.ad 10 [] .done))))))else if id=11 then(Ho 0 (.ad 8 [] .done))else .done) (λs=>[7].contains s)
def fKS:aN:=nX
def fKR:aN:=hKy (λs=>[31].contains s)
def fKQ:aN:=nX
def fKP:aN:=xr (λid=>if id=14 then(kS 0 (.aa 3 (.ad 2 [3] (.aa 5 (.ad 4 [] (.ad 6 [] (.aa 7 (.ad 8 [] .done))))))))else .done) (λ_=>false)
def Oy:aN:=nX
def fKO:aN:=nX
def fKN:aN:=xr (λid=>if id=2 then(xl 0 (kS 4 (.ad 6 [4] (.ad 7 [] (kS 8 (.ad 10 [] .done))))))else .done) (λ_=>false)
def fKM:aN:=xr (λid=>if id=1 then(xl 0 (.aa 4 (.aa 9 (.ad 5 [] (kS 6 (.aa 8 (.ad 10 [] (.ad 11 [] .done))))))))else .done) (λ_=>false)
def fKL:aN:=nX
def fKK:aN:=xr (λid=>if id=2 then(Ho 0 (xl 8 (kS 12 (.ad 14 [] .done))))else if id=10 then(Ho 0 (xl 8 (kS 12 (.ad 14 [] .done))))else if id=11 then(kS 0 (.aa 2 (xl 4 (kS 8 (.ad 3 [7] (.ad 10 [] .done))))))else if id=13 then(kS 0 (kS 3 (xl 6 (.aa 10 (.ad 2 [9,4] (.aa 5 (.ad 11 [] .done)))))))else if id=14 then(xl 0 (kS 4 (.aa 6 (.ad 7 [4] (.ad 8 [4] (.ad 9 [] (kS 10 (.ad 12 [] .done))))))))else .done) (λ_=>false)
def fKJ:aN:=nX
def fKI:aN:=xr (λid=>if id=3 then(xl 0 (kS 4 (.aa 10 (.ad 6 [] (kS 7 (.aa 9 (.ad 11 [] (.ad 12 [] .done))))))))else if id=4 then(Ho 0 (kS 8 (.aa 10 (.ad 11 [] .done))))else .done) (λ_=>false)
def fKH:aN:=nX
def fKG:aN:=nX
def fKF:aN:=xr (λid=>if id=18 then(xl 0 (.ad 4 [2] (.ad 5 [2] (.ad 6 [] (kS 7 (.ad 9 [] .done))))))else if id=19 then(kS 0 (.aa 2 (.ad 3 [1] (.ad 4 [1] (.ad 5 [] (.aa 6 (.ad 7 [] .done)))))))else if id=30 then(kS 0 (.ad 2 [0] (.aa 3 (.ad 4 [] (.ad 5 [] .done)))))else .done) (λ_=>false)
def aQe:aN:=xr (λid=>if id=4 then(xl 0 (kS 4 (.aa 6 (.ad 7 [] (xl 8 (.aa 12 (.ad 13 [] (.ad 14 [] .done))))))))else if id=6 then(xl 0 (kS 4 (.aa 6 (.ad 7 [] (xl 8 (.aa 12 (.ad 13 [] (.ad 14 [] .done))))))))else if id=10 then(hKT 0 (.aa 16 .done))else .done) (λ_=>false)
def dZo:aN:=xr (λid=>if id=11 then(.aa 0 (xl 2 (.ad 1 [5] (.ad 6 [5] (.ad 7 [] .done)))))else if id=12 then(Ho 0 (.aa 8 (.ad 9 [5] (.ad 10 [5] (.ad 11 [] (kS 12 (.aa 14 (.ad 15 [] .done))))))))else .done) (λ_=>false)
def fKy:aN:=xr (λid=>if id=8 then(xl 0 (kS 4 (.aa 6 (.ad 7 [] (kS 8 (.aa 10 (.ad 11 [] (.ad 12 [] .done))))))))else .done) (λ_=>false)
def fKx:aN:=nX
def fKw:aN:=xr (λid=>if id=4 then(xl 0 (kS 4 (.aa 6 .done)))else if id=5 then(xl 0 (kS 4 (.aa 6 (.ad 7 [] .done))))else .done) (λ_=>false)
def dZn:aN:=nX
def dZm:aN:=hKy (λs=>[6].contains s)
def dZl:aN:=xr (λid=>if id=1 then(kS 0 (kS 3 (kS 6 (.aa 8 (kS 10 (.aa 12 (.ad 2 [12,8,4] (.ad 5 [12,8] (.ad 9 [12] (.ad 13 [] (kS 14 (.ad 16 [] .done))))))))))))else .done) (λ_=>false)
def fKk:aN:=xr (λid=>if id=5 then(kS 0 (.aa 2 (.ad 3 [0] (.ad 4 [] (kS 5 (.aa 7 (.ad 8 [] (.ad 9 [] .done))))))))else if id=10 then(xl 0 (kS 4 (.aa 6 (xl 8 (.ad 7 [9,2,0] (.ad 12 [0] (.ad 13 [] (.ad 14 [] (.ad 15 [] .done)))))))))else .done) (λ_=>false)
def fKj:aN:=nX
def dZj:aN:=xr (λid=>if id=6 then(Ho 0 (.aa 8 .done))else .done) (λ_=>false)
def fJX:aN:=hKy (λs=>[5].contains s)
def fJW:aN:=nX
def cKQ:aN:=nX
def cKP:aN:=nX
def cKO:aN:=nX
def cKN:aN:=xr (λid=>if id=14 then(xl 0 (kS 4 (.ad 6 [] (xl 7 (.ad 11 [] (.ad 12 [] .done))))))else .done) (λs=>[28].contains s)
def cKM:aN:=nX
def cKL:aN:=xr (λid=>if id=2 then(Ho 0 (.ad 8 [] (.ad 9 [] .done)))else .done) (λ_=>false)
def cKK:aN:=hKy (λs=>[6].contains s)
def cKJ:aN:=nX
def cKI:aN:=nX
def cKH:aN:=nX
def cKG:aN:=xr (λid=>if id=9 then(kS 0 (.aa 2 (.aa 4 (.aa 6 (.ad 3 [1] (.ad 5 [1] (.ad 7 [1] (.aa 8 (.ad 9 [1] (.ad 10 [] (.aa 11 (.ad 12 [] .done))))))))))))else .done) (λ_=>false)
def cKF:aN:=nX
def cKE:aN:=hKy (λs=>[2,3].contains s)
def cKD:aN:=xr (λid=>if id=4 then(xl 0 (.ad 4 [2] (.ad 5 [2] (.ad 6 [] (kS 7 (.ad 9 [] .done))))))else if id=5 then(kS 0 (.aa 2 (.ad 3 [1] (.ad 4 [1] (.ad 5 [] (.aa 6 (.ad 7 [] .done)))))))else .done) (λ_=>false)
def cKC:aN:=hKy (λs=>[2].contains s)
def cKB:aN:=nX
def cKA:aN:=nX
def NM:aN:=nX
def cKz:aN:=xr (λid=>if id=1 then(kS 0 (kS 4 (.ad 2 [5] (.ad 3 [5] (.ad 6 [] (.ad 7 [] .done))))))else if id=2 then(kS 0 (.aa 2 (kS 4 (.ad 3 [5] (.ad 6 [] (.ad 7 [] (.ad 8 [] (.ad 9 [] (.ad 10 [] .done)))))))))else .done) (λ_=>false)
def cKy:aN:=xr (λid=>if id=7 then(Ho 0 (.ad 8 [] .done))else if id=11 then(Ho 0 (.aa 13 (.ad 8 [] (xl 9 (.ad 14 [] (.ad 15 [] (.ad 16 [] .done)))))))else if id=14 then(Ho 0 (.ad 8 [] .done))else .done) (λ_=>false)
def XU:aN:=xr (λid=>if id=7 then(kS 0 (.aa 2 (kS 4 (.aa 6 (.ad 3 [] (.ad 7 [] (.ad 8 [] (.ad 9 [] (.ad 10 [] .done)))))))))else .done) (λ_=>false)
def cKx:aN:=xr (λid=>if id=2 then(xl 0 (.aa 4 (.aa 7 (.ad 5 [] (.ad 6 [] (.ad 8 [] (.ad 9 [] (.ad 10 [] .done))))))))else .done) (λs=>[3].contains s)
def cKw:aN:=xr (λid=>if id=1 then(Ho 0 (kS 8 (xl 11 (.aa 15 (.aa 17 (.ad 10 [14,3] (.aa 16 (.ad 18 [] .done))))))))else if id=2 then(xl 0 (kS 4 (.aa 6 (.ad 7 [] (.aa 8 (.ad 9 [] .done))))))else if id=3 then(xl 0 (kS 4 (.aa 6 (.ad 7 [5] (.ad 8 [] (kS 9 (.ad 11 [] (kS 12 (.ad 14 [] .done)))))))))else if id=4 then(xl 0 (kS 4 (.aa 6 (.ad 7 [5,3] (.ad 8 [] .done)))))else if id=5 then(xl 0 (kS 4 (.aa 6 (.aa 8 (kS 10 (.aa 12 (.ad 7 [11,8] (.aa 9 (.ad 13 [] .done)))))))))else .done) (λ_=>false)
def cKv:aN:=nX
def cKu:aN:=nX
def cKt:aN:=xr (λid=>if id=4 then(Ho 0 (kS 8 (.aa 10 (.ad 11 [] (.ad 12 [] (.ad 13 [] .done))))))else .done) (λ_=>false)
def cKs:aN:=nX
def cKr:aN:=nX
def cKq:aN:=hKy (λs=>[3].contains s)
def cKp:aN:=xr (λid=>if id=1 then(hKT 0 (.aa 16 .done))else .done) (λ_=>false)
def cKo:aN:=xr (λid=>if id=3 then(xl 0 (kS 4 (.aa 6 .done)))else if id=9 then(Ho 0 (xl 9 (.aa 13 (.ad 8 [13,10] (.aa 14 .done)))))else if id=11 then(Ho 0 (.aa 8 (.aa 13 (.ad 9 [] (kS 10 (.aa 12 (.ad 14 [] (.ad 15 [] .done))))))))else if id=15 then(.aa 0 (kS 2 (.ad 1 [3] (.aa 4 .done))))else if id=17 then(xl 0 (kS 4 (.ad 6 [4] (.ad 7 [4] (.ad 8 [] (kS 9 (.ad 11 [] .done)))))))else if id=18 then(Ho 0 (.aa 8 .done))else .done) (λ_=>false)
def cKn:aN:=xr (λid=>if id=1 then(Ho 0 (kS 8 (xl 11 (.aa 15 (.aa 17 (.ad 10 [14,3] (.aa 16 (.ad 18 [] .done))))))))else if id=3 then(Ho 0 (xl 8 (.aa 12 (.ad 13 [] .done))))else if id=7 then(xl 0 (kS 4 (.ad 6 [4] (.ad 7 [] (kS 8 (.ad 10 [] .done))))))else .done) (λ_=>false)
def cKj:aN:=hKy (λs=>[2,3].contains s)
def cKi:aN:=hKy (λs=>[3].contains s)
def cKh:aN:=nX
def cKg:aN:=xr (λid=>if id=11 then(Ho 0 (.ad 8 [] .done))else if id=15 then(Ho 0 (.ad 8 [] .done))else .done) (λ_=>false)
def cKf:aN:=nX
def cKc:aN:=nX
def cKb:aN:=nX
def cJZ:aN:=nX
def cJY:aN:=nX
def cJX:aN:=xr (λid=>if id=5 then(xl 0 (kS 4 (.ad 6 [] (.ad 7 [] .done))))else .done) (λ_=>false)
def XT:aN:=xr (λid=>if id=6 then(Ho 0 (.aa 8 .done))else .done) (λ_=>false)
def XS:aN:=nX
def cJN:aN:=nX
def XR:aN:=nX
def XQ:aN:=xr (λid=>if id=1 then(kS 0 (kS 3 (.ad 2 [4] (.aa 6 (.ad 5 [] (.ad 7 [] (.aa 8 (.ad 9 [] .done))))))))else .done) (λ_=>false)
def cJM:aN:=nX
def cJL:aN:=xr (λid=>if id=3 then(kS 0 (.ad 2 [0] (.ad 3 [0] (.aa 4 (.ad 5 [] .done)))))else .done) (λ_=>false)
def cJK:aN:=hKy (λs=>[2].contains s)
def cJJ:aN:=nX
def XP:aN:=nX
def cJF:aN:=nX
def cJE:aN:=nX
def cJD:aN:=nX
def cJC:aN:=nX
def cJB:aN:=nX
def XM:aN:=nX
def cJw:aN:=xr (λid=>if id=1 then(hKT 0 (kS 16 (.aa 18 .done)))else if id=6 then(Ho 0 (xl 8 (kS 12 (.aa 14 (.ad 15 [] .done)))))else .done) (λ_=>false)
def cJv:aN:=nX
def cJu:aN:=nX
def cJt:aN:=nX
def cJs:aN:=nX
def cJr:aN:=nX
def cJq:aN:=nX
def XL:aN:=nX
def cJp:aN:=nX
def cJo:aN:=nX
def cJn:aN:=xr (λid=>if id=1 then(kS 0 (kS 3 (.aa 7 (.ad 2 [4] (.ad 5 [] (.aa 6 (.ad 8 [] .done)))))))else .done) (λ_=>false)
def cJm:aN:=nX
def cJl:aN:=nX
def cJk:aN:=nX
def XK:aN:=xr (λid=>if id=0 then(xl 0 (.ad 4 [] (.ad 5 [] .done)))else .done) (λ_=>false)
def cJj:aN:=nX
def cJi:aN:=nX
def cJh:aN:=hKy (λs=>[3].contains s)
def cJg:aN:=xr (λid=>if id=5 then(Ho 0 (kS 8 (.aa 10 (xl 13 (.aa 17 (.ad 11 [17,14,0] (.ad 12 [17,14] (.ad 18 [] (.ad 19 [] (.ad 20 [] (.ad 21 [] .done)))))))))))else .done) (λ_=>false)
def cJf:aN:=hKy (λs=>[7].contains s)
def cJe:aN:=nX
def cJd:aN:=xr (λid=>if id=4 then(kS 1 (.ad 0 [] (.ad 3 [] (.ad 4 [] (.ad 5 [] .done)))))else .done) (λs=>[2,6].contains s)
def cJc:aN:=xr (λid=>if id=1 then(kS 0 (xl 4 (kS 8 (.fork (.ad 2 [9] (.fork (.ad 3 [9] (.ad 10 [] (.ad 11 [] (.ad 12 [] (.ad 13 [] (.ad 14 [] .done)))))) (.ad 10 [] (.ad 3 [] (.ad 11 [] (.ad 12 [] (.ad 13 [] (.ad 14 [] .done)))))))) (.ad 10 [1] (.ad 2 [] (.ad 3 [] (.ad 11 [] (.ad 12 [] (.ad 13 [] (.ad 14 [] .done)))))))))))else .done) (λs=>[1].contains s)
def cJb:aN:=nX
def cJa:aN:=nX
def cZZ:aN:=nX
def cZY:aN:=xr (λid=>if id=10 then(Ho 0 (.ad 8 [] (xl 9 (.ad 13 [] (.ad 14 [] (.ad 15 [] .done))))))else .done) (λ_=>false)
def cZX:aN:=nX
def cZW:aN:=xr (λid=>if id=1 then(xl 0 (kS 4 (.ad 6 [3,1] (.ad 7 [] (.ad 8 [] (.ad 9 [] .done))))))else .done) (λ_=>false)
def XJ:aN:=xr (λid=>if id=7 then(kS 0 (.aa 2 (kS 4 (.aa 6 (.ad 3 [] (.ad 7 [] (.ad 8 [] (.ad 9 [] .done))))))))else .done) (λ_=>false)
def cZV:aN:=nX
def cZT:aN:=nX
def cZS:aN:=nX
def cZR:aN:=hKy (λs=>[3].contains s)
def cZQ:aN:=nX
def cZP:aN:=nX
def cZO:aN:=nX
def cZN:aN:=nX
def cZM:aN:=nX
def cZJ:aN:=nX
def cZE:aN:=nX
def NL:aN:=nX
def cZz:aN:=nX
def cZy:aN:=nX
def cZx:aN:=xr (λid=>if id=3 then(kS 0 (.ad 2 [0] (hKT 3 (.ad 19 [] .done))))else .done) (λ_=>false)
def cZw:aN:=nX
def cZv:aN:=nX
def cZu:aN:=xr (λid=>if id=5 then(xl 0 (kS 4 (.ad 6 [] (.aa 7 .done))))else if id=8 then(Ho 0 (kS 8 (.aa 10 (.ad 11 [] (kS 12 (.ad 14 [] (.ad 15 [] .done)))))))else .done) (λ_=>false)
def cZt:aN:=xr (λid=>if id=1 then(kS 0 (.aa 3 (.ad 2 [3] (.ad 4 [] (.ad 5 [] .done)))))else .done) (λ_=>false)
def cZs:aN:=xr (λid=>if id=1 then(xl 0 (xl 5 (xl 10 (.ad 4 [13,11,8,6] (.ad 9 [13,11] (.ad 14 [] (.ad 15 [] (.ad 16 [] (.ad 17 [] .done)))))))))else .done) (λ_=>false)
def cZk:aN:=nX
def cZj:aN:=nX
def cZi:aN:=nX
def cZh:aN:=nX
def cZg:aN:=nX
def cZf:aN:=nX
def cZe:aN:=nX
def cZd:aN:=xr (λid=>if id=4 then(kS 0 (.aa 2 (.ad 3 [] (.ad 4 [] .done))))else if id=8 then(Ho 0 (xl 8 (kS 12 (.aa 14 (.ad 15 [] .done)))))else .done) (λs=>[2].contains s)
def HF:aN:=nX
def cZc:aN:=nX
def cZb:aN:=xr (λid=>if id=1 then(.aa 0 (.aa 2 (kS 4 (kS 7 (.ad 1 [8,5] (.ad 3 [8,5] (.ad 6 [8] (.ad 9 [] (.ad 10 [] .done)))))))))else .done) (λ_=>false)
def NK:aN:=xr (λid=>if id=4 then(xl 0 (kS 4 (.aa 6 (.ad 7 [] (kS 8 (.aa 10 (.ad 11 [] (.ad 12 [] .done))))))))else if id=9 then(xl 0 (kS 4 (.aa 6 (.ad 7 [] (.ad 8 [] .done)))))else .done) (λ_=>false)
def XH:aN:=nX
def cZa:aN:=xr (λid=>if id=5 then(Ho 0 (.aa 8 (.ad 9 [] (.ad 10 [] (.ad 11 [] (.ad 12 [] .done))))))else .done) (λ_=>false)
def cXZ:aN:=xr (λid=>if id=1 then(.aa 0 (.aa 2 (.aa 4 (.ad 1 [] (.ad 3 [] (.ad 5 [] (.ad 6 [] .done)))))))else .done) (λs=>[5].contains s)
def cXY:aN:=xr (λid=>if id=20 then(hKT 0 (Ho 16 (xl 24 (kS 28 (.aa 30 (.ad 31 [] .done))))))else if id=24 then(Ho 0 (.ad 8 [] (.ad 9 [] .done)))else if id=25 then(kS 0 (.aa 3 (kS 6 (xl 9 (.aa 14 (.aa 16 (kS 19 (xl 23 (.ad 2 [26,12] (.ad 4 [26,12] (.aa 5 (.aa 8 (.aa 13 (.ad 15 [26,12] (.ad 17 [26,12] (.aa 18 (kS 21 (kS 27 (.ad 29 [] .done)))))))))))))))))))else if id=31 then(kS 0 (.aa 2 (.aa 4 (.aa 7 (Ho 11 (kS 19 (kS 22 (.aa 24 (kS 26 (.aa 28 (.ad 3 [28,24,18,13,1] (.ad 5 [28,24,18,13,1] (.aa 6 (.ad 8 [28,24,18,13,1] (kS 9 (.aa 21 (.aa 25 (.aa 29 (.ad 30 [] .done)))))))))))))))))))else if id=32 then(kS 0 (kS 3 (kS 7 (hKT 11 (.aa 27 (.ad 2 [25,23,19,17,14,12,8,4] (.ad 5 [25,23,19,17,14,12,8] (.aa 6 (.ad 9 [25,23,19,17,14,12] (.aa 10 (.aa 28 (.ad 29 [] .done))))))))))))else if id=37 then(Ho 0 (.ad 8 [] .done))else if id=42 then(hKT 0 (Ho 16 (xl 24 (kS 28 (.aa 30 (.ad 31 [28,23,18] (.aa 32 (.ad 33 [28,23] (.aa 34 (.ad 35 [28] (.aa 36 (.ad 37 [] .done))))))))))))else .done) (λs=>[3,4,8,15,21].contains s)
def cXX:aN:=nX
def cXW:aN:=hKy (λs=>[2,3].contains s)
def cXV:aN:=xr (λid=>if id=1 then(kS 0 (kS 3 (.ad 2 [] (.ad 5 [] (.ad 6 [] .done)))))else if id=2 then(kS 0 (.aa 2 (kS 4 (.ad 3 [5] (.ad 6 [] (.ad 7 [] .done))))))else .done) (λs=>[1].contains s)
def cXT:aN:=nX
def cXS:aN:=nX
def cXR:aN:=nX
def cXQ:aN:=nX
def cXP:aN:=nX
def cXN:aN:=nX
def cXM:aN:=nX
def cXL:aN:=nX
def cXK:aN:=nX
def cXB:aN:=nX
def cXA:aN:=nX
def cXz:aN:=nX
def cXy:aN:=xr (λid=>if id=6 then(xl 0 (.ad 4 [] (.ad 5 [] .done)))else if id=7 then(kS 0 (.aa 2 (.aa 4 (.aa 7 (Ho 11 (kS 19 (kS 22 (.aa 24 (kS 26 (.aa 28 (.ad 3 [28,24,18,13,1] (.ad 5 [28,24,18,13,1] (.aa 6 (.ad 8 [28,24,18,13,1] (kS 9 (.aa 21 (.aa 25 (.aa 29 (.ad 30 [] .done)))))))))))))))))))else if id=8 then(.aa 0 (.aa 2 (.aa 5 (Ho 8 (xl 16 (kS 20 (.aa 22 (.ad 1 [20,18,14,10] (.ad 3 [20,18,14,10] (.aa 4 (.ad 6 [20,18,14,10] (.aa 7 (.aa 23 (.ad 24 [] .done))))))))))))))else if id=14 then(Ho 0 (.ad 8 [] .done))else .done) (λs=>[2,5,6,7].contains s)
def cXx:aN:=nX
def NJ:aN:=xr (λid=>if id=12 then(Ho 0 (xl 8 .done))else .done) (λ_=>false)
def XG:aN:=xr (λid=>if id=2 then(hKT 0 (.aa 16 (.ad 17 [] (kS 18 .done))))else .done) (λ_=>false)
def XF:aN:=xr (λid=>if id=2 then(hKT 0 (.aa 16 (.ad 17 [] (kS 18 .done))))else .done) (λ_=>false)
def cXw:aN:=nX
def cXv:aN:=nX
def cXu:aN:=nX
def cXt:aN:=nX
def cXp:aN:=xr (λid=>if id=5 then(hKT 0 (hKT 16 (kS 32 (.aa 34 (.ad 35 [] .done)))))else if id=10 then(Ho 0 (.ad 8 [] (.ad 9 [] .done)))else if id=11 then(xl 0 (kS 4 (.aa 7 (kS 10 (xl 14 (.aa 19 (.aa 21 (kS 24 (.ad 6 [17,4] (.ad 8 [17,4] (.aa 9 (kS 12 (.aa 18 (.ad 20 [17,4] (.ad 22 [17,4] (.aa 23 (kS 26 (.aa 28 (.ad 29 [] .done)))))))))))))))))))else .done) (λs=>[3].contains s)
def cXo:aN:=nX
def cXn:aN:=nX
def XD:aN:=xr (λid=>if id=8 then(Ho 0 (.aa 8 .done))else if id=9 then(Ho 0 (kS 8 (.ad 10 [] (.ad 11 [] .done))))else .done) (λ_=>false)
def cXm:aN:=nX
def cXl:aN:=nX
theorem aXm{c:Prop}[Decidable c]{a b:Ti}{q:Prop}(d:c->a=.none\/q)(e:¬c->b=.none\/q):(if c then a else b)=.none\/q:=by
 by_cases h:c
 .rw[if_pos h];exact d h
 rw[if_neg h];exact e h
theorem aQy(t:Nat):ty t=.none\/t∈OU:=by
 unfold ty;repeat' (first
  |exact .inl rfl
  | (refine aXm (λe=>?_) (λe=>?_)))
 all_goals (right;rw[e];decide)
theorem aQz:OU.map ty=OU.map (aXD Tryz.prog):=by kernel_rfl
theorem aJI:((List.range fJy).all λf=>ZO.contains f||(match Tryz.prog.funcs[f]? with
 |some fn=>fn.body.isSome&&decide (fn.name≠ "runtime.NumGoroutine")
 |none=>false))=true:=by kernel_rfl
theorem mixed:Tryz.prog.follows .mixedOrders=true:=by kernel_rfl
theorem aQG(pl:Nat->sX)(pb pn:Nat->Bool)(rs:List Nat)(kp:List PanicEntry->List SV->ab->Prop):eU Tryz.prog ⟨ty,ax,pl,pb,pn,rs,kp⟩where
 ty t:=by
  rcases aQy t with h|h
  .exact .inr h
  exact .inl (List.map_inj_left.1 aQz t h)
 fn f h:=by
  have h:ax f=true:=h;unfold ax at h;split at h
  .rename_i aI;have h1:=GD.1 aJI f (by simpa using aI);simp only[hKR]at h1;rcases h1 with h1|h1
   .rw[h1]at h;cases h
   split at h1
   .rename_i fn Et;simp only[wL,yr]at h1;exact⟨fn,Et,h1.1,h1.2⟩
   cases h1
  cases h
 mixed:=mixed
theorem ah(l:Nat->sX)(p:Nat->Bool):eU Tryz.prog ⟨ty,ax,l,p,λ_=>false,[],λ_ _ _=>False⟩:=aQG l p _ _ _
theorem cp(T:aN)(d:Tryz.prog.funcs[f]? =some fn)
 (hx:∀(A:Ar) (_:aV A),bXN A ⟨ty,ax,T.aw,T.aP,λ_=>false,[],λ_ _ _=>False⟩ (λ_=>Tryz.prog) c fn.ntmps fn.results.toList args h R) (b:fn.body=some c:=by exact rfl) (o:ef ⟨ty,ax,T.aw,T.aP,λ_=>false,[],λ_ _ _=>False⟩ c=true:=by kernel_rfl):Ca (λ_=>Tryz.prog) f args h R:=by
 obtain⟨A,a⟩:=Ar.ex;exact af A (ah T.aw T.aP) d b o (hx A a)
theorem dH(T:aN)(A:Ar)[aV A](a:Tryz.prog.funcs[f]? =some fn)
 (hx:bXN A ⟨ty,ax,T.aw,T.aP,λ_=>false,[],λ_ _ _=>False⟩ (λ_=>Tryz.prog) c fn.ntmps fn.results.toList args h R) (b:fn.body=some c:=by exact rfl) (o:ef ⟨ty,ax,T.aw,T.aP,λ_=>false,[],λ_ _ _=>False⟩ c=true:=by kernel_rfl):Ca (λ_=>Tryz.prog) f args h R:=af A (ah T.aw T.aP) a b o hx
end Go.S
