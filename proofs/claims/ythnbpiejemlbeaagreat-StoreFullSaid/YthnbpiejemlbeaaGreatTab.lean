import Derived.Test.YthnbpiejemlbeaaGreatProg
import Derived.Test.YthnbpiejemlbeaaGreatSxB
set_option linter.all false
namespace Go.S
open Go.Sx Go.Proofs
variable {c:Code}{fn:Func}{f:FuncId}{args:List Value}{R:Value->ab->Prop}{h:ab}
def y1:Ti:=⟨false,false,1,8,[.nilFunc],.fn⟩
def y2:Ti:=⟨false,false,1,8,[.int .i64 0],(.int .i64)⟩
def y3:Ti:=⟨false,false,1,8,[.int .i64 0],(.int .i64)⟩
def y4:Ti:=⟨false,false,1,1,[.bool false],.bool⟩
def y5:Ti:=⟨false,false,1,1,[.int .u8 0],(.int .u8)⟩
def y9:Ti:=⟨false,false,1,16,[.string ⟨#[]⟩],.str⟩
def hQr:Ti:=⟨false,false,1,4,[.int .i32 0],(.int .i32)⟩
def hQq:Ti:=⟨false,false,1,8,[.pointer none],(.ptr 41)⟩
def hQp:Ti:=⟨false,false,1,24,[.slice none 0 0],(.oh 61)⟩
def hQo:Ti:=⟨false,false,1,24,[.slice none 0 0],(.oh 79)⟩
def hQn:Ti:=⟨false,false,1,24,[.slice none 0 0],(.oh 253)⟩
def hQm:Ti:=⟨false,true,2,48,[.slice none 0 0,.slice none 0 0],(.ck [(28,0),(28,1)])⟩
def hQl:Ti:=⟨false,true,4,96,[.slice none 0 0,.slice none 0 0,.slice none 0 0,.slice none 0 0],(.ck [(26,0),(27,1),(30,2)])⟩
def hQk:Ti:=⟨false,false,1,8,[.int .i64 0],(.int .i64)⟩
def hQj:Ti:=⟨false,false,1,8,[.pointer none],(.ptr 94)⟩
def hQi:Ti:=⟨false,false,1,8,[.pointer none],(.ptr 231)⟩
def hQh:Ti:=⟨false,false,1,8,[.pointer none],(.ptr 158)⟩
def hQg:Ti:=⟨false,false,1,8,[.pointer none],(.ptr 197)⟩
def hQf:Ti:=⟨false,true,4,32,[.pointer none,.pointer none,.pointer none,.pointer none],(.ck [(36,0),(37,1),(38,2),(39,3)])⟩
def hQe:Ti:=⟨true,true,3,32,[.int .i64 0,.int .i64 0,.string ⟨#[]⟩],(.ck [(3,0),(3,1),(9,2)])⟩
def hQd:Ti:=⟨false,false,1,24,[.slice none 0 0],(.oh 45)⟩
def hQc:Ti:=⟨false,false,1,24,[.slice none 0 0],(.oh 172)⟩
def hQb:Ti:=⟨false,false,1,24,[.slice none 0 0],(.oh 224)⟩
def hQa:Ti:=⟨false,false,1,24,[.slice none 0 0],(.oh 47)⟩
def gKZ:Ti:=⟨false,true,4,80,[.int .i64 0,.slice none 0 0,.slice none 0 0,.slice none 0 0],(.ck [(3,0),(47,1),(48,2),(49,3)])⟩
def gKY:Ti:=⟨false,false,1,24,[.slice none 0 0],(.oh 202)⟩
def gKX:Ti:=⟨false,true,4,56,[.string ⟨#[]⟩,.slice none 0 0,.int .i64 0,.bool false],(.ck [(9,0),(56,1),(3,2),(4,3)])⟩
def gKW:Ti:=⟨false,false,1,24,[.slice none 0 0],(.oh 46)⟩
def gKV:Ti:=⟨false,true,5,80,[.string ⟨#[]⟩,.slice none 0 0,.int .i64 0,.bool false,.slice none 0 0],(.ck [(58,0),(59,4)])⟩
def gKU:Ti:=⟨false,false,1,24,[.slice none 0 0],(.oh 73)⟩
def gKT:Ti:=⟨false,false,1,24,[.slice none 0 0],(.oh 3)⟩
def gKS:Ti:=⟨true,true,5,40,[.int .i64 0,.int .i64 0,.int .i64 0,.int .i64 0,.bool false],(.ck [(3,0),(3,1),(3,2),(3,3),(4,4)])⟩
def gKR:Ti:=⟨false,true,8,80,[.int .i64 0,.int .i64 0,.int .i64 0,.int .i64 0,.int .i64 0,.int .i64 0,.bool false,.slice none 0 0],(.ck [(3,0),(3,1),(71,2),(68,7)])⟩
def gKQ:Ti:=⟨false,false,1,24,[.slice none 0 0],(.oh 59)⟩
def gKP:Ti:=⟨false,false,1,24,[.slice none 0 0],(.oh 161)⟩
def gKO:Ti:=⟨false,false,1,24,[.slice none 0 0],(.oh 183)⟩
def gKN:Ti:=⟨false,true,3,56,[.int .i64 0,.slice none 0 0,.slice none 0 0],(.ck [(3,0),(76,1),(77,2)])⟩
def gKM:Ti:=⟨true,true,0,0,[],(.ck [])⟩
def gKL:Ti:=⟨true,true,0,0,[],(.ck [])⟩
def gKK:Ti:=⟨false,true,1,8,[.int .i64 0],(.ck [(82,0),(83,0),(2,0)])⟩
def gKJ:Ti:=⟨false,false,1,4,[.int .u32 0],(.int .u32)⟩
def gKI:Ti:=⟨false,true,1,4,[.int .u32 0],(.ck [(82,0),(86,0)])⟩
def gKH:Ti:=⟨false,true,2,16,[.int .i64 0,.int .u32 0],(.ck [(85,0),(88,1)])⟩
def gKG:Ti:=⟨false,false,1,24,[.slice none 0 0],(.oh 211)⟩
def gKF:Ti:=⟨false,false,1,24,[.slice none 0 0],(.oh 213)⟩
def gKE:Ti:=⟨false,true,5,88,[.int .i64 0,.int .u32 0,.slice none 0 0,.slice none 0 0,.slice none 0 0],(.ck [(90,0),(91,2),(91,3),(92,4)])⟩
def gKD:Ti:=⟨false,false,1,24,[.slice none 0 0],(.oh 102)⟩
def eJQ:Ti:=⟨false,true,32,32,(List.replicate 32 (.int .u8 0)),(.arr 32 5)⟩
def eJP:Ti:=⟨false,true,33,40,[.int .i64 0,.int .u8 0,.int .u8 0,.int .u8 0,.int .u8 0,.int .u8 0,.int .u8 0,.int .u8 0,.int .u8 0,.int .u8 0,.int .u8 0,.int .u8 0,.int .u8 0,.int .u8 0,.int .u8 0,.int .u8 0,.int .u8 0,.int .u8 0,.int .u8 0,.int .u8 0,.int .u8 0,.int .u8 0,.int .u8 0,.int .u8 0,.int .u8 0,.int .u8 0,.int .u8 0,.int .u8 0,.int .u8 0,.int .u8 0,.int .u8 0,.int .u8 0,.int .u8 0],(.ck [(3,0),(100,1)])⟩
def eJO:Ti:=⟨false,false,1,24,[.slice none 0 0],(.oh 113)⟩
def eJN:Ti:=⟨false,true,4,80,[.int .i64 0,.slice none 0 0,.slice none 0 0,.slice none 0 0],(.ck [(3,0),(47,1),(107,2),(49,3)])⟩
def eJM:Ti:=⟨false,true,66,80,[.int .i64 0,.int .u8 0,.int .u8 0,.int .u8 0,.int .u8 0,.int .u8 0,.int .u8 0,.int .u8 0,.int .u8 0,.int .u8 0,.int .u8 0,.int .u8 0,.int .u8 0,.int .u8 0,.int .u8 0,.int .u8 0,.int .u8 0,.int .u8 0,.int .u8 0,.int .u8 0,.int .u8 0,.int .u8 0,.int .u8 0,.int .u8 0,.int .u8 0,.int .u8 0,.int .u8 0,.int .u8 0,.int .u8 0,.int .u8 0,.int .u8 0,.int .u8 0,.int .u8 0,.int .u8 0,.int .u8 0,.int .u8 0,.int .u8 0,.int .u8 0,.int .u8 0,.int .u8 0,.int .u8 0,.int .u8 0,.int .u8 0,.int .u8 0,.int .u8 0,.int .u8 0,.int .u8 0,.int .u8 0,.int .u8 0,.int .u8 0,.int .u8 0,.int .u8 0,.int .u8 0,.int .u8 0,.int .u8 0,.int .u8 0,.int .u8 0,.int .u8 0,.int .u8 0,.int .u8 0,.int .u8 0,.int .u8 0,.int .u8 0,.int .u8 0,.int .u8 0,.int .i64 0],(.ck [(3,0),(100,1),(100,33),(3,65)])⟩
def eJL:Ti:=⟨false,false,1,24,[.slice none 0 0],(.oh 132)⟩
def eJK:Ti:=⟨false,false,1,24,[.slice none 0 0],(.oh 337)⟩
def eJJ:Ti:=⟨false,false,1,24,[.slice none 0 0],(.oh 422)⟩
def eJI:Ti:=⟨false,true,2,48,[.slice none 0 0,.slice none 0 0],(.ck [(124,0),(124,1)])⟩
def eJH:Ti:=⟨false,true,4,96,[.slice none 0 0,.slice none 0 0,.slice none 0 0,.slice none 0 0],(.ck [(122,0),(123,1),(126,2)])⟩
def eJG:Ti:=⟨false,true,5,80,[.string ⟨#[]⟩,.slice none 0 0,.int .i64 0,.bool false,.slice none 0 0],(.ck [(58,0),(59,4)])⟩
def eJF:Ti:=⟨false,false,1,8,[.pointer none],(.ptr 148)⟩
def eJE:Ti:=⟨true,true,0,0,[],(.ck [])⟩
def eJD:Ti:=⟨true,true,2,8,[.int .i32 0,.int .u32 0],(.ck [(21,0),(86,1)])⟩
def eJC:Ti:=⟨false,true,2,8,[.int .i32 0,.int .u32 0],(.ck [(140,0),(142,0)])⟩
def eJB:Ti:=⟨false,true,3,12,[.int .u32 0,.int .i32 0,.int .u32 0],(.ck [(140,0),(88,0),(144,1)])⟩
def eJA:Ti:=⟨false,true,8,120,[.slice none 0 0,.slice none 0 0,.slice none 0 0,.slice none 0 0,.int .u32 0,.int .i32 0,.int .u32 0,.int .i64 0],(.ck [(32,0),(146,4),(33,7)])⟩
def eJz:Ti:=⟨false,true,8,176,[.slice none 0 0,.slice none 0 0,.slice none 0 0,.slice none 0 0,.int .i64 0,.slice none 0 0,.slice none 0 0,.slice none 0 0],(.ck [(32,0),(51,4)])⟩
def eJy:Ti:=⟨false,false,1,8,[.pointer none],(.ptr 150)⟩
def eJx:Ti:=⟨false,false,1,8,[.pointer none],(.ptr 294)⟩
def eJw:Ti:=⟨false,true,0,0,[],(.arr 0 151)⟩
def eJv:Ti:=⟨false,false,1,8,[.pointer none],.fQc⟩
def eJu:Ti:=⟨false,true,1,8,[.pointer none],(.ck [(153,0),(82,0),(154,0)])⟩
def eJt:Ti:=⟨false,true,2,16,[.pointer none,.pointer none],(.ck [(152,0),(156,1)])⟩
def eJs:Ti:=⟨false,true,3,48,[.string ⟨#[]⟩,.int .i64 0,.slice none 0 0],(.ck [(9,0),(3,1),(46,2)])⟩
def eJr:Ti:=⟨false,false,1,8,[.nilFunc],.fn⟩
def eJq:Ti:=⟨false,false,1,8,[.nilFunc],.fn⟩
def eJp:Ti:=⟨false,true,2,32,[.int .i64 0,.slice none 0 0],(.ck [(3,0),(76,1)])⟩
def eJo:Ti:=⟨false,false,1,24,[.slice none 0 0],(.oh 5)⟩
def eJn:Ti:=⟨false,false,1,8,[.nilFunc],.fn⟩
def eJm:Ti:=⟨false,false,1,8,[.nilFunc],.fn⟩
def eJl:Ti:=⟨true,true,2,24,[.string ⟨#[]⟩,.int .i64 0],(.ck [(9,0),(3,1)])⟩
def eJk:Ti:=⟨false,false,1,8,[.nilFunc],.fn⟩
def eJj:Ti:=⟨false,false,1,8,[.nilFunc],.fn⟩
def eJi:Ti:=⟨false,false,1,24,[.slice none 0 0],(.oh 176)⟩
def eJh:Ti:=⟨false,false,1,8,[.pointer none],(.ptr 353)⟩
def eJg:Ti:=⟨false,true,9,184,[.pointer none,.slice none 0 0,.slice none 0 0,.slice none 0 0,.slice none 0 0,.int .i64 0,.slice none 0 0,.slice none 0 0,.slice none 0 0],(.ck [(195,0),(128,1),(109,5)])⟩
def eJf:Ti:=⟨false,false,1,24,[.slice none 0 0],(.oh 9)⟩
def eJe:Ti:=⟨true,true,3,32,[.string ⟨#[]⟩,.int .i64 0,.bool false],(.ck [(9,0),(3,1),(4,2)])⟩
def eJd:Ti:=⟨false,false,1,8,[.pointer none],(.ptr 90)⟩
def eJc:Ti:=⟨false,true,64,64,(List.replicate 64 (.int .u8 0)),(.arr 64 5)⟩
def eJb:Ti:=⟨false,true,64,64,(List.replicate 64 (.int .u8 0)),(.arr 64 5)⟩
def eJa:Ti:=⟨false,true,65,72,[.int .i64 0,.int .u8 0,.int .u8 0,.int .u8 0,.int .u8 0,.int .u8 0,.int .u8 0,.int .u8 0,.int .u8 0,.int .u8 0,.int .u8 0,.int .u8 0,.int .u8 0,.int .u8 0,.int .u8 0,.int .u8 0,.int .u8 0,.int .u8 0,.int .u8 0,.int .u8 0,.int .u8 0,.int .u8 0,.int .u8 0,.int .u8 0,.int .u8 0,.int .u8 0,.int .u8 0,.int .u8 0,.int .u8 0,.int .u8 0,.int .u8 0,.int .u8 0,.int .u8 0,.int .u8 0,.int .u8 0,.int .u8 0,.int .u8 0,.int .u8 0,.int .u8 0,.int .u8 0,.int .u8 0,.int .u8 0,.int .u8 0,.int .u8 0,.int .u8 0,.int .u8 0,.int .u8 0,.int .u8 0,.int .u8 0,.int .u8 0,.int .u8 0,.int .u8 0,.int .u8 0,.int .u8 0,.int .u8 0,.int .u8 0,.int .u8 0,.int .u8 0,.int .u8 0,.int .u8 0,.int .u8 0,.int .u8 0,.int .u8 0,.int .u8 0,.int .u8 0],(.ck [(3,0),(211,1)])⟩
def eZZ:Ti:=⟨false,true,66,80,[.int .i64 0,.int .u8 0,.int .u8 0,.int .u8 0,.int .u8 0,.int .u8 0,.int .u8 0,.int .u8 0,.int .u8 0,.int .u8 0,.int .u8 0,.int .u8 0,.int .u8 0,.int .u8 0,.int .u8 0,.int .u8 0,.int .u8 0,.int .u8 0,.int .u8 0,.int .u8 0,.int .u8 0,.int .u8 0,.int .u8 0,.int .u8 0,.int .u8 0,.int .u8 0,.int .u8 0,.int .u8 0,.int .u8 0,.int .u8 0,.int .u8 0,.int .u8 0,.int .u8 0,.int .u8 0,.int .u8 0,.int .u8 0,.int .u8 0,.int .u8 0,.int .u8 0,.int .u8 0,.int .u8 0,.int .u8 0,.int .u8 0,.int .u8 0,.int .u8 0,.int .u8 0,.int .u8 0,.int .u8 0,.int .u8 0,.int .u8 0,.int .u8 0,.int .u8 0,.int .u8 0,.int .u8 0,.int .u8 0,.int .u8 0,.int .u8 0,.int .u8 0,.int .u8 0,.int .u8 0,.int .u8 0,.int .u8 0,.int .u8 0,.int .u8 0,.int .u8 0,.int .i64 0],(.ck [(3,0),(100,1),(100,33),(3,65)])⟩
def eZY:Ti:=⟨false,false,1,24,[.slice none 0 0],(.oh 210)⟩
def eZX:Ti:=⟨false,false,1,24,[.slice none 0 0],(.oh 326)⟩
def eZW:Ti:=⟨false,true,5,88,[.slice none 0 0,.slice none 0 0,.slice none 0 0,.int .i64 0,.bool false],(.ck [(228,0),(228,1),(229,2),(3,3),(4,4)])⟩
def eZV:Ti:=⟨false,false,1,24,[.slice none 0 0],(.oh 100)⟩
def eZU:Ti:=⟨false,true,75,216,[.int .i64 0,.string ⟨#[]⟩,.slice none 0 0,.int .i64 0,.bool false,.string ⟨#[]⟩,.int .i64 0,.slice none 0 0,.slice none 0 0,.int .u8 0,.int .u8 0,.int .u8 0,.int .u8 0,.int .u8 0,.int .u8 0,.int .u8 0,.int .u8 0,.int .u8 0,.int .u8 0,.int .u8 0,.int .u8 0,.int .u8 0,.int .u8 0,.int .u8 0,.int .u8 0,.int .u8 0,.int .u8 0,.int .u8 0,.int .u8 0,.int .u8 0,.int .u8 0,.int .u8 0,.int .u8 0,.int .u8 0,.int .u8 0,.int .u8 0,.int .u8 0,.int .u8 0,.int .u8 0,.int .u8 0,.int .u8 0,.bool false,.int .i64 0,.int .u8 0,.int .u8 0,.int .u8 0,.int .u8 0,.int .u8 0,.int .u8 0,.int .u8 0,.int .u8 0,.int .u8 0,.int .u8 0,.int .u8 0,.int .u8 0,.int .u8 0,.int .u8 0,.int .u8 0,.int .u8 0,.int .u8 0,.int .u8 0,.int .u8 0,.int .u8 0,.int .u8 0,.int .u8 0,.int .u8 0,.int .u8 0,.int .u8 0,.int .u8 0,.int .u8 0,.int .u8 0,.int .u8 0,.int .u8 0,.int .u8 0,.int .u8 0],(.ck [(3,0),(58,1),(9,5),(172,6),(234,8),(100,9),(4,41),(3,42),(100,43)])⟩
def eZT:Ti:=⟨false,false,1,8,[.nilFunc],.fn⟩
def eZS:Ti:=⟨false,false,1,8,[.nilFunc],.fn⟩
def eZR:Ti:=⟨false,false,1,8,[.nilFunc],.fn⟩
def eZQ:Ti:=⟨true,true,3,32,[.int .i64 0,.string ⟨#[]⟩,.bool false],(.ck [(3,0),(9,1),(4,2)])⟩
def eZP:Ti:=⟨false,false,1,8,[.pointer none],(.ptr 156)⟩
def eZO:Ti:=⟨false,false,1,8,[.pointer none],(.ptr 154)⟩
def eZN:Ti:=⟨false,true,5,80,[.string ⟨#[]⟩,.slice none 0 0,.int .i64 0,.bool false,.slice none 0 0],(.ck [(61,0)])⟩
def eZM:Ti:=⟨false,false,1,8,[.nilFunc],.fn⟩
def eZL:Ti:=⟨false,false,1,8,[.nilFunc],.fn⟩
def eZK:Ti:=⟨false,false,1,8,[.pointer none],(.ptr 277)⟩
def eZJ:Ti:=⟨false,true,7,96,[.int .i64 0,.slice none 0 0,.slice none 0 0,.slice none 0 0,.int .u32 0,.int .i32 0,.int .u32 0],(.ck [(51,0),(146,4)])⟩
def eZI:Ti:=⟨false,false,1,8,[.nilFunc],.fn⟩
def eZH:Ti:=⟨false,true,4,48,[.int .i64 0,.int .i64 0,.slice none 0 0,.bool false],(.ck [(3,0),(3,1),(189,2),(4,3)])⟩
def eZG:Ti:=⟨false,true,3,24,[.pointer none,.int .i64 0,.int .i64 0],(.ck [(36,0),(85,1),(85,2)])⟩
def eZF:Ti:=⟨false,false,1,8,[.pointer none],(.ptr 299)⟩
def eZE:Ti:=⟨false,false,1,8,[.pointer none],(.ptr 411)⟩
def eZD:Ti:=⟨false,true,5,24,[.pointer none,.int .u32 0,.int .i32 0,.int .u32 0,.bool false],(.ck [(296,0),(146,1),(4,4)])⟩
def eZC:Ti:=⟨false,true,65,72,[.int .i64 0,.int .u8 0,.int .u8 0,.int .u8 0,.int .u8 0,.int .u8 0,.int .u8 0,.int .u8 0,.int .u8 0,.int .u8 0,.int .u8 0,.int .u8 0,.int .u8 0,.int .u8 0,.int .u8 0,.int .u8 0,.int .u8 0,.int .u8 0,.int .u8 0,.int .u8 0,.int .u8 0,.int .u8 0,.int .u8 0,.int .u8 0,.int .u8 0,.int .u8 0,.int .u8 0,.int .u8 0,.int .u8 0,.int .u8 0,.int .u8 0,.int .u8 0,.int .u8 0,.int .u8 0,.int .u8 0,.int .u8 0,.int .u8 0,.int .u8 0,.int .u8 0,.int .u8 0,.int .u8 0,.int .u8 0,.int .u8 0,.int .u8 0,.int .u8 0,.int .u8 0,.int .u8 0,.int .u8 0,.int .u8 0,.int .u8 0,.int .u8 0,.int .u8 0,.int .u8 0,.int .u8 0,.int .u8 0,.int .u8 0,.int .u8 0,.int .u8 0,.int .u8 0,.int .u8 0,.int .u8 0,.int .u8 0,.int .u8 0,.int .u8 0,.int .u8 0],(.ck [(3,0),(210,1)])⟩
def eZB:Ti:=⟨false,false,1,8,[.int .u64 0],(.int .u64)⟩
def eZA:Ti:=⟨false,false,1,24,[.slice none 0 0],(.oh 340)⟩
def eZz:Ti:=⟨false,true,3,56,[.int .i64 0,.slice none 0 0,.slice none 0 0],(.ck [(3,0),(76,1),(335,2)])⟩
def eZy:Ti:=⟨true,true,2,24,[.string ⟨#[]⟩,.int .i64 0],(.ck [(9,0),(3,1)])⟩
def eZx:Ti:=⟨false,false,1,8,[.pointer none],(.ptr 85)⟩
def eZw:Ti:=⟨false,false,1,8,[.pointer none],(.ptr 2)⟩
def eZv:Ti:=⟨false,false,1,8,[.pointer none],(.ptr 88)⟩
def eZu:Ti:=⟨false,false,1,8,[.pointer none],(.ptr 86)⟩
def eZt:Ti:=⟨false,true,3,24,[.pointer none,.int .i64 0,.int .i64 0],(.ck [(37,0),(3,1),(3,2)])⟩
def eZs:Ti:=⟨false,true,64,256,(List.replicate 64 (.int .u32 0)),(.arr 64 86)⟩
def eZr:Ti:=⟨false,true,8,32,[.int .u32 0,.int .u32 0,.int .u32 0,.int .u32 0,.int .u32 0,.int .u32 0,.int .u32 0,.int .u32 0],(.arr 8 86)⟩
def eZq:Ti:=⟨false,false,1,8,[.int .u64 0],(.int .u64)⟩
def eZp:Ti:=⟨false,false,1,8,[.pointer none],(.ptr 370)⟩
def eZo:Ti:=⟨false,true,3,40,[.slice none 0 0,.int .i64 0,.int .i64 0],(.ck [(176,0),(3,1),(3,2)])⟩
def eZn:Ti:=⟨false,false,1,8,[.nilFunc],.fn⟩
def eZm:Ti:=⟨false,false,1,8,[.nilFunc],.fn⟩
def eZl:Ti:=⟨false,false,1,8,[.pointer none],(.ptr 146)⟩
def eZk:Ti:=⟨false,false,1,8,[.pointer none],(.ptr 407)⟩
def eZj:Ti:=⟨false,true,6,56,[.pointer none,.int .u32 0,.int .i32 0,.int .u32 0,.slice none 0 0,.int .i64 0],(.ck [(36,0),(146,1),(176,4),(33,5)])⟩
def eZi:Ti:=⟨false,true,5,48,[.slice none 0 0,.int .i64 0,.int .u32 0,.int .i32 0,.int .u32 0],(.ck [(176,0),(33,1),(146,2)])⟩
def eZh:Ti:=⟨true,true,3,32,[.int .i64 0,.string ⟨#[]⟩,.bool false],(.ck [(3,0),(9,1),(4,2)])⟩
def eZg:Ti:=⟨false,false,1,8,[.nilFunc],.fn⟩
def eZf:Ti:=⟨false,false,1,8,[.map none],(.mp 9 4)⟩
def eZe:Ti:=⟨false,true,4,24,[.int .u32 0,.int .i32 0,.int .u32 0,.map none],(.ck [(146,0),(453,3)])⟩
def eZd:Ti:=⟨false,false,1,8,[.nilFunc],.fn⟩
def eZc:Ti:=⟨false,false,1,8,[.pointer none],(.ptr 504)⟩
def eZb:Ti:=⟨false,false,1,8,[.map none],(.mp 3 4)⟩
def eZa:Ti:=⟨false,false,1,8,[.nilFunc],.fn⟩
def eXZ:Ti:=⟨false,false,1,8,[.pointer none],(.ptr 493)⟩
def eXY:Ti:=⟨false,true,36,72,[.slice none 0 0,.int .u32 0,.int .i32 0,.int .u32 0,.int .u8 0,.int .u8 0,.int .u8 0,.int .u8 0,.int .u8 0,.int .u8 0,.int .u8 0,.int .u8 0,.int .u8 0,.int .u8 0,.int .u8 0,.int .u8 0,.int .u8 0,.int .u8 0,.int .u8 0,.int .u8 0,.int .u8 0,.int .u8 0,.int .u8 0,.int .u8 0,.int .u8 0,.int .u8 0,.int .u8 0,.int .u8 0,.int .u8 0,.int .u8 0,.int .u8 0,.int .u8 0,.int .u8 0,.int .u8 0,.int .u8 0,.int .u8 0],(.ck [(176,0),(146,1),(100,4)])⟩
def eXX:Ti:=⟨false,false,1,8,[.pointer none],(.ptr 455)⟩
def eXW:Ti:=⟨false,false,1,8,[.nilFunc],.fn⟩
def eXV:Ti:=⟨false,false,1,24,[.slice none 0 0],(.oh 28)⟩
def eXU:Ti:=⟨false,false,1,8,[.map none],(.mp 3 68)⟩
def eXT:Ti:=⟨false,true,2,16,[.map none,.int .i64 0],(.ck [(502,0),(85,1)])⟩
def eXS:Ti:=⟨false,false,1,8,[.pointer none],(.ptr 144)⟩
def eXR:Ti:=⟨false,true,1,8,[.pointer none],(.ck [(296,0)])⟩
def eXQ:Ti:=⟨false,true,8,32,[.int .u32 0,.int .u32 0,.int .u32 0,.int .u32 0,.int .u32 0,.int .u32 0,.int .u32 0,.int .u32 0],(.arr 8 86)⟩
def eXP:Ti:=⟨false,false,1,8,[.pointer none],(.ptr 142)⟩
def eXO:Ti:=⟨false,false,1,8,[.pointer none],(.ptr 21)⟩
def ty(t:Nat):Ti:=if t<179 then(if t<83 then(if t<45 then(if t<27 then(if t<5 then(if t<3 then(if t<2 then(if t=1 then y1 else .none)else(if t=2 then y2 else .none))else(if t<4 then(if t=3 then y3 else .none)else(if t=4 then y4 else .none)))else(if t<21 then(if t<9 then(if t=5 then y5 else .none)else(if t=9 then y9 else .none))else(if t<23 then(if t=21 then hQr else .none)else(if t<26 then(if t=23 then hQq else .none)else(if t=26 then hQp else .none)))))else(if t<36 then(if t<30 then(if t<28 then(if t=27 then hQo else .none)else(if t=28 then hQn else .none))else(if t<32 then(if t=30 then hQm else .none)else(if t<33 then(if t=32 then hQl else .none)else(if t=33 then hQk else .none))))else(if t<38 then(if t<37 then(if t=36 then hQj else .none)else(if t=37 then hQi else .none))else(if t<39 then(if t=38 then hQh else .none)else(if t<41 then(if t=39 then hQg else .none)else(if t=41 then hQf else .none))))))else(if t<61 then(if t<49 then(if t<47 then(if t<46 then(if t=45 then hQe else .none)else(if t=46 then hQd else .none))else(if t<48 then(if t=47 then hQc else .none)else(if t=48 then hQb else .none)))else(if t<56 then(if t<51 then(if t=49 then hQa else .none)else(if t=51 then gKZ else .none))else(if t<58 then(if t=56 then gKY else .none)else(if t<59 then(if t=58 then gKX else .none)else(if t=59 then gKW else .none)))))else(if t<75 then(if t<68 then(if t<66 then(if t=61 then gKV else .none)else(if t=66 then gKU else .none))else(if t<71 then(if t=68 then gKT else .none)else(if t<73 then(if t=71 then gKS else .none)else(if t=73 then gKR else .none))))else(if t<77 then(if t<76 then(if t=75 then gKQ else .none)else(if t=76 then gKP else .none))else(if t<79 then(if t=77 then gKO else .none)else(if t<82 then(if t=79 then gKN else .none)else(if t=82 then gKM else .none)))))))else(if t<132 then(if t<100 then(if t<90 then(if t<86 then(if t<85 then(if t=83 then gKL else .none)else(if t=85 then gKK else .none))else(if t<88 then(if t=86 then gKJ else .none)else(if t=88 then gKI else .none)))else(if t<92 then(if t<91 then(if t=90 then gKH else .none)else(if t=91 then gKG else .none))else(if t<94 then(if t=92 then gKF else .none)else(if t<98 then(if t=94 then gKE else .none)else(if t=98 then gKD else .none)))))else(if t<122 then(if t<107 then(if t<102 then(if t=100 then eJQ else .none)else(if t=102 then eJP else .none))else(if t<109 then(if t=107 then eJO else .none)else(if t<113 then(if t=109 then eJN else .none)else(if t=113 then eJM else .none))))else(if t<124 then(if t<123 then(if t=122 then eJL else .none)else(if t=123 then eJK else .none))else(if t<126 then(if t=124 then eJJ else .none)else(if t<128 then(if t=126 then eJI else .none)else(if t=128 then eJH else .none))))))else(if t<153 then(if t<146 then(if t<140 then(if t<134 then(if t=132 then eJG else .none)else(if t=134 then eJF else .none))else(if t<142 then(if t=140 then eJE else .none)else(if t<144 then(if t=142 then eJD else .none)else(if t=144 then eJC else .none))))else(if t<150 then(if t<148 then(if t=146 then eJB else .none)else(if t=148 then eJA else .none))else(if t<151 then(if t=150 then eJz else .none)else(if t<152 then(if t=151 then eJy else .none)else(if t=152 then eJx else .none)))))else(if t<164 then(if t<156 then(if t<154 then(if t=153 then eJw else .none)else(if t=154 then eJv else .none))else(if t<158 then(if t=156 then eJu else .none)else(if t<161 then(if t=158 then eJt else .none)else(if t=161 then eJs else .none))))else(if t<172 then(if t<165 then(if t=164 then eJr else .none)else(if t=165 then eJq else .none))else(if t<176 then(if t=172 then eJp else .none)else(if t<178 then(if t=176 then eJo else .none)else(if t=178 then eJn else .none))))))))else(if t<335 then(if t<246 then(if t<208 then(if t<189 then(if t<184 then(if t<183 then(if t=179 then eJm else .none)else(if t=183 then eJl else .none))else(if t<186 then(if t=184 then eJk else .none)else(if t=186 then eJj else .none)))else(if t<197 then(if t<195 then(if t=189 then eJi else .none)else(if t=195 then eJh else .none))else(if t<200 then(if t=197 then eJg else .none)else(if t<202 then(if t=200 then eJf else .none)else(if t=202 then eJe else .none)))))else(if t<228 then(if t<211 then(if t<210 then(if t=208 then eJd else .none)else(if t=210 then eJc else .none))else(if t<213 then(if t=211 then eJb else .none)else(if t<224 then(if t=213 then eJa else .none)else(if t=224 then eZZ else .none))))else(if t<231 then(if t<229 then(if t=228 then eZY else .none)else(if t=229 then eZX else .none))else(if t<234 then(if t=231 then eZW else .none)else(if t<236 then(if t=234 then eZV else .none)else(if t=236 then eZU else .none))))))else(if t<275 then(if t<256 then(if t<250 then(if t<248 then(if t=246 then eZT else .none)else(if t=248 then eZS else .none))else(if t<253 then(if t=250 then eZR else .none)else(if t=253 then eZQ else .none)))else(if t<260 then(if t<258 then(if t=256 then eZP else .none)else(if t=258 then eZO else .none))else(if t<269 then(if t=260 then eZN else .none)else(if t<274 then(if t=269 then eZM else .none)else(if t=274 then eZL else .none)))))else(if t<295 then(if t<278 then(if t<277 then(if t=275 then eZK else .none)else(if t=277 then eZJ else .none))else(if t<290 then(if t=278 then eZI else .none)else(if t<294 then(if t=290 then eZH else .none)else(if t=294 then eZG else .none))))else(if t<299 then(if t<296 then(if t=295 then eZF else .none)else(if t=296 then eZE else .none))else(if t<326 then(if t=299 then eZD else .none)else(if t<327 then(if t=326 then eZC else .none)else(if t=327 then eZB else .none)))))))else(if t<422 then(if t<357 then(if t<344 then(if t<340 then(if t<337 then(if t=335 then eZA else .none)else(if t=337 then eZz else .none))else(if t<342 then(if t=340 then eZy else .none)else(if t=342 then eZx else .none)))else(if t<347 then(if t<345 then(if t=344 then eZw else .none)else(if t=345 then eZv else .none))else(if t<353 then(if t=347 then eZu else .none)else(if t<355 then(if t=353 then eZt else .none)else(if t=355 then eZs else .none)))))else(if t<393 then(if t<364 then(if t<358 then(if t=357 then eZr else .none)else(if t=358 then eZq else .none))else(if t<370 then(if t=364 then eZp else .none)else(if t<387 then(if t=370 then eZo else .none)else(if t=387 then eZn else .none))))else(if t<405 then(if t<397 then(if t=393 then eZm else .none)else(if t=397 then eZl else .none))else(if t<407 then(if t=405 then eZk else .none)else(if t<411 then(if t=407 then eZj else .none)else(if t=411 then eZi else .none))))))else(if t<496 then(if t<468 then(if t<453 then(if t<440 then(if t=422 then eZh else .none)else(if t=440 then eZg else .none))else(if t<455 then(if t=453 then eZf else .none)else(if t<465 then(if t=455 then eZe else .none)else(if t=465 then eZd else .none))))else(if t<490 then(if t<470 then(if t=468 then eZc else .none)else(if t=470 then eZb else .none))else(if t<491 then(if t=490 then eZa else .none)else(if t<493 then(if t=491 then eXZ else .none)else(if t=493 then eXY else .none)))))else(if t<505 then(if t<501 then(if t<498 then(if t=496 then eXX else .none)else(if t=498 then eXW else .none))else(if t<502 then(if t=501 then eXV else .none)else(if t<504 then(if t=502 then eXU else .none)else(if t=504 then eXT else .none))))else(if t<509 then(if t<507 then(if t=505 then eXS else .none)else(if t=507 then eXR else .none))else(if t<513 then(if t=509 then eXQ else .none)else(if t<515 then(if t=513 then eXP else .none)else(if t=515 then eXO else .none))))))))
def Rr:List Nat:=[1,2,3,4,5,9,21,23,26,27,28,30,32,33,36,37,38,39,41,45,46,47,48,49,51,56,58,59,61,66,68,71,73,75,76,77,79,82,83,85,86,88,90,91,92,94,98,100,102,107,109,113,122,123,124,126,128,132,134,140,142,144,146,148,150,151,152,153,154,156,158,161,164,165,172,176,178,179,183,184,186,189,195,197,200,202,208,210,211,213,224,228,229,231,234,236,246,248,250,253,256,258,260,269,274,275,277,278,290,294,295,296,299,326,327,335,337,340,342,344,345,347,353,355,357,358,364,370,387,393,397,405,407,411,422,440,453,455,465,468,470,490,491,493,496,498,501,502,504,505,507,509,513,515]
def aZy:List Nat:=[0,1,103,109,120,182,183,306,324,329,332,362,373,374,375,376,378,379,384,385,386,387,388,389,390,392,393,394,395,396,397,398,399,400,401,402,403,404,405,406,407,408]
def gZV:Nat:=409
def aw(f:Nat):Bool:=if f<gZV then !aZy.contains f else false
def cE(p:Nat->uC)(b:Nat->Bool):aL:=⟨ty,aw,p,b,λ_=>false,[],λ_ _ _=>False⟩
def ee(b:Nat->Bool):aL:=cE (λ_=>.done) b
def cg:aL:=ee (λ_=>false)
def cy(a:Nat)(p:uC):uC:=.aa a (.aa (a+1) p)
def cB(a:Nat)(p:uC):uC:=cy a (cy (a+2) p)
def ed(a:Nat)(p:uC):uC:=cB a (cB (a+4) p)
def eA(a:Nat)(p:uC):uC:=ed a (ed (a+8) p)
def T3:aL:=cE (λid=>if id=8 then(cB 0 (cy 4 (.ad 6 [0] (cy 7 (.ad 9 [0] (.ad 10 [] (cy 11 (.aa 13 (.ad 14 [] (.ad 15 [] .done))))))))))else if id=13 then(cB 0 (.aa 4 (.ad 5 [] .done)))else if id=17 then(ed 0 (cy 8 (.aa 11 (.ad 10 [11] (.ad 12 [] (cB 13 (cy 17 (.aa 19 (.aa 22 (.ad 20 [] (.aa 21 (cB 23 (cy 27 (.aa 29 .done))))))))))))))else if id=20 then(cB 0 (cB 5 (.ad 4 [8] (.ad 9 [] (.ad 10 [] (.aa 11 (.ad 12 [] .done)))))))else .done) (λ_=>false)
def T9:aL:=cg
def gKx:aL:=cE (λid=>if id=10 then(ed 0 (cy 8 (.ad 10 [] .done)))else if id=11 then(ed 0 (cy 8 (.ad 10 [] .done)))else .done) (λs=>[8].contains s)
def gKw:aL:=cg
def gKv:aL:=cg
def gKu:aL:=cg
def eXK:aL:=ee (λs=>[7].contains s)
def eXJ:aL:=cg
def gKt:aL:=cE (λid=>if id=1 then(cB 0 (cy 5 (.aa 7 (.ad 4 [] (.ad 8 [] (cB 9 (.ad 13 [] (.ad 14 [] .done))))))))else .done) (λs=>[17].contains s)
def gKs:aL:=cE (λid=>if id=6 then(ed 0 (.aa 8 (.ad 9 [] (.ad 10 [] .done))))else if id=9 then(cy 0 (.aa 2 (cy 4 (.aa 6 (.ad 3 [5,4] (.ad 7 [] (.ad 8 [] .done)))))))else if id=12 then(ed 0 (.aa 8 (.ad 9 [] (.ad 10 [] .done))))else .done) (λs=>[45,84].contains s)
def gKr:aL:=ee (λs=>[5].contains s)
def eXI:aL:=ee (λs=>[22,38].contains s)
def gKq:aL:=cg
def gKo:aL:=cE (λid=>if id=3 then(.aa 0 (.aa 2 (.fork (.ad 1 [] (.ad 3 [] (.aa 4 (.ad 5 [] (.ad 6 [] (.ad 7 [] .done)))))) (.ad 3 [] (.ad 1 [] (.aa 4 (.ad 5 [] (.ad 6 [] (.ad 7 [] .done)))))))))else .done) (λs=>[15].contains s)
def gKn:aL:=cE (λid=>if id=3 then(.aa 0 (.aa 2 (.fork (.ad 1 [] (.ad 3 [] (.aa 4 (.ad 5 [] (.ad 6 [] (.ad 7 [] .done)))))) (.ad 3 [] (.ad 1 [] (.aa 4 (.ad 5 [] (.ad 6 [] (.ad 7 [] .done)))))))))else .done) (λs=>[15].contains s)
def gKm:aL:=ee (λs=>[22].contains s)
def gKl:aL:=cE (λid=>if id=5 then(cy 0 (.ad 2 [0] (.ad 3 [] (cy 4 (.aa 6 (.ad 7 [] .done))))))else if id=6 then(cy 0 (.ad 2 [0] (.ad 3 [] (cy 4 (.aa 6 (.ad 7 [] .done))))))else if id=7 then(cy 0 (.ad 2 [1] (.ad 3 [] .done)))else .done) (λ_=>false)
def gKk:aL:=cE (λid=>if id=2 then(cB 0 (.aa 4 (.aa 9 (.ad 5 [] (cy 6 (.aa 8 (.ad 10 [] (.ad 11 [] .done))))))))else if id=5 then(cy 0 (cB 3 (cy 7 (.ad 2 [7,3] (.ad 9 [] (.ad 10 [] .done))))))else .done) (λ_=>false)
def gKj:aL:=cE (λid=>if id=1 then(cB 0 (.aa 4 (.aa 9 (.ad 5 [] (cy 6 (.aa 8 (.ad 10 [] (.ad 11 [] .done))))))))else if id=3 then(cB 0 (.aa 4 (.ad 5 [3] (.ad 6 [] (.ad 7 [] .done)))))else .done) (λ_=>false)
def eXH:aL:=ee (λs=>[6].contains s)
def gKi:aL:=cg
def eXG:aL:=cE (λid=>if id=1 then(cy 0 (cy 3 (cy 6 (.aa 8 (cy 10 (.aa 12 (.ad 2 [12,8,4] (.ad 5 [12,8] (.ad 9 [12] (.ad 13 [] (cy 14 (.ad 16 [] .done))))))))))))else .done) (λ_=>false)
def gKh:aL:=cE (λid=>if id=11 then(ed 0 (.ad 8 [] .done))else if id=15 then(ed 0 (.ad 8 [] .done))else .done) (λ_=>false)
def gKg:aL:=cE (λid=>if id=1 then(cy 0 (.aa 2 (cy 4 (.aa 6 (.aa 9 (.ad 3 [6] (.ad 7 [] (.aa 8 (.ad 10 [] .done)))))))))else if id=2 then(cy 0 (cy 3 (.aa 6 (.ad 2 [6,4] (.ad 5 [6] (.aa 7 (.ad 8 [] .done)))))))else .done) (λ_=>false)
def gKf:aL:=cg
def gKe:aL:=cE (λid=>if id=2 then(cy 0 (.aa 4 (.ad 2 [0] (.aa 3 (.ad 5 [] (.ad 6 [] (.ad 7 [] .done)))))))else .done) (λ_=>false)
def gKd:aL:=cE (λid=>if id=5 then(cy 0 (.aa 2 (.ad 3 [0] (.ad 4 [] (cy 5 (.aa 7 (.ad 8 [] (.ad 9 [] .done))))))))else if id=10 then(cB 0 (cy 4 (.aa 6 (cB 8 (.ad 7 [9,2,0] (.ad 12 [0] (.ad 13 [] (.ad 14 [] (.ad 15 [] .done)))))))))else .done) (λ_=>false)
def gKc:aL:=cg
def aZQ:aL:=cE (λid=>if id=13 then(ed 0 (.ad 8 [] .done))else if id=14 then(cB 0 (cy 4 (.ad 6 [4] (.ad 7 [] (cy 8 (.ad 10 [] .done))))))else .done) (λ_=>false)
def eXF:aL:=cE (λid=>if id=1 then(cB 0 (cy 5 (cy 8 (.ad 4 [9,6,1] (.ad 7 [9,1] (.ad 10 [1] (.aa 11 (.ad 12 [] .done))))))))else .done) (λ_=>false)
def gKb:aL:=cg
def gKa:aL:=cg
def gJZ:aL:=cE (λid=>if id=4 then(cB 0 (cy 4 (.aa 6 (.ad 7 [5] (.ad 8 [] (cy 9 (.aa 11 (.ad 12 [] .done))))))))else if id=7 then(cB 0 (.aa 5 (.ad 4 [5] (.ad 6 [] (.ad 7 [] (.ad 8 [] .done))))))else .done) (λs=>[11].contains s)
def eXE:aL:=ee (λs=>[3,5,6].contains s)
def gJY:aL:=cE (λid=>if id=1 then(cy 1 (cy 4 (.aa 6 (.ad 0 [5,2] (.ad 3 [5] (.ad 7 [] (.ad 8 [] .done)))))))else if id=5 then(cy 0 (.aa 2 (cy 4 (cy 7 (.ad 3 [8,5] (.ad 6 [8] (.ad 9 [] (.ad 10 [] (.ad 11 [] (.ad 12 [] .done))))))))))else if id=14 then(.aa 0 (cy 2 (.ad 1 [] (.ad 4 [] (.ad 5 [] .done)))))else .done) (λs=>[8,9,10].contains s)
def gJX:aL:=cg
def eXD:aL:=cE (λid=>if id=6 then(ed 0 (.aa 8 .done))else .done) (λ_=>false)
def gJW:aL:=cg
def gJV:aL:=cg
def gJU:aL:=cE (λid=>if id=6 then(ed 0 (.aa 8 .done))else .done) (λ_=>false)
def gJT:aL:=cg
def gJS:aL:=cg
def gJR:aL:=cg
def gJQ:aL:=cg
def gJP:aL:=cE (λid=>if id=7 then(cB 0 (.aa 4 (.ad 5 [] .done)))else if id=8 then(cB 0 (.aa 4 (.ad 5 [] .done)))else if id=9 then(cy 0 (.aa 2 (.ad 3 [] (.ad 4 [] (.ad 5 [] .done)))))else .done) (λs=>[22].contains s)
def eXC:aL:=ee (λs=>[9].contains s)
def gJL:aL:=cg
def gJK:aL:=cg
def eXB:aL:=cE (λid=>if id=0 then(cB 0 (.ad 4 [] (.ad 5 [] .done)))else .done) (λ_=>false)
def gJJ:aL:=ee (λs=>[14].contains s)
def gJI:aL:=cE (λid=>if id=4 then(ed 0 (cB 8 (.aa 12 (.ad 13 [6,1] (.aa 14 (.ad 15 [] (.ad 16 [] .done)))))))else .done) (λ_=>false)
def gJH:aL:=cE (λid=>if id=3 then(ed 0 (cB 8 (cy 12 (.aa 14 (.ad 15 [] .done)))))else if id=17 then(ed 0 (cB 8 (.aa 12 (.ad 13 [] (.ad 14 [] .done)))))else if id=23 then(ed 0 (cB 8 (cB 13 (.aa 17 (.ad 12 [16,3] (.ad 18 [3] (.ad 19 [] (.ad 20 [] .done))))))))else .done) (λ_=>false)
def gJE:aL:=ee (λs=>[30].contains s)
def eXA:aL:=cE (λid=>if id=11 then(.aa 0 (cB 2 (.ad 1 [5] (.ad 6 [5] (.ad 7 [] .done)))))else if id=12 then(ed 0 (.aa 8 (.ad 9 [5] (.ad 10 [5] (.ad 11 [] (cy 12 (.aa 14 (.ad 15 [] .done))))))))else .done) (λ_=>false)
def gJC:aL:=cg
def gJB:aL:=cE (λid=>if id=11 then(ed 0 (cB 8 (cy 12 (.aa 14 (.ad 15 [] (.aa 16 .done))))))else .done) (λ_=>false)
def gJA:aL:=cE (λid=>if id=1 then(.aa 1 (.ad 0 [1] (.ad 2 [] (.ad 3 [] (.ad 4 [] (.ad 5 [] .done))))))else .done) (λ_=>false)
def gJz:aL:=cE (λid=>if id=1 then(.aa 1 (.ad 0 [1] (.ad 2 [] (.ad 3 [] (.ad 4 [] (.ad 5 [] .done))))))else .done) (λ_=>false)
def gJy:aL:=cg
def gJx:aL:=cg
def gJw:aL:=cg
def gJv:aL:=cg
def aQK:aL:=cg
def aQJ:aL:=cE (λid=>if id=1 then(cy 0 (cy 3 (.ad 2 [4] (.aa 6 (.ad 5 [] (.ad 7 [] (.aa 8 (.ad 9 [] .done))))))))else .done) (λ_=>false)
def aQI:aL:=cg
def dJX:aL:=cg
def dJW:aL:=cg
def dJV:aL:=cg
def dJU:aL:=cE (λid=>if id=1 then(cy 0 (cy 3 (.ad 2 [4] (.aa 6 (.ad 5 [] (.ad 7 [] (.aa 8 (.ad 9 [] .done))))))))else .done) (λ_=>false)
def dJT:aL:=cg
def dJS:aL:=cE (λid=>if id=3 then(cy 0 (.ad 2 [0] (.ad 3 [0] (.aa 4 (.ad 5 [] .done)))))else .done) (λ_=>false)
def dJR:aL:=ee (λs=>[2].contains s)
def dJQ:aL:=cg
def aQH:aL:=cg
def aQG:aL:=cE (λid=>if id=9 then(cB 0 (cy 4 (.ad 6 [] (cy 7 (.aa 9 (.ad 10 [] (.ad 11 [] .done)))))))else .done) (λs=>[4,5,6,7].contains s)
def dJP:aL:=cg
def aQF:aL:=cg
def aQE:aL:=cg
def aQD:aL:=cg
def dJO:aL:=cg
def dJN:aL:=cg
def aQC:aL:=cg
def dJM:aL:=cE (λid=>if id=1 then(cB 0 (cy 5 (cy 8 (.aa 10 (.aa 13 (.fork (.ad 4 [9,6,1] (.fork (.ad 7 [9,1] (.ad 11 [1] (.aa 12 (.ad 14 [] .done)))) (.ad 11 [6,1] (.ad 7 [1] (.aa 12 (.ad 14 [] .done)))))) (.ad 11 [6,3,1] (.ad 4 [6,1] (.ad 7 [1] (.aa 12 (.ad 14 [] .done)))))))))))else if id=5 then(cB 0 (.ad 4 [1] (.aa 5 (.ad 6 [] .done))))else .done) (λ_=>false)
def dJL:aL:=cg
def AD:aL:=cg
def dJK:aL:=cE (λid=>if id=6 then(ed 0 (cy 9 (.aa 12 (.ad 8 [4] (.aa 11 (.ad 13 [] .done))))))else if id=10 then(cB 0 (cy 4 (.aa 6 (.ad 7 [5] (.ad 8 [] (cy 9 (.aa 11 (.ad 12 [] .done))))))))else if id=11 then(ed 0 (cy 8 (.aa 10 (.ad 11 [5] (.ad 12 [] (cy 13 (.aa 15 (.ad 16 [] .done))))))))else .done) (λ_=>false)
def dJJ:aL:=cg
def dJI:aL:=cg
def dJH:aL:=cg
def dJG:aL:=cg
def dJF:aL:=cg
def dJE:aL:=cg
def dJD:aL:=cE (λid=>if id=1 then(cy 0 (cy 4 (.ad 2 [5] (.ad 3 [5] (.ad 6 [] (.ad 7 [] .done))))))else if id=2 then(cy 0 (.aa 2 (cy 4 (.ad 3 [5] (.ad 6 [] (.ad 7 [] (.ad 8 [] (.ad 9 [] (.ad 10 [] .done)))))))))else .done) (λ_=>false)
def dJC:aL:=cg
def dJB:aL:=cg
def dJA:aL:=cg
def aQB:aL:=cg
def dJz:aL:=cE (λid=>if id=6 then(ed 0 (.aa 8 .done))else .done) (λ_=>false)
def dJy:aL:=cE (λid=>if id=14 then(cB 0 (cy 4 (.ad 6 [] (cB 7 (.ad 11 [] (.ad 12 [] .done))))))else .done) (λs=>[28].contains s)
def dJx:aL:=ee (λs=>[6].contains s)
def dJw:aL:=cg
def aQA:aL:=cE (λid=>if id=2 then(cB 0 (.aa 4 (.aa 9 (.ad 5 [] (cy 6 (.aa 8 (.ad 10 [] (.ad 11 [] .done))))))))else .done) (λ_=>false)
def aQz:aL:=cE (λid=>if id=0 then(ed 0 (.aa 13 (.ad 8 [3] (.ad 9 [] (cy 10 (.aa 12 (.ad 14 [] (.ad 15 [] .done))))))))else .done) (λ_=>false)
def dJv:aL:=cE (λid=>if id=0 then(cB 0 (.aa 4 (cB 6 (.aa 10 (.ad 5 [10] (.aa 11 (.ad 12 [] .done)))))))else if id=8 then(ed 0 (.ad 8 [] (.ad 9 [] .done)))else if id=9 then(cB 0 (cy 4 (.ad 6 [] (.ad 7 [] .done))))else .done) (λ_=>false)
def dJu:aL:=cg
def dJt:aL:=cg
def aQw:aL:=cg
def dJa:aL:=cg
def dZZ:aL:=cg
def dZY:aL:=cg
def dZX:aL:=cg
def fKO:aL:=cE (λid=>if id=2 then(ed 0 (cB 8 (.aa 12 (.ad 13 [] .done))))else if id=8 then(cB 0 (cy 4 (.ad 6 [] (cB 7 (.ad 11 [] .done)))))else if id=9 then(eA 0 (.aa 16 .done))else if id=10 then(ed 0 (cB 8 (.aa 12 (.ad 13 [] (cB 14 (.aa 18 (.ad 19 [] .done)))))))else if id=11 then(eA 0 (.ad 16 [] .done))else .done) (λ_=>false)
def dZR:aL:=cg
def dZQ:aL:=cE (λid=>if id=1 then(cy 0 (cB 4 (cy 8 (.fork (.ad 2 [9] (.fork (.ad 3 [9] (.ad 10 [] (.ad 11 [] (.ad 12 [] (.ad 13 [] (.ad 14 [] .done)))))) (.ad 10 [] (.ad 3 [] (.ad 11 [] (.ad 12 [] (.ad 13 [] (.ad 14 [] .done)))))))) (.ad 10 [1] (.ad 2 [] (.ad 3 [] (.ad 11 [] (.ad 12 [] (.ad 13 [] (.ad 14 [] .done)))))))))))else .done) (λs=>[1].contains s)
def dZP:aL:=cg
def dZO:aL:=cE (λid=>if id=10 then(cB 0 (cy 4 (.ad 6 [4] (.ad 7 [] (cy 8 (.ad 10 [] .done))))))else if id=11 then(ed 0 (.ad 8 [] .done))else .done) (λs=>[7].contains s)
def dZN:aL:=cg
def dZM:aL:=cg
def dZI:aL:=cg
def dZH:aL:=cg
def dZG:aL:=ee (λs=>[5].contains s)
def dZB:aL:=cg
def dZv:aL:=ee (λs=>[2,3].contains s)
def dZu:aL:=ee (λs=>[3].contains s)
def dZt:aL:=cE (λid=>if id=11 then(ed 0 (.ad 8 [] .done))else if id=15 then(ed 0 (.ad 8 [] .done))else .done) (λ_=>false)
def dZs:aL:=cE (λid=>if id=8 then(cB 0 (cy 4 (.aa 6 (.ad 7 [] (cy 8 (.aa 10 (.ad 11 [] (.ad 12 [] .done))))))))else .done) (λ_=>false)
def dZr:aL:=cg
def dZq:aL:=cE (λid=>if id=4 then(cB 0 (cy 4 (.aa 6 .done)))else if id=5 then(cB 0 (cy 4 (.aa 6 (.ad 7 [] .done))))else .done) (λ_=>false)
def dZp:aL:=cE (λid=>if id=1 then(cy 0 (cy 3 (.aa 5 (.ad 2 [4] (.ad 6 [] (.ad 7 [] .done))))))else if id=5 then(cy 0 (.aa 2 (cy 4 (cy 7 (.ad 3 [8,5] (.ad 6 [8] (.ad 9 [] (.ad 10 [] (.ad 11 [] .done)))))))))else if id=7 then(cy 0 (.aa 2 (cy 4 (.ad 3 [5] (.ad 6 [] (.ad 7 [] (.ad 8 [] .done)))))))else .done) (λ_=>false)
def dZo:aL:=cg
def dZn:aL:=cE (λid=>if id=1 then(cy 0 (cy 3 (.aa 5 (.ad 2 [4] (.ad 6 [] (.ad 7 [] .done))))))else if id=5 then(cB 0 (cy 4 (.aa 6 (cB 8 (cy 12 (cB 15 (cy 19 (.ad 7 [20,16,13,9] (.ad 14 [20,16] (.ad 21 [] (.ad 22 [] (.ad 23 [] .done))))))))))))else if id=6 then(cy 0 (.aa 2 (cy 4 (.ad 3 [5] (.ad 6 [] (.ad 7 [] (.ad 8 [] .done)))))))else .done) (λ_=>false)
def aQt:aL:=cg
def dZm:aL:=cg
def Qd:aL:=cg
def dZl:aL:=cg
def dZk:aL:=cg
def dZj:aL:=cg
def dZi:aL:=cg
def dZh:aL:=cE (λid=>if id=3 then(cy 0 (.ad 2 [0] (eA 3 (.ad 19 [] .done))))else .done) (λ_=>false)
def dZg:aL:=cg
def dZf:aL:=cg
def dZe:aL:=cE (λid=>if id=5 then(cB 0 (cy 4 (.ad 6 [] (.aa 7 .done))))else if id=8 then(ed 0 (cy 8 (.aa 10 (.ad 11 [] (cy 12 (.ad 14 [] (.ad 15 [] .done)))))))else .done) (λ_=>false)
def dZd:aL:=cE (λid=>if id=1 then(cy 0 (.aa 3 (.ad 2 [3] (.ad 4 [] (.ad 5 [] .done)))))else .done) (λ_=>false)
def dZc:aL:=cE (λid=>if id=1 then(cB 0 (cB 5 (cB 10 (.ad 4 [13,11,8,6] (.ad 9 [13,11] (.ad 14 [] (.ad 15 [] (.ad 16 [] (.ad 17 [] .done)))))))))else .done) (λ_=>false)
def dZb:aL:=cE (λid=>if id=1 then(ed 0 (cy 8 (.ad 10 [0] (cB 11 (cy 15 (.ad 17 [] (.ad 18 [] .done)))))))else .done) (λ_=>false)
def dZa:aL:=cE (λid=>if id=2 then(eA 0 (cy 16 (.aa 18 (.ad 19 [] .done))))else if id=4 then(cy 0 (cB 3 (.aa 9 (.ad 2 [6,4] (.ad 7 [] (.aa 8 (.ad 10 [] .done)))))))else .done) (λ_=>false)
def dXZ:aL:=cg
def dXY:aL:=cg
def dXX:aL:=cg
def dXW:aL:=cg
def aQs:aL:=cg
def dXV:aL:=cE (λid=>if id=1 then(cB 0 (.ad 4 [1] (.aa 5 (.ad 6 [] .done))))else .done) (λ_=>false)
def dXU:aL:=cE (λid=>if id=5 then(cB 0 (cy 4 (.ad 6 [] (.ad 7 [] .done))))else .done) (λ_=>false)
def dXT:aL:=cE (λid=>if id=1 then(cy 0 (.aa 2 (cy 4 (.aa 6 (.ad 3 [5] (.ad 7 [] (.aa 8 (.ad 9 [] .done))))))))else .done) (λ_=>false)
def dXS:aL:=cg
def dXR:aL:=cg
def Qc:aL:=cg
def dXQ:aL:=cE (λid=>if id=2 then(cB 0 (.aa 4 (.aa 7 (.ad 5 [] (.ad 6 [] (.ad 8 [] (.ad 9 [] (.ad 10 [] .done))))))))else .done) (λs=>[3].contains s)
def aQr:aL:=cE (λid=>if id=7 then(cy 0 (.aa 2 (cy 4 (.aa 6 (.ad 3 [] (.ad 7 [] (.ad 8 [] (.ad 9 [] (.ad 10 [] .done)))))))))else .done) (λ_=>false)
def dXP:aL:=cg
def dXO:aL:=cE (λid=>if id=11 then(ed 0 (.ad 8 [] (.ad 9 [] .done)))else .done) (λ_=>false)
def dXN:aL:=cg
def dXM:aL:=cE (λid=>if id=6 then(cB 0 (cy 4 (.aa 6 (.ad 7 [] .done))))else if id=7 then(ed 0 (.ad 8 [4] (.ad 9 [] (cy 10 (.ad 12 [] .done)))))else .done) (λs=>[8].contains s)
def dXL:aL:=cg
def dXK:aL:=cE (λid=>if id=3 then(ed 0 (.ad 8 [] .done))else .done) (λ_=>false)
def aQq:aL:=cg
def dXJ:aL:=cg
def dXI:aL:=cg
def dXH:aL:=cg
def dXG:aL:=cE (λid=>if id=6 then(ed 0 (.aa 8 .done))else .done) (λ_=>false)
def dXF:aL:=cg
def dXE:aL:=cE (λid=>if id=2 then(ed 0 (.ad 8 [] (.ad 9 [] .done)))else .done) (λ_=>false)
def dXD:aL:=cg
def dXC:aL:=cg
def dXB:aL:=cE (λid=>if id=9 then(cy 0 (.aa 2 (.aa 4 (.aa 6 (.ad 3 [1] (.ad 5 [1] (.ad 7 [1] (.aa 8 (.ad 9 [1] (.ad 10 [] (.aa 11 (.ad 12 [] .done))))))))))))else .done) (λ_=>false)
def dXA:aL:=cg
def dXz:aL:=ee (λs=>[2].contains s)
def dXy:aL:=cE (λid=>if id=1 then(cB 0 (cB 5 (.aa 11 (.ad 4 [8] (.ad 9 [] (.aa 10 (.ad 12 [] .done)))))))else .done) (λ_=>false)
def dXx:aL:=cE (λid=>if id=4 then(cB 0 (.aa 4 (cB 6 (.ad 5 [8] (.aa 10 (.ad 11 [] .done))))))else .done) (λs=>[3].contains s)
def dXw:aL:=cE (λid=>if id=7 then(cB 0 (cy 4 (.ad 6 [1] (cB 7 (.ad 11 [] (.ad 12 [] .done))))))else if id=9 then(ed 0 (.aa 13 (.ad 8 [] (cB 9 (.ad 14 [] (.ad 15 [] (.ad 16 [] .done)))))))else .done) (λ_=>false)
def dXv:aL:=cg
def dXn:aL:=cE (λid=>if id=5 then(ed 0 (cy 8 (.aa 10 (cB 13 (.aa 17 (.ad 11 [17,14,0] (.ad 12 [17,14] (.ad 18 [] (.ad 19 [] (.ad 20 [] (.ad 21 [] .done)))))))))))else .done) (λ_=>false)
def dXk:aL:=cg
def dXg:aL:=cE (λid=>if id=5 then(cB 0 (cy 4 (.ad 6 [] (.ad 7 [] .done))))else .done) (λ_=>false)
def dXe:aL:=cg
def dXc:aL:=ee (λs=>[1].contains s)
def dXb:aL:=ee (λs=>[7].contains s)
def dQX:aL:=cg
def dQW:aL:=cg
def dQV:aL:=cg
def dQU:aL:=cE (λid=>if id=1 then(eA 0 (cy 16 (.aa 18 .done)))else if id=6 then(ed 0 (cB 8 (cy 12 (.aa 14 (.ad 15 [] .done)))))else .done) (λ_=>false)
def dQO:aL:=cg
def dQN:aL:=cg
def dQM:aL:=ee (λs=>[3].contains s)
def dQL:aL:=cg
def dQK:aL:=cg
def dQJ:aL:=cg
def dQI:aL:=cg
def dQH:aL:=cg
def dQG:aL:=cg
def dQF:aL:=cg
def dQE:aL:=ee (λs=>[3].contains s)
def dQD:aL:=cg
def dQC:aL:=cg
def dQB:aL:=cg
def dQA:aL:=cg
def dQz:aL:=cE (λid=>if id=9 then(ed 0 (cB 8 (cy 13 (.fork (.ad 12 [14,5,3] (.ad 15 [5,3] (.ad 16 [5,3] (.ad 17 [] .done)))) (.ad 15 [11,9,5,3] (.ad 12 [5,3] (.ad 16 [5,3] (.ad 17 [] .done))))))))else .done) (λs=>[10].contains s)
def dQy:aL:=cE (λid=>if id=6 then(cB 0 (cy 4 (.aa 6 (.aa 9 (.ad 7 [] (.aa 8 .done))))))else .done) (λ_=>false)
def dQx:aL:=cg
def dQw:aL:=cg
def dQv:aL:=cg
def dQu:aL:=cg
def dQt:aL:=cE (λid=>if id=4 then(cy 1 (.ad 0 [] (.ad 3 [] (.ad 4 [] (.ad 5 [] .done)))))else .done) (λs=>[2,6].contains s)
def dQs:aL:=cg
def dQr:aL:=cg
def dQq:aL:=cg
def dQp:aL:=cg
def dQo:aL:=cg
def dQn:aL:=ee (λs=>[2,3].contains s)
def dQm:aL:=cg
def dQl:aL:=cg
def dQk:aL:=cg
def dQd:aL:=cg
def dQb:aL:=cg
def dQa:aL:=cE (λid=>if id=4 then(cy 0 (.aa 2 (.ad 3 [] (.ad 4 [] .done))))else if id=8 then(ed 0 (cB 8 (cy 12 (.aa 14 (.ad 15 [] .done)))))else .done) (λs=>[2].contains s)
def cKY:aL:=cg
def cKX:aL:=cg
def cKW:aL:=cg
def cKV:aL:=cg
def aQm:aL:=cg
def cKU:aL:=cg
def cKT:aL:=cg
def cKS:aL:=cg
def cKR:aL:=cg
def cKQ:aL:=cg
def cKP:aL:=cg
def cKN:aL:=cg
def cKM:aL:=cg
def cKL:aL:=cE (λid=>if id=6 then(cB 0 (.ad 4 [] (.ad 5 [] .done)))else if id=7 then(cy 0 (.aa 2 (.aa 4 (.aa 7 (ed 11 (cy 19 (cy 22 (.aa 24 (cy 26 (.aa 28 (.ad 3 [28,24,18,13,1] (.ad 5 [28,24,18,13,1] (.aa 6 (.ad 8 [28,24,18,13,1] (cy 9 (.aa 21 (.aa 25 (.aa 29 (.ad 30 [] .done)))))))))))))))))))else if id=8 then(.aa 0 (.aa 2 (.aa 5 (ed 8 (cB 16 (cy 20 (.aa 22 (.ad 1 [20,18,14,10] (.ad 3 [20,18,14,10] (.aa 4 (.ad 6 [20,18,14,10] (.aa 7 (.aa 23 (.ad 24 [] .done))))))))))))))else if id=14 then(ed 0 (.ad 8 [] .done))else .done) (λs=>[2,5,6,7].contains s)
def cKK:aL:=cg
def cKJ:aL:=cE (λid=>if id=5 then(eA 0 (eA 16 (cy 32 (.aa 34 (.ad 35 [] .done)))))else if id=10 then(ed 0 (.ad 8 [] (.ad 9 [] .done)))else if id=11 then(cB 0 (cy 4 (.aa 7 (cy 10 (cB 14 (.aa 19 (.aa 21 (cy 24 (.ad 6 [17,4] (.ad 8 [17,4] (.aa 9 (cy 12 (.aa 18 (.ad 20 [17,4] (.ad 22 [17,4] (.aa 23 (cy 26 (.aa 28 (.ad 29 [] .done)))))))))))))))))))else .done) (λs=>[3].contains s)
def cKI:aL:=cg
def cKH:aL:=cg
def cKG:aL:=cg
theorem aJZ{c:Prop}[Decidable c]{a b:Ti}{q:Prop}(d:c->a=.none\/q)(e:¬c->b=.none\/q):(if c then a else b)=.none\/q:=by
 by_cases h:c
 .rw[if_pos h];exact d h
 rw[if_neg h];exact e h
theorem aJi(t:Nat):ty t=.none\/t∈Rr:=by
 unfold ty;repeat' (first
  |exact .inl rfl
  | (refine aJZ (λe=>?_) (λe=>?_)))
 all_goals (right;rw[e];decide)
theorem aJj:Rr.map ty=Rr.map (aKu Tryz.prog):=by kernel_rfl
theorem bZb:((List.range gZV).all λf=>aZy.contains f||(match Tryz.prog.funcs[f]? with
 |some fn=>fn.body.isSome&&decide (fn.name≠ "runtime.NumGoroutine")
 |none=>false))=true:=by kernel_rfl
theorem mixed:Tryz.prog.follows .mixedOrders=true:=by kernel_rfl
theorem aJp(pl:Nat->uC)(pb pn:Nat->Bool)(rs:List Nat)(kp:List PanicEntry->List SV->ab->Prop):fF Tryz.prog ⟨ty,aw,pl,pb,pn,rs,kp⟩where
 ty t:=by
  rcases aJi t with h|h
  .exact .inr h
  exact .inl (List.map_inj_left.1 aJj t h)
 fn f h:=by
  have h:aw f=true:=h;unfold aw at h;split at h
  .rename_i aF;have h1:=List.all_eq_true.1 bZb f (by simpa using aF);simp only[Bool.or_eq_true]at h1;rcases h1 with h1|h1
   .rw[h1]at h;cases h
   split at h1
   .rename_i fn Ga;simp only[Bool.and_eq_true,decide_eq_true_eq]at h1;exact⟨fn,Ga,h1.1,h1.2⟩
   cases h1
  cases h
 mixed:=mixed
theorem ai(l:Nat->uC)(p:Nat->Bool):fF Tryz.prog ⟨ty,aw,l,p,λ_=>false,[],λ_ _ _=>False⟩:=aJp l p _ _ _
theorem an(T:aL)(d:Tryz.prog.funcs[f]? =some fn)
 (hx:∀(A:Ar) (_:bf A),cQp A ⟨ty,aw,T.au,T.aN,λ_=>false,[],λ_ _ _=>False⟩ (λ_=>Tryz.prog) c fn.ntmps fn.results.toList args h R) (b:fn.body=some c:=by exact rfl) (o:eI ⟨ty,aw,T.au,T.aN,λ_=>false,[],λ_ _ _=>False⟩ c=true:=by kernel_rfl):Dr (λ_=>Tryz.prog) f args h R:=by
 obtain⟨A,a⟩:=Ar.ex;exact af A (ai T.au T.aN) d b o (hx A a)
theorem bB(T:aL)(A:Ar)[bf A](a:Tryz.prog.funcs[f]? =some fn)
 (hx:cQp A ⟨ty,aw,T.au,T.aN,λ_=>false,[],λ_ _ _=>False⟩ (λ_=>Tryz.prog) c fn.ntmps fn.results.toList args h R) (b:fn.body=some c:=by exact rfl) (o:eI ⟨ty,aw,T.au,T.aN,λ_=>false,[],λ_ _ _=>False⟩ c=true:=by kernel_rfl):Dr (λ_=>Tryz.prog) f args h R:=af A (ai T.au T.aN) a b o hx
end Go.S
