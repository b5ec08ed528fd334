import Derived.Test.YthnbpiejemlbeaaGreatProg
import Derived.Test.YthnbpiejemlbeaaGreatSxB
set_option linter.all false
namespace Go.S
open Go.Sx Go.Proofs
variable {c:Code}{fn:Func}{f:FuncId}{args:List Value}{R:Value->ad->Prop}{h:ad}
def y1:Ti:=⟨false,false,1,8,[.nilFunc],.fn⟩
def y2:Ti:=⟨false,false,1,8,[.int .i64 0],(.int .i64)⟩
def y3:Ti:=⟨false,false,1,8,[.int .i64 0],(.int .i64)⟩
def y4:Ti:=⟨false,false,1,1,[.bool false],.bool⟩
def y5:Ti:=⟨false,false,1,1,[.int .u8 0],(.int .u8)⟩
def y9:Ti:=⟨false,false,1,16,[.string ⟨#[]⟩],.str⟩
def iQA:Ti:=⟨false,false,1,4,[.int .i32 0],(.int .i32)⟩
def iQz:Ti:=⟨false,false,1,8,[.pointer none],(.ptr 41)⟩
def iQy:Ti:=⟨false,false,1,24,[.slice none 0 0],(.qG 61)⟩
def iQx:Ti:=⟨false,false,1,24,[.slice none 0 0],(.qG 79)⟩
def iQw:Ti:=⟨false,false,1,24,[.slice none 0 0],(.qG 253)⟩
def iQv:Ti:=⟨false,true,2,48,[.slice none 0 0,.slice none 0 0],(.cT [(28,0),(28,1)])⟩
def iQu:Ti:=⟨false,true,4,96,[.slice none 0 0,.slice none 0 0,.slice none 0 0,.slice none 0 0],(.cT [(26,0),(27,1),(30,2)])⟩
def iQt:Ti:=⟨false,false,1,8,[.int .i64 0],(.int .i64)⟩
def iQs:Ti:=⟨false,false,1,8,[.pointer none],(.ptr 94)⟩
def iQr:Ti:=⟨false,false,1,8,[.pointer none],(.ptr 231)⟩
def iQq:Ti:=⟨false,false,1,8,[.pointer none],(.ptr 158)⟩
def iQp:Ti:=⟨false,false,1,8,[.pointer none],(.ptr 197)⟩
def iQo:Ti:=⟨false,true,4,32,[.pointer none,.pointer none,.pointer none,.pointer none],(.cT [(36,0),(37,1),(38,2),(39,3)])⟩
def iQn:Ti:=⟨true,true,3,32,[.int .i64 0,.int .i64 0,.string ⟨#[]⟩],(.cT [(3,0),(3,1),(9,2)])⟩
def iQm:Ti:=⟨false,false,1,24,[.slice none 0 0],(.qG 45)⟩
def iQl:Ti:=⟨false,false,1,24,[.slice none 0 0],(.qG 172)⟩
def iQk:Ti:=⟨false,false,1,24,[.slice none 0 0],(.qG 224)⟩
def iQj:Ti:=⟨false,false,1,24,[.slice none 0 0],(.qG 47)⟩
def iQi:Ti:=⟨false,true,4,80,[.int .i64 0,.slice none 0 0,.slice none 0 0,.slice none 0 0],(.cT [(3,0),(47,1),(48,2),(49,3)])⟩
def iQh:Ti:=⟨false,false,1,24,[.slice none 0 0],(.qG 202)⟩
def iQg:Ti:=⟨false,true,4,56,[.string ⟨#[]⟩,.slice none 0 0,.int .i64 0,.bool false],(.cT [(9,0),(56,1),(3,2),(4,3)])⟩
def iQf:Ti:=⟨false,false,1,24,[.slice none 0 0],(.qG 46)⟩
def iQe:Ti:=⟨false,true,5,80,[.string ⟨#[]⟩,.slice none 0 0,.int .i64 0,.bool false,.slice none 0 0],(.cT [(58,0),(59,4)])⟩
def iQd:Ti:=⟨false,false,1,24,[.slice none 0 0],(.qG 73)⟩
def iQc:Ti:=⟨false,false,1,24,[.slice none 0 0],(.qG 3)⟩
def iQb:Ti:=⟨true,true,5,40,[.int .i64 0,.int .i64 0,.int .i64 0,.int .i64 0,.bool false],(.cT [(3,0),(3,1),(3,2),(3,3),(4,4)])⟩
def iQa:Ti:=⟨false,true,8,80,[.int .i64 0,.int .i64 0,.int .i64 0,.int .i64 0,.int .i64 0,.int .i64 0,.bool false,.slice none 0 0],(.cT [(3,0),(3,1),(71,2),(68,7)])⟩
def hKZ:Ti:=⟨false,false,1,24,[.slice none 0 0],(.qG 59)⟩
def hKY:Ti:=⟨false,false,1,24,[.slice none 0 0],(.qG 161)⟩
def hKX:Ti:=⟨false,false,1,24,[.slice none 0 0],(.qG 183)⟩
def hKW:Ti:=⟨false,true,3,56,[.int .i64 0,.slice none 0 0,.slice none 0 0],(.cT [(3,0),(76,1),(77,2)])⟩
def hKV:Ti:=⟨true,true,0,0,[],(.cT [])⟩
def hKU:Ti:=⟨true,true,0,0,[],(.cT [])⟩
def hKT:Ti:=⟨false,true,1,8,[.int .i64 0],(.cT [(82,0),(83,0),(2,0)])⟩
def hKS:Ti:=⟨false,false,1,4,[.int .u32 0],(.int .u32)⟩
def hKR:Ti:=⟨false,true,1,4,[.int .u32 0],(.cT [(82,0),(86,0)])⟩
def hKQ:Ti:=⟨false,true,2,16,[.int .i64 0,.int .u32 0],(.cT [(85,0),(88,1)])⟩
def hKP:Ti:=⟨false,false,1,24,[.slice none 0 0],(.qG 211)⟩
def hKO:Ti:=⟨false,false,1,24,[.slice none 0 0],(.qG 213)⟩
def hKN:Ti:=⟨false,true,5,88,[.int .i64 0,.int .u32 0,.slice none 0 0,.slice none 0 0,.slice none 0 0],(.cT [(90,0),(91,2),(91,3),(92,4)])⟩
def hKM:Ti:=⟨false,false,1,24,[.slice none 0 0],(.qG 102)⟩
def fJn:Ti:=⟨false,true,32,32,(List.replicate 32 (.int .u8 0)),(.arr 32 5)⟩
def fJm:Ti:=⟨false,true,33,40,.int .i64 0::zuR 32 [],(.cT [(3,0),(100,1)])⟩
def fJl:Ti:=⟨false,false,1,24,[.slice none 0 0],(.qG 113)⟩
def fJk:Ti:=⟨false,true,4,80,[.int .i64 0,.slice none 0 0,.slice none 0 0,.slice none 0 0],(.cT [(3,0),(47,1),(107,2),(49,3)])⟩
def fJj:Ti:=⟨false,true,66,80,.int .i64 0::zuR 64 [.int .i64 0],(.cT [(3,0),(100,1),(100,33),(3,65)])⟩
def fJi:Ti:=⟨false,false,1,24,[.slice none 0 0],(.qG 132)⟩
def fJh:Ti:=⟨false,false,1,24,[.slice none 0 0],(.qG 337)⟩
def fJg:Ti:=⟨false,false,1,24,[.slice none 0 0],(.qG 422)⟩
def fJf:Ti:=⟨false,true,2,48,[.slice none 0 0,.slice none 0 0],(.cT [(124,0),(124,1)])⟩
def fJe:Ti:=⟨false,true,4,96,[.slice none 0 0,.slice none 0 0,.slice none 0 0,.slice none 0 0],(.cT [(122,0),(123,1),(126,2)])⟩
def fJd:Ti:=⟨false,true,5,80,[.string ⟨#[]⟩,.slice none 0 0,.int .i64 0,.bool false,.slice none 0 0],(.cT [(58,0),(59,4)])⟩
def fJc:Ti:=⟨false,false,1,8,[.pointer none],(.ptr 148)⟩
def fJb:Ti:=⟨true,true,0,0,[],(.cT [])⟩
def fJa:Ti:=⟨true,true,2,8,[.int .i32 0,.int .u32 0],(.cT [(21,0),(86,1)])⟩
def fZZ:Ti:=⟨false,true,2,8,[.int .i32 0,.int .u32 0],(.cT [(140,0),(142,0)])⟩
def fZY:Ti:=⟨false,true,3,12,[.int .u32 0,.int .i32 0,.int .u32 0],(.cT [(140,0),(88,0),(144,1)])⟩
def fZX:Ti:=⟨false,true,8,120,[.slice none 0 0,.slice none 0 0,.slice none 0 0,.slice none 0 0,.int .u32 0,.int .i32 0,.int .u32 0,.int .i64 0],(.cT [(32,0),(146,4),(33,7)])⟩
def fZW:Ti:=⟨false,true,8,176,[.slice none 0 0,.slice none 0 0,.slice none 0 0,.slice none 0 0,.int .i64 0,.slice none 0 0,.slice none 0 0,.slice none 0 0],(.cT [(32,0),(51,4)])⟩
def fZV:Ti:=⟨false,false,1,8,[.pointer none],(.ptr 150)⟩
def fZU:Ti:=⟨false,false,1,8,[.pointer none],(.ptr 294)⟩
def fZT:Ti:=⟨false,true,0,0,[],(.arr 0 151)⟩
def fZS:Ti:=⟨false,false,1,8,[.pointer none],.fKw⟩
def fZR:Ti:=⟨false,true,1,8,[.pointer none],(.cT [(153,0),(82,0),(154,0)])⟩
def fZQ:Ti:=⟨false,true,2,16,[.pointer none,.pointer none],(.cT [(152,0),(156,1)])⟩
def fZP:Ti:=⟨false,true,3,48,[.string ⟨#[]⟩,.int .i64 0,.slice none 0 0],(.cT [(9,0),(3,1),(46,2)])⟩
def fZO:Ti:=⟨false,false,1,8,[.nilFunc],.fn⟩
def fZN:Ti:=⟨false,false,1,8,[.nilFunc],.fn⟩
def fZM:Ti:=⟨false,true,2,32,[.int .i64 0,.slice none 0 0],(.cT [(3,0),(76,1)])⟩
def fZL:Ti:=⟨false,false,1,24,[.slice none 0 0],(.qG 5)⟩
def fZK:Ti:=⟨false,false,1,8,[.nilFunc],.fn⟩
def fZJ:Ti:=⟨false,false,1,8,[.nilFunc],.fn⟩
def fZI:Ti:=⟨true,true,2,24,[.string ⟨#[]⟩,.int .i64 0],(.cT [(9,0),(3,1)])⟩
def fZH:Ti:=⟨false,false,1,8,[.nilFunc],.fn⟩
def fZG:Ti:=⟨false,false,1,8,[.nilFunc],.fn⟩
def fZF:Ti:=⟨false,false,1,24,[.slice none 0 0],(.qG 176)⟩
def fZE:Ti:=⟨false,false,1,8,[.pointer none],(.ptr 353)⟩
def fZD:Ti:=⟨false,true,9,184,[.pointer none,.slice none 0 0,.slice none 0 0,.slice none 0 0,.slice none 0 0,.int .i64 0,.slice none 0 0,.slice none 0 0,.slice none 0 0],(.cT [(195,0),(128,1),(109,5)])⟩
def fZC:Ti:=⟨false,false,1,24,[.slice none 0 0],(.qG 9)⟩
def fZB:Ti:=⟨true,true,3,32,[.string ⟨#[]⟩,.int .i64 0,.bool false],(.cT [(9,0),(3,1),(4,2)])⟩
def fZA:Ti:=⟨false,false,1,8,[.pointer none],(.ptr 90)⟩
def fZz:Ti:=⟨false,true,64,64,(List.replicate 64 (.int .u8 0)),(.arr 64 5)⟩
def fZy:Ti:=⟨false,true,64,64,(List.replicate 64 (.int .u8 0)),(.arr 64 5)⟩
def fZx:Ti:=⟨false,true,65,72,.int .i64 0::zuR 64 [],(.cT [(3,0),(211,1)])⟩
def fZw:Ti:=⟨false,true,66,80,.int .i64 0::zuR 64 [.int .i64 0],(.cT [(3,0),(100,1),(100,33),(3,65)])⟩
def fZv:Ti:=⟨false,false,1,24,[.slice none 0 0],(.qG 210)⟩
def fZu:Ti:=⟨false,false,1,24,[.slice none 0 0],(.qG 326)⟩
def fZt:Ti:=⟨false,true,5,88,[.slice none 0 0,.slice none 0 0,.slice none 0 0,.int .i64 0,.bool false],(.cT [(228,0),(228,1),(229,2),(3,3),(4,4)])⟩
def fZs:Ti:=⟨false,false,1,24,[.slice none 0 0],(.qG 100)⟩
def fZr:Ti:=⟨false,true,75,216,.int .i64 0::.string ⟨#[]⟩::.slice none 0 0::.int .i64 0::.bool false::.string ⟨#[]⟩::.int .i64 0::.slice none 0 0::.slice none 0 0::zuR 32 (.bool false::.int .i64 0::zuR 32 []),(.cT [(3,0),(58,1),(9,5),(172,6),(234,8),(100,9),(4,41),(3,42),(100,43)])⟩
def fZq:Ti:=⟨false,false,1,8,[.nilFunc],.fn⟩
def fZp:Ti:=⟨false,false,1,8,[.nilFunc],.fn⟩
def fZo:Ti:=⟨false,false,1,8,[.nilFunc],.fn⟩
def fZn:Ti:=⟨true,true,3,32,[.int .i64 0,.string ⟨#[]⟩,.bool false],(.cT [(3,0),(9,1),(4,2)])⟩
def fZm:Ti:=⟨false,false,1,8,[.pointer none],(.ptr 156)⟩
def fZl:Ti:=⟨false,false,1,8,[.pointer none],(.ptr 154)⟩
def fZk:Ti:=⟨false,true,5,80,[.string ⟨#[]⟩,.slice none 0 0,.int .i64 0,.bool false,.slice none 0 0],(.cT [(61,0)])⟩
def fZj:Ti:=⟨false,false,1,8,[.nilFunc],.fn⟩
def fZi:Ti:=⟨false,false,1,8,[.nilFunc],.fn⟩
def fZh:Ti:=⟨false,false,1,8,[.pointer none],(.ptr 277)⟩
def fZg:Ti:=⟨false,true,7,96,[.int .i64 0,.slice none 0 0,.slice none 0 0,.slice none 0 0,.int .u32 0,.int .i32 0,.int .u32 0],(.cT [(51,0),(146,4)])⟩
def fZf:Ti:=⟨false,false,1,8,[.nilFunc],.fn⟩
def fZe:Ti:=⟨false,true,4,48,[.int .i64 0,.int .i64 0,.slice none 0 0,.bool false],(.cT [(3,0),(3,1),(189,2),(4,3)])⟩
def fZd:Ti:=⟨false,true,3,24,[.pointer none,.int .i64 0,.int .i64 0],(.cT [(36,0),(85,1),(85,2)])⟩
def fZc:Ti:=⟨false,false,1,8,[.pointer none],(.ptr 299)⟩
def fZb:Ti:=⟨false,false,1,8,[.pointer none],(.ptr 411)⟩
def fZa:Ti:=⟨false,true,5,24,[.pointer none,.int .u32 0,.int .i32 0,.int .u32 0,.bool false],(.cT [(296,0),(146,1),(4,4)])⟩
def fXZ:Ti:=⟨false,true,65,72,.int .i64 0::zuR 64 [],(.cT [(3,0),(210,1)])⟩
def fXY:Ti:=⟨false,false,1,8,[.int .u64 0],(.int .u64)⟩
def fXX:Ti:=⟨false,false,1,24,[.slice none 0 0],(.qG 340)⟩
def fXW:Ti:=⟨false,true,3,56,[.int .i64 0,.slice none 0 0,.slice none 0 0],(.cT [(3,0),(76,1),(335,2)])⟩
def fXV:Ti:=⟨true,true,2,24,[.string ⟨#[]⟩,.int .i64 0],(.cT [(9,0),(3,1)])⟩
def fXU:Ti:=⟨false,false,1,8,[.pointer none],(.ptr 85)⟩
def fXT:Ti:=⟨false,false,1,8,[.pointer none],(.ptr 2)⟩
def fXS:Ti:=⟨false,false,1,8,[.pointer none],(.ptr 88)⟩
def fXR:Ti:=⟨false,false,1,8,[.pointer none],(.ptr 86)⟩
def fXQ:Ti:=⟨false,true,3,24,[.pointer none,.int .i64 0,.int .i64 0],(.cT [(37,0),(3,1),(3,2)])⟩
def fXP:Ti:=⟨false,true,64,256,(List.replicate 64 (.int .u32 0)),(.arr 64 86)⟩
def fXO:Ti:=⟨false,true,8,32,[.int .u32 0,.int .u32 0,.int .u32 0,.int .u32 0,.int .u32 0,.int .u32 0,.int .u32 0,.int .u32 0],(.arr 8 86)⟩
def fXN:Ti:=⟨false,false,1,8,[.int .u64 0],(.int .u64)⟩
def fXM:Ti:=⟨false,false,1,8,[.pointer none],(.ptr 370)⟩
def fXL:Ti:=⟨false,true,3,40,[.slice none 0 0,.int .i64 0,.int .i64 0],(.cT [(176,0),(3,1),(3,2)])⟩
def fXK:Ti:=⟨false,false,1,8,[.nilFunc],.fn⟩
def fXJ:Ti:=⟨false,false,1,8,[.nilFunc],.fn⟩
def fXI:Ti:=⟨false,false,1,8,[.pointer none],(.ptr 146)⟩
def fXH:Ti:=⟨false,false,1,8,[.pointer none],(.ptr 407)⟩
def fXG:Ti:=⟨false,true,6,56,[.pointer none,.int .u32 0,.int .i32 0,.int .u32 0,.slice none 0 0,.int .i64 0],(.cT [(36,0),(146,1),(176,4),(33,5)])⟩
def fXF:Ti:=⟨false,true,5,48,[.slice none 0 0,.int .i64 0,.int .u32 0,.int .i32 0,.int .u32 0],(.cT [(176,0),(33,1),(146,2)])⟩
def fXE:Ti:=⟨true,true,3,32,[.int .i64 0,.string ⟨#[]⟩,.bool false],(.cT [(3,0),(9,1),(4,2)])⟩
def fXD:Ti:=⟨false,false,1,8,[.nilFunc],.fn⟩
def fXC:Ti:=⟨false,false,1,8,[.map none],(.mp 9 4)⟩
def fXB:Ti:=⟨false,true,4,24,[.int .u32 0,.int .i32 0,.int .u32 0,.map none],(.cT [(146,0),(453,3)])⟩
def fXA:Ti:=⟨false,false,1,8,[.nilFunc],.fn⟩
def fXz:Ti:=⟨false,false,1,8,[.pointer none],(.ptr 504)⟩
def fXy:Ti:=⟨false,false,1,8,[.map none],(.mp 3 4)⟩
def fXx:Ti:=⟨false,false,1,8,[.nilFunc],.fn⟩
def fXw:Ti:=⟨false,false,1,8,[.pointer none],(.ptr 493)⟩
def fXv:Ti:=⟨false,true,36,72,.slice none 0 0::.int .u32 0::.int .i32 0::.int .u32 0::zuR 32 [],(.cT [(176,0),(146,1),(100,4)])⟩
def fXu:Ti:=⟨false,false,1,8,[.pointer none],(.ptr 455)⟩
def fXt:Ti:=⟨false,false,1,8,[.nilFunc],.fn⟩
def fXs:Ti:=⟨false,false,1,24,[.slice none 0 0],(.qG 28)⟩
def fXr:Ti:=⟨false,false,1,8,[.map none],(.mp 3 68)⟩
def fXq:Ti:=⟨false,true,2,16,[.map none,.int .i64 0],(.cT [(502,0),(85,1)])⟩
def fXp:Ti:=⟨false,false,1,8,[.pointer none],(.ptr 144)⟩
def fXo:Ti:=⟨false,true,1,8,[.pointer none],(.cT [(296,0)])⟩
def fXn:Ti:=⟨false,true,8,32,[.int .u32 0,.int .u32 0,.int .u32 0,.int .u32 0,.int .u32 0,.int .u32 0,.int .u32 0,.int .u32 0],(.arr 8 86)⟩
def fXm:Ti:=⟨false,false,1,8,[.pointer none],(.ptr 142)⟩
def fXl:Ti:=⟨false,false,1,8,[.pointer none],(.ptr 21)⟩
def ty(t:Nat):Ti:=if t<179 then(if t<83 then(if t<45 then(if t<27 then(if t<5 then(if t<3 then(if t<2 then(if t=1 then y1 else .none)else(if t=2 then y2 else .none))else(if t<4 then(if t=3 then y3 else .none)else(if t=4 then y4 else .none)))else(if t<21 then(if t<9 then(if t=5 then y5 else .none)else(if t=9 then y9 else .none))else(if t<23 then(if t=21 then iQA else .none)else(if t<26 then(if t=23 then iQz else .none)else(if t=26 then iQy else .none)))))else(if t<36 then(if t<30 then(if t<28 then(if t=27 then iQx else .none)else(if t=28 then iQw else .none))else(if t<32 then(if t=30 then iQv else .none)else(if t<33 then(if t=32 then iQu else .none)else(if t=33 then iQt else .none))))else(if t<38 then(if t<37 then(if t=36 then iQs else .none)else(if t=37 then iQr else .none))else(if t<39 then(if t=38 then iQq else .none)else(if t<41 then(if t=39 then iQp else .none)else(if t=41 then iQo else .none))))))else(if t<61 then(if t<49 then(if t<47 then(if t<46 then(if t=45 then iQn else .none)else(if t=46 then iQm else .none))else(if t<48 then(if t=47 then iQl else .none)else(if t=48 then iQk else .none)))else(if t<56 then(if t<51 then(if t=49 then iQj else .none)else(if t=51 then iQi else .none))else(if t<58 then(if t=56 then iQh else .none)else(if t<59 then(if t=58 then iQg else .none)else(if t=59 then iQf else .none)))))else(if t<75 then(if t<68 then(if t<66 then(if t=61 then iQe else .none)else(if t=66 then iQd else .none))else(if t<71 then(if t=68 then iQc else .none)else(if t<73 then(if t=71 then iQb else .none)else(if t=73 then iQa else .none))))else(if t<77 then(if t<76 then(if t=75 then hKZ else .none)else(if t=76 then hKY else .none))else(if t<79 then(if t=77 then hKX else .none)else(if t<82 then(if t=79 then hKW else .none)else(if t=82 then hKV else .none)))))))else(if t<132 then(if t<100 then(if t<90 then(if t<86 then(if t<85 then(if t=83 then hKU else .none)else(if t=85 then hKT else .none))else(if t<88 then(if t=86 then hKS else .none)else(if t=88 then hKR else .none)))else(if t<92 then(if t<91 then(if t=90 then hKQ else .none)else(if t=91 then hKP else .none))else(if t<94 then(if t=92 then hKO else .none)else(if t<98 then(if t=94 then hKN else .none)else(if t=98 then hKM else .none)))))else(if t<122 then(if t<107 then(if t<102 then(if t=100 then fJn else .none)else(if t=102 then fJm else .none))else(if t<109 then(if t=107 then fJl else .none)else(if t<113 then(if t=109 then fJk else .none)else(if t=113 then fJj else .none))))else(if t<124 then(if t<123 then(if t=122 then fJi else .none)else(if t=123 then fJh else .none))else(if t<126 then(if t=124 then fJg else .none)else(if t<128 then(if t=126 then fJf else .none)else(if t=128 then fJe else .none))))))else(if t<153 then(if t<146 then(if t<140 then(if t<134 then(if t=132 then fJd else .none)else(if t=134 then fJc else .none))else(if t<142 then(if t=140 then fJb else .none)else(if t<144 then(if t=142 then fJa else .none)else(if t=144 then fZZ else .none))))else(if t<150 then(if t<148 then(if t=146 then fZY else .none)else(if t=148 then fZX else .none))else(if t<151 then(if t=150 then fZW else .none)else(if t<152 then(if t=151 then fZV else .none)else(if t=152 then fZU else .none)))))else(if t<164 then(if t<156 then(if t<154 then(if t=153 then fZT else .none)else(if t=154 then fZS else .none))else(if t<158 then(if t=156 then fZR else .none)else(if t<161 then(if t=158 then fZQ else .none)else(if t=161 then fZP else .none))))else(if t<172 then(if t<165 then(if t=164 then fZO else .none)else(if t=165 then fZN else .none))else(if t<176 then(if t=172 then fZM else .none)else(if t<178 then(if t=176 then fZL else .none)else(if t=178 then fZK else .none))))))))else(if t<335 then(if t<246 then(if t<208 then(if t<189 then(if t<184 then(if t<183 then(if t=179 then fZJ else .none)else(if t=183 then fZI else .none))else(if t<186 then(if t=184 then fZH else .none)else(if t=186 then fZG else .none)))else(if t<197 then(if t<195 then(if t=189 then fZF else .none)else(if t=195 then fZE else .none))else(if t<200 then(if t=197 then fZD else .none)else(if t<202 then(if t=200 then fZC else .none)else(if t=202 then fZB else .none)))))else(if t<228 then(if t<211 then(if t<210 then(if t=208 then fZA else .none)else(if t=210 then fZz else .none))else(if t<213 then(if t=211 then fZy else .none)else(if t<224 then(if t=213 then fZx else .none)else(if t=224 then fZw else .none))))else(if t<231 then(if t<229 then(if t=228 then fZv else .none)else(if t=229 then fZu else .none))else(if t<234 then(if t=231 then fZt else .none)else(if t<236 then(if t=234 then fZs else .none)else(if t=236 then fZr else .none))))))else(if t<275 then(if t<256 then(if t<250 then(if t<248 then(if t=246 then fZq else .none)else(if t=248 then fZp else .none))else(if t<253 then(if t=250 then fZo else .none)else(if t=253 then fZn else .none)))else(if t<260 then(if t<258 then(if t=256 then fZm else .none)else(if t=258 then fZl else .none))else(if t<269 then(if t=260 then fZk else .none)else(if t<274 then(if t=269 then fZj else .none)else(if t=274 then fZi else .none)))))else(if t<295 then(if t<278 then(if t<277 then(if t=275 then fZh else .none)else(if t=277 then fZg else .none))else(if t<290 then(if t=278 then fZf else .none)else(if t<294 then(if t=290 then fZe else .none)else(if t=294 then fZd else .none))))else(if t<299 then(if t<296 then(if t=295 then fZc else .none)else(if t=296 then fZb else .none))else(if t<326 then(if t=299 then fZa else .none)else(if t<327 then(if t=326 then fXZ else .none)else(if t=327 then fXY else .none)))))))else(if t<422 then(if t<357 then(if t<344 then(if t<340 then(if t<337 then(if t=335 then fXX else .none)else(if t=337 then fXW else .none))else(if t<342 then(if t=340 then fXV else .none)else(if t=342 then fXU else .none)))else(if t<347 then(if t<345 then(if t=344 then fXT else .none)else(if t=345 then fXS else .none))else(if t<353 then(if t=347 then fXR else .none)else(if t<355 then(if t=353 then fXQ else .none)else(if t=355 then fXP else .none)))))else(if t<393 then(if t<364 then(if t<358 then(if t=357 then fXO else .none)else(if t=358 then fXN else .none))else(if t<370 then(if t=364 then fXM else .none)else(if t<387 then(if t=370 then fXL else .none)else(if t=387 then fXK else .none))))else(if t<405 then(if t<397 then(if t=393 then fXJ else .none)else(if t=397 then fXI else .none))else(if t<407 then(if t=405 then fXH else .none)else(if t<411 then(if t=407 then fXG else .none)else(if t=411 then fXF else .none))))))else(if t<496 then(if t<468 then(if t<453 then(if t<440 then(if t=422 then fXE else .none)else(if t=440 then fXD else .none))else(if t<455 then(if t=453 then fXC else .none)else(if t<465 then(if t=455 then fXB else .none)else(if t=465 then fXA else .none))))else(if t<490 then(if t<470 then(if t=468 then fXz else .none)else(if t=470 then fXy else .none))else(if t<491 then(if t=490 then fXx else .none)else(if t<493 then(if t=491 then fXw else .none)else(if t=493 then fXv else .none)))))else(if t<505 then(if t<501 then(if t<498 then(if t=496 then fXu else .none)else(if t=498 then fXt else .none))else(if t<502 then(if t=501 then fXs else .none)else(if t<504 then(if t=502 then fXr else .none)else(if t=504 then fXq else .none))))else(if t<509 then(if t<507 then(if t=505 then fXp else .none)else(if t=507 then fXo else .none))else(if t<513 then(if t=509 then fXn else .none)else(if t<515 then(if t=513 then fXm else .none)else(if t=515 then fXl else .none))))))))
def VG:List Nat:=[1,2,3,4,5,9,21,23,26,27,28,30,32,33,36,37,38,39,41,45,46,47,48,49,51,56,58,59,61,66,68,71,73,75,76,77,79,82,83,85,86,88,90,91,92,94,98,100,102,107,109,113,122,123,124,126,128,132,134,140,142,144,146,148,150,151,152,153,154,156,158,161,164,165,172,176,178,179,183,184,186,189,195,197,200,202,208,210,211,213,224,228,229,231,234,236,246,248,250,253,256,258,260,269,274,275,277,278,290,294,295,296,299,326,327,335,337,340,342,344,345,347,353,355,357,358,364,370,387,393,397,405,407,411,422,440,453,455,465,468,470,490,491,493,496,498,501,502,504,505,507,509,513,515]
def bXN:List Nat:=[0,1,103,109,120,182,183,306,324,329,332,362,373,374,375,376,378,379,384,385,386,387,388,389,390,392,393,394,395,396,397,398,399,400,401,402,403,404,405,406,407,408]
def hZR:Nat:=409
def aL(f:Nat):Bool:=if f<hZR then !bXN.contains f else false
def tB(p:Nat->ye)(b:Nat->Bool):bg:=⟨ty,aL,p,b,λ_=>false,[],λ_ _ _=>False⟩
def kQn(b:Nat->Bool):bg:=tB (λ_=>.done) b
def mz:bg:=kQn (λ_=>false)
def iy(a:Nat)(p:ye):ye:=.aa a (.aa (a+1) p)
def vy(a:Nat)(p:ye):ye:=iy a (iy (a+2) p)
def Dg(a:Nat)(p:ye):ye:=vy a (vy (a+4) p)
def kQM(a:Nat)(p:ye):ye:=Dg a (Dg (a+8) p)
def T7:bg:=tB (λid=>if id=14 then(Dg 0 (iy 8 (vy 11 (.af 10 [14] (.af 15 [] (.af 16 [] (.af 17 [] (kQM 18 (iy 34 (.aa 36 (.af 37 [] .done)))))))))))else .done) (λ_=>false)
def T9:bg:=mz
def hKG:bg:=tB (λid=>if id=10 then(Dg 0 (iy 8 (.af 10 [] .done)))else if id=11 then(Dg 0 (iy 8 (.af 10 [] .done)))else .done) (λs=>[8].contains s)
def hKF:bg:=mz
def hKE:bg:=mz
def hKD:bg:=mz
def fXh:bg:=kQn (λs=>[7].contains s)
def fXg:bg:=mz
def hKC:bg:=tB (λid=>if id=1 then(vy 0 (iy 5 (.aa 7 (.af 4 [] (.af 8 [] (vy 9 (.af 13 [] (.af 14 [] .done))))))))else .done) (λs=>[17].contains s)
def hKB:bg:=tB (λid=>if id=6 then(Dg 0 (.aa 8 (.af 9 [] (.af 10 [] .done))))else if id=9 then(iy 0 (.aa 2 (iy 4 (.aa 6 (.af 3 [5,4] (.af 7 [] (.af 8 [] .done)))))))else if id=12 then(Dg 0 (.aa 8 (.af 9 [] (.af 10 [] .done))))else .done) (λs=>[45,84].contains s)
def cKt:bg:=kQn (λs=>[22,38].contains s)
def hKz:bg:=mz
def hKy:bg:=tB (λid=>if id=7 then(vy 0 (.aa 4 (vy 6 (iy 10 (.aa 12 (iy 18 (.af 5 [12,9,0] (.af 13 [] (vy 14 (.af 20 [] (.af 21 [] (.af 22 [] .done))))))))))))else if id=8 then(vy 0 (.aa 4 (.af 5 [] .done)))else if id=9 then(vy 0 (iy 4 (.aa 6 (.af 7 [] .done))))else if id=14 then(vy 0 (iy 4 (.aa 6 (.af 7 [3] (.af 8 [] (iy 9 (.aa 11 (.af 12 [] (.af 13 [] .done)))))))))else if id=15 then(vy 0 (iy 4 (.aa 6 (.af 7 [3] (.af 8 [] (iy 9 (.aa 11 (.af 12 [] (.af 13 [] .done)))))))))else if id=22 then(iy 1 (iy 6 (.aa 13 (.fork (.af 0 [7,2] (.af 3 [7] (.aa 4 (.aa 5 (.af 8 [5] (.aa 9 (.aa 10 (.af 11 [5] (.aa 12 (.af 14 [] .done)))))))))) (.af 3 [7] (.fork (.af 0 [7] (.aa 4 (.aa 5 (.af 8 [5] (.aa 9 (.aa 10 (.af 11 [5] (.aa 12 (.af 14 [] .done))))))))) (.af 8 [] (.aa 9 (.aa 10 (.fork (.af 0 [] (.aa 4 (.aa 5 (.af 11 [5] (.aa 12 (.af 14 [] .done)))))) (.af 11 [] (.af 0 [] (.aa 4 (.aa 5 (.aa 12 (.af 14 [] .done))))))))))))))))else if id=23 then(vy 0 (.aa 4 (vy 6 (.aa 10 (.af 5 [10,9] (.af 11 [] (.aa 12 (.af 13 [] .done))))))))else if id=26 then(vy 0 (.aa 4 (vy 6 (.aa 10 (.af 5 [9] (.af 11 [] (.aa 12 (.af 13 [] .done))))))))else if id=28 then(Dg 0 (.af 8 [3] (.af 9 [] .done)))else if id=29 then(vy 0 (iy 4 (.af 6 [3] (.af 7 [] .done))))else if id=31 then(vy 0 (iy 5 (.af 4 [6,3] (.af 7 [3] (.af 8 [] .done)))))else if id=32 then(vy 0 (iy 4 (.af 6 [] .done)))else .done) (λ_=>false)
def hKx:bg:=mz
def hKw:bg:=tB (λid=>if id=5 then(iy 0 (vy 3 (iy 7 (.af 2 [7,6] (.af 9 [] (.af 10 [] .done))))))else .done) (λ_=>false)
def hKv:bg:=tB (λid=>if id=4 then(Dg 0 (.af 8 [3] (.af 9 [] (.af 10 [] .done))))else .done) (λ_=>false)
def hKu:bg:=mz
def hKt:bg:=mz
def hKs:bg:=tB (λid=>if id=6 then(Dg 0 (iy 8 (.aa 10 .done)))else if id=11 then(Dg 0 (iy 8 (.af 10 [] (.aa 11 .done))))else .done) (λ_=>false)
def hKr:bg:=tB (λid=>if id=3 then(.aa 0 (.aa 2 (.fork (.af 1 [] (.af 3 [] (.aa 4 (.af 5 [] (.af 6 [] (.af 7 [] .done)))))) (.af 3 [] (.af 1 [] (.aa 4 (.af 5 [] (.af 6 [] (.af 7 [] .done)))))))))else .done) (λs=>[15].contains s)
def hKq:bg:=tB (λid=>if id=3 then(.aa 0 (.aa 2 (.fork (.af 1 [] (.af 3 [] (.aa 4 (.af 5 [] (.af 6 [] (.af 7 [] .done)))))) (.af 3 [] (.af 1 [] (.aa 4 (.af 5 [] (.af 6 [] (.af 7 [] .done)))))))))else .done) (λs=>[15].contains s)
def hKp:bg:=kQn (λs=>[22].contains s)
def hKo:bg:=tB (λid=>if id=5 then(iy 0 (.af 2 [0] (.af 3 [] (iy 4 (.aa 6 (.af 7 [] .done))))))else if id=6 then(iy 0 (.af 2 [0] (.af 3 [] (iy 4 (.aa 6 (.af 7 [] .done))))))else if id=7 then(iy 0 (.af 2 [1] (.af 3 [] .done)))else .done) (λ_=>false)
def hKn:bg:=tB (λid=>if id=2 then(vy 0 (.aa 4 (.aa 9 (.af 5 [] (iy 6 (.aa 8 (.af 10 [] (.af 11 [] .done))))))))else if id=5 then(iy 0 (vy 3 (iy 7 (.af 2 [7,3] (.af 9 [] (.af 10 [] .done))))))else .done) (λ_=>false)
def hKm:bg:=tB (λid=>if id=1 then(vy 0 (.aa 4 (.aa 9 (.af 5 [] (iy 6 (.aa 8 (.af 10 [] (.af 11 [] .done))))))))else if id=3 then(vy 0 (.aa 4 (.af 5 [3] (.af 6 [] (.af 7 [] .done)))))else .done) (λ_=>false)
def fXf:bg:=kQn (λs=>[6].contains s)
def hKl:bg:=mz
def fXe:bg:=tB (λid=>if id=1 then(iy 0 (iy 3 (iy 6 (.aa 8 (iy 10 (.aa 12 (.af 2 [12,8,4] (.af 5 [12,8] (.af 9 [12] (.af 13 [] (iy 14 (.af 16 [] .done))))))))))))else .done) (λ_=>false)
def hKk:bg:=tB (λid=>if id=11 then(Dg 0 (.af 8 [] .done))else if id=15 then(Dg 0 (.af 8 [] .done))else .done) (λ_=>false)
def hKj:bg:=tB (λid=>if id=1 then(iy 0 (.aa 2 (iy 4 (.aa 6 (.aa 9 (.af 3 [6] (.af 7 [] (.aa 8 (.af 10 [] .done)))))))))else if id=2 then(iy 0 (iy 3 (.aa 6 (.af 2 [6,4] (.af 5 [6] (.aa 7 (.af 8 [] .done)))))))else .done) (λ_=>false)
def hKi:bg:=mz
def hKh:bg:=tB (λid=>if id=2 then(iy 0 (.aa 4 (.af 2 [0] (.aa 3 (.af 5 [] (.af 6 [] (.af 7 [] .done)))))))else .done) (λ_=>false)
def hKg:bg:=tB (λid=>if id=5 then(iy 0 (.aa 2 (.af 3 [0] (.af 4 [] (iy 5 (.aa 7 (.af 8 [] (.af 9 [] .done))))))))else if id=10 then(vy 0 (iy 4 (.aa 6 (vy 8 (.af 7 [9,2,0] (.af 12 [0] (.af 13 [] (.af 14 [] (.af 15 [] .done)))))))))else .done) (λ_=>false)
def hKf:bg:=mz
def bZj:bg:=tB (λid=>if id=13 then(Dg 0 (.af 8 [] .done))else if id=14 then(vy 0 (iy 4 (.af 6 [4] (.af 7 [] (iy 8 (.af 10 [] .done))))))else .done) (λ_=>false)
def fXd:bg:=tB (λid=>if id=1 then(vy 0 (iy 5 (iy 8 (.af 4 [9,6,1] (.af 7 [9,1] (.af 10 [1] (.aa 11 (.af 12 [] .done))))))))else .done) (λ_=>false)
def hKe:bg:=mz
def hKd:bg:=mz
def hKc:bg:=tB (λid=>if id=4 then(vy 0 (iy 4 (.aa 6 (.af 7 [5] (.af 8 [] (iy 9 (.aa 11 (.af 12 [] .done))))))))else if id=7 then(vy 0 (.aa 5 (.af 4 [5] (.af 6 [] (.af 7 [] (.af 8 [] .done))))))else .done) (λs=>[11].contains s)
def fXc:bg:=kQn (λs=>[3,5,6].contains s)
def hKb:bg:=tB (λid=>if id=1 then(iy 1 (iy 4 (.aa 6 (.af 0 [5,2] (.af 3 [5] (.af 7 [] (.af 8 [] .done)))))))else if id=5 then(iy 0 (.aa 2 (iy 4 (iy 7 (.af 3 [8,5] (.af 6 [8] (.af 9 [] (.af 10 [] (.af 11 [] (.af 12 [] .done))))))))))else if id=14 then(.aa 0 (iy 2 (.af 1 [] (.af 4 [] (.af 5 [] .done)))))else .done) (λs=>[8,9,10].contains s)
def hJS:bg:=tB (λid=>if id=7 then(vy 0 (.aa 4 (.af 5 [] .done)))else if id=8 then(vy 0 (.aa 4 (.af 5 [] .done)))else if id=9 then(iy 0 (.aa 2 (.af 3 [] (.af 4 [] (.af 5 [] .done)))))else .done) (λs=>[22].contains s)
def fXa:bg:=kQn (λs=>[9].contains s)
def hJR:bg:=tB (λid=>if id=9 then(.aa 0 (iy 2 (.af 1 [3] (.af 4 [] (.af 5 [] .done)))))else if id=25 then(iy 0 (.aa 2 (.aa 4 (.af 3 [0] (.af 5 [0] (.af 6 [] (iy 7 (.aa 9 (.af 10 [] (.af 11 [] .done))))))))))else if id=29 then(vy 0 (iy 4 (.af 6 [] (iy 7 (.aa 9 (.af 10 [] (.af 11 [] .done)))))))else if id=30 then(vy 0 (iy 4 (.af 6 [] (iy 7 (.aa 9 (.af 10 [] (.af 11 [] .done)))))))else if id=34 then(vy 0 (iy 4 (.af 6 [1,0] (.af 7 [1] (.af 8 [] (.af 9 [] (.af 10 [] (.af 11 [] .done))))))))else if id=44 then(vy 0 (iy 4 (.af 6 [1,0] (.af 7 [1] (.af 8 [] (.af 9 [] (.af 10 [] (.af 11 [] .done))))))))else if id=56 then(Dg 0 (.af 8 [1] (.af 9 [] (.af 10 [] .done))))else .done) (λ_=>false)
def hJQ:bg:=tB (λid=>if id=8 then(Dg 0 (iy 8 (.af 10 [] .done)))else if id=10 then(Dg 0 (.af 8 [3] (.af 9 [] (.af 10 [] .done))))else if id=14 then(vy 0 (iy 4 (.af 6 [3] (iy 7 (.af 9 [] .done)))))else .done) (λ_=>false)
def hJP:bg:=tB (λid=>if id=5 then(iy 0 (vy 3 (iy 7 (.af 2 [7,3] (.af 9 [] (.af 10 [] .done))))))else .done) (λ_=>false)
def hJO:bg:=tB (λid=>if id=3 then(vy 0 (.aa 4 (.af 5 [3] (.af 6 [] (.af 7 [] .done)))))else .done) (λ_=>false)
def hJL:bg:=mz
def hJK:bg:=mz
def fQZ:bg:=tB (λid=>if id=0 then(vy 0 (.af 4 [] (.af 5 [] .done)))else .done) (λ_=>false)
def hJI:bg:=kQn (λs=>[14].contains s)
def hJH:bg:=tB (λid=>if id=4 then(Dg 0 (vy 8 (.aa 12 (.af 13 [6,1] (.aa 14 (.af 15 [] (.af 16 [] .done)))))))else .done) (λ_=>false)
def hJG:bg:=tB (λid=>if id=1 then(iy 1 (iy 4 (.af 0 [2] (.af 3 [] (.af 6 [] (.af 7 [] .done))))))else .done) (λs=>[1].contains s)
def hJF:bg:=tB (λid=>if id=3 then(vy 0 (iy 4 (iy 8 (.aa 10 (.aa 12 (.af 6 [9,1] (.af 7 [9,1] (.aa 11 (.af 13 [] .done)))))))))else if id=6 then(iy 1 (.aa 4 (.fork (.af 0 [4,2] (.fork (.af 3 [4] (.af 5 [] (.af 6 [] (.aa 7 (.af 8 [] .done))))) (.af 5 [2] (.af 3 [] (.af 6 [] (.aa 7 (.af 8 [] .done))))))) (.af 5 [2] (.af 0 [2] (.af 3 [] (.af 6 [] (.aa 7 (.af 8 [] .done)))))))))else if id=7 then(iy 1 (iy 4 (.fork (.af 0 [5,2] (.fork (.af 3 [5] (.af 6 [] (.af 7 [] (.aa 8 (.af 9 [] .done))))) (.af 6 [2] (.af 3 [] (.af 7 [] (.aa 8 (.af 9 [] .done))))))) (.af 6 [2] (.af 0 [2] (.af 3 [] (.af 7 [] (.aa 8 (.af 9 [] .done)))))))))else .done) (λ_=>false)
def hJE:bg:=tB (λid=>if id=4 then(iy 0 (.aa 2 (.af 3 [1] (.aa 4 (.af 5 [] (.af 6 [] .done))))))else .done) (λ_=>false)
def hJD:bg:=tB (λid=>if id=3 then(Dg 0 (vy 8 (iy 12 (.aa 14 (.af 15 [] .done)))))else if id=17 then(Dg 0 (vy 8 (.aa 12 (.af 13 [] (.af 14 [] .done)))))else if id=23 then(Dg 0 (vy 8 (vy 13 (.aa 17 (.af 12 [16,3] (.af 18 [3] (.af 19 [] (.af 20 [] .done))))))))else .done) (λ_=>false)
def hJC:bg:=tB (λid=>if id=1 then(.aa 1 (.aa 3 (.af 0 [] (.af 2 [] (.af 4 [] (.af 5 [] .done))))))else .done) (λs=>[3].contains s)
def hJB:bg:=tB (λid=>if id=20 then(kQM 0 (Dg 16 (vy 24 (iy 28 (.aa 30 (.af 31 [] .done))))))else if id=24 then(Dg 0 (.af 8 [] (.af 9 [] .done)))else if id=25 then(iy 0 (.aa 3 (iy 6 (vy 9 (.aa 14 (.aa 16 (iy 19 (vy 23 (.af 2 [26,12] (.af 4 [26,12] (.aa 5 (.aa 8 (.aa 13 (.af 15 [26,12] (.af 17 [26,12] (.aa 18 (iy 21 (iy 27 (.af 29 [] .done)))))))))))))))))))else if id=31 then(iy 0 (.aa 2 (.aa 4 (.aa 7 (Dg 11 (iy 19 (iy 22 (.aa 24 (iy 26 (.aa 28 (.af 3 [28,24,18,13,1] (.af 5 [28,24,18,13,1] (.aa 6 (.af 8 [28,24,18,13,1] (iy 9 (.aa 21 (.aa 25 (.aa 29 (.af 30 [] .done)))))))))))))))))))else if id=32 then(iy 0 (iy 3 (iy 7 (kQM 11 (.aa 27 (.af 2 [25,23,19,17,14,12,8,4] (.af 5 [25,23,19,17,14,12,8] (.aa 6 (.af 9 [25,23,19,17,14,12] (.aa 10 (.aa 28 (.af 29 [] .done))))))))))))else if id=37 then(Dg 0 (.af 8 [] .done))else if id=42 then(kQM 0 (Dg 16 (vy 24 (iy 28 (.aa 30 (.af 31 [28,23,18] (.aa 32 (.af 33 [28,23] (.aa 34 (.af 35 [28] (.aa 36 (.af 37 [] .done))))))))))))else .done) (λs=>[3,4,8,15,21].contains s)
def hJA:bg:=tB (λid=>if id=1 then(iy 0 (iy 3 (.af 2 [] (.af 5 [] (.af 6 [] .done)))))else if id=2 then(iy 0 (.aa 2 (iy 4 (.af 3 [5] (.af 6 [] (.af 7 [] .done))))))else .done) (λs=>[1].contains s)
def hJz:bg:=tB (λid=>if id=6 then(kQM 0 (Dg 16 (iy 24 .done)))else if id=11 then(kQM 0 (.af 16 [] (.aa 17 .done)))else .done) (λ_=>false)
def hJy:bg:=kQn (λs=>[30].contains s)
def fQY:bg:=tB (λid=>if id=11 then(.aa 0 (vy 2 (.af 1 [5] (.af 6 [5] (.af 7 [] .done)))))else if id=12 then(Dg 0 (.aa 8 (.af 9 [5] (.af 10 [5] (.af 11 [] (iy 12 (.aa 14 (.af 15 [] .done))))))))else .done) (λ_=>false)
def hJw:bg:=mz
def hJv:bg:=tB (λid=>if id=11 then(Dg 0 (vy 8 (iy 12 (.aa 14 (.af 15 [] (.aa 16 .done))))))else .done) (λ_=>false)
def hJu:bg:=tB (λid=>if id=1 then(.aa 1 (.af 0 [1] (.af 2 [] (.af 3 [] (.af 4 [] (.af 5 [] .done))))))else .done) (λ_=>false)
def hJt:bg:=tB (λid=>if id=1 then(.aa 1 (.af 0 [1] (.af 2 [] (.af 3 [] (.af 4 [] (.af 5 [] .done))))))else .done) (λ_=>false)
def hJs:bg:=mz
def hJr:bg:=mz
def hJq:bg:=mz
def hJp:bg:=mz
def bQc:bg:=mz
def bQb:bg:=tB (λid=>if id=1 then(iy 0 (iy 3 (.af 2 [4] (.aa 6 (.af 5 [] (.af 7 [] (.aa 8 (.af 9 [] .done))))))))else .done) (λ_=>false)
def bQa:bg:=mz
def eJE:bg:=mz
def eJD:bg:=mz
def eJC:bg:=mz
def eJB:bg:=tB (λid=>if id=1 then(iy 0 (iy 3 (.af 2 [4] (.aa 6 (.af 5 [] (.af 7 [] (.aa 8 (.af 9 [] .done))))))))else .done) (λ_=>false)
def eJA:bg:=mz
def eJz:bg:=tB (λid=>if id=3 then(iy 0 (.af 2 [0] (.af 3 [0] (.aa 4 (.af 5 [] .done)))))else .done) (λ_=>false)
def eJy:bg:=kQn (λs=>[2].contains s)
def eJx:bg:=mz
def aKZ:bg:=mz
def aKY:bg:=tB (λid=>if id=9 then(vy 0 (iy 4 (.af 6 [] (iy 7 (.aa 9 (.af 10 [] (.af 11 [] .done)))))))else .done) (λs=>[4,5,6,7].contains s)
def eJw:bg:=mz
def aKX:bg:=mz
def aKW:bg:=mz
def aKV:bg:=mz
def eJv:bg:=mz
def eJu:bg:=mz
def aKU:bg:=mz
def eJt:bg:=tB (λid=>if id=1 then(vy 0 (iy 5 (iy 8 (.aa 10 (.aa 13 (.fork (.af 4 [9,6,1] (.fork (.af 7 [9,1] (.af 11 [1] (.aa 12 (.af 14 [] .done)))) (.af 11 [6,1] (.af 7 [1] (.aa 12 (.af 14 [] .done)))))) (.af 11 [6,3,1] (.af 4 [6,1] (.af 7 [1] (.aa 12 (.af 14 [] .done)))))))))))else if id=5 then(vy 0 (.af 4 [1] (.aa 5 (.af 6 [] .done))))else .done) (λ_=>false)
def eJs:bg:=mz
def Dw:bg:=mz
def eJr:bg:=tB (λid=>if id=6 then(Dg 0 (iy 9 (.aa 12 (.af 8 [4] (.aa 11 (.af 13 [] .done))))))else if id=10 then(vy 0 (iy 4 (.aa 6 (.af 7 [5] (.af 8 [] (iy 9 (.aa 11 (.af 12 [] .done))))))))else if id=11 then(Dg 0 (iy 8 (.aa 10 (.af 11 [5] (.af 12 [] (iy 13 (.aa 15 (.af 16 [] .done))))))))else .done) (λ_=>false)
def eJq:bg:=mz
def eJp:bg:=mz
def eJo:bg:=mz
def eJn:bg:=mz
def eJm:bg:=mz
def eJl:bg:=mz
def eJk:bg:=tB (λid=>if id=1 then(iy 0 (iy 4 (.af 2 [5] (.af 3 [5] (.af 6 [] (.af 7 [] .done))))))else if id=2 then(iy 0 (.aa 2 (iy 4 (.af 3 [5] (.af 6 [] (.af 7 [] (.af 8 [] (.af 9 [] (.af 10 [] .done)))))))))else .done) (λ_=>false)
def eJj:bg:=mz
def eJf:bg:=tB (λid=>if id=14 then(vy 0 (iy 4 (.af 6 [] (vy 7 (.af 11 [] (.af 12 [] .done))))))else .done) (λs=>[28].contains s)
def eJe:bg:=kQn (λs=>[6].contains s)
def eJd:bg:=mz
def aKS:bg:=tB (λid=>if id=2 then(vy 0 (.aa 4 (.aa 9 (.af 5 [] (iy 6 (.aa 8 (.af 10 [] (.af 11 [] .done))))))))else .done) (λ_=>false)
def aKR:bg:=tB (λid=>if id=0 then(Dg 0 (.aa 13 (.af 8 [3] (.af 9 [] (iy 10 (.aa 12 (.af 14 [] (.af 15 [] .done))))))))else .done) (λ_=>false)
def eJa:bg:=mz
def aKQ:bg:=mz
def eZZ:bg:=mz
def eZY:bg:=mz
def eZX:bg:=mz
def eZW:bg:=mz
def eZV:bg:=tB (λid=>if id=4 then(vy 0 (.af 4 [1] (vy 5 (.aa 9 .done))))else .done) (λ_=>false)
def aKP:bg:=kQn (λs=>[7].contains s)
def eZU:bg:=tB (λid=>if id=7 then(vy 0 (.af 4 [1] (vy 5 (.aa 9 .done))))else if id=9 then(vy 0 (iy 4 (.aa 11 (.af 6 [] (vy 7 (.af 12 [] (.af 13 [] (.af 14 [] .done))))))))else .done) (λ_=>false)
def eZT:bg:=tB (λid=>if id=6 then(Dg 0 (iy 8 (.af 10 [9,5] (.af 11 [] (.af 12 [] .done)))))else .done) (λ_=>false)
def eZS:bg:=tB (λid=>if id=4 then(vy 0 (.aa 4 (iy 8 (.af 5 [2,0] (iy 6 (.af 10 [0] (.af 11 [] (.af 12 [] (.af 13 [] .done)))))))))else .done) (λ_=>false)
def eZR:bg:=tB (λid=>if id=6 then(Dg 0 (.af 8 [] (.aa 9 .done)))else .done) (λ_=>false)
def eZQ:bg:=tB (λid=>if id=10 then(Dg 0 (vy 8 (.af 12 [4] (.af 13 [] (iy 14 (.af 16 [] .done))))))else .done) (λ_=>false)
def eZP:bg:=tB (λid=>if id=9 then(iy 1 (vy 4 (.aa 8 (.fork (.af 0 [6,2] (.fork (.af 3 [6] (.af 9 [] (.af 10 [] (.aa 11 (.af 12 [] .done))))) (.af 9 [2] (.af 3 [] (.af 10 [] (.aa 11 (.af 12 [] .done))))))) (.af 9 [2] (.af 0 [2] (.af 3 [] (.af 10 [] (.aa 11 (.af 12 [] .done))))))))))else .done) (λ_=>false)
def eZO:bg:=tB (λid=>if id=11 then(Dg 0 (vy 8 (.af 12 [] .done)))else .done) (λ_=>false)
def eZN:bg:=tB (λid=>if id=9 then(Dg 0 (vy 8 (.af 12 [] (.af 13 [] .done))))else .done) (λ_=>false)
def eZM:bg:=mz
def eZK:bg:=mz
def aKO:bg:=mz
def aKN:bg:=mz
def eZJ:bg:=tB (λid=>if id=1 then(iy 0 (.aa 3 (.aa 6 (.af 2 [1] (.af 4 [1] (.aa 5 (.af 7 [] .done)))))))else if id=3 then(iy 1 (.aa 4 (.fork (.af 0 [4,2] (.fork (.af 3 [4] (.af 5 [] (.af 6 [] (.aa 7 (.af 8 [] .done))))) (.af 5 [2] (.af 3 [] (.af 6 [] (.aa 7 (.af 8 [] .done))))))) (.af 5 [2] (.af 0 [2] (.af 3 [] (.af 6 [] (.aa 7 (.af 8 [] .done)))))))))else if id=6 then(iy 0 (.af 2 [1] (.af 3 [] .done)))else .done) (λ_=>false)
def eZI:bg:=tB (λid=>if id=1 then(iy 1 (iy 4 (.aa 6 (.af 0 [5,2] (.af 3 [5] (.af 7 [] (.af 8 [] .done)))))))else if id=6 then(iy 0 (.aa 2 (iy 4 (iy 7 (.af 3 [8,5] (.af 6 [8] (.af 9 [] (.af 10 [] (.af 11 [] (.af 12 [] .done))))))))))else if id=13 then(.aa 0 (.aa 2 (.af 1 [] (.af 3 [] (.af 4 [] .done)))))else .done) (λs=>[5,10,11].contains s)
def eZH:bg:=mz
def eZG:bg:=mz
def eZF:bg:=mz
def eZE:bg:=mz
def eZD:bg:=mz
def eZC:bg:=mz
def gKF:bg:=tB (λid=>if id=2 then(Dg 0 (vy 8 (.aa 12 (.af 13 [] .done))))else if id=8 then(vy 0 (iy 4 (.af 6 [] (vy 7 (.af 11 [] .done)))))else if id=9 then(kQM 0 (.aa 16 .done))else if id=10 then(Dg 0 (vy 8 (.aa 12 (.af 13 [] (vy 14 (.aa 18 (.af 19 [] .done)))))))else if id=11 then(kQM 0 (.af 16 [] .done))else .done) (λ_=>false)
def eZw:bg:=mz
def eZv:bg:=tB (λid=>if id=1 then(iy 0 (vy 4 (iy 8 (.fork (.af 2 [9] (.fork (.af 3 [9] (.af 10 [] (.af 11 [] (.af 12 [] (.af 13 [] (.af 14 [] .done)))))) (.af 10 [] (.af 3 [] (.af 11 [] (.af 12 [] (.af 13 [] (.af 14 [] .done)))))))) (.af 10 [1] (.af 2 [] (.af 3 [] (.af 11 [] (.af 12 [] (.af 13 [] (.af 14 [] .done)))))))))))else .done) (λs=>[1].contains s)
def aKM:bg:=tB (λid=>if id=7 then(iy 0 (.aa 2 (iy 4 (.aa 6 (.af 3 [] (.af 7 [] (.af 8 [] (.af 9 [] .done))))))))else .done) (λ_=>false)
def eZu:bg:=mz
def eZt:bg:=mz
def eZs:bg:=tB (λid=>if id=10 then(vy 0 (iy 4 (.af 6 [4] (.af 7 [] (iy 8 (.af 10 [] .done))))))else if id=11 then(Dg 0 (.af 8 [] .done))else .done) (λs=>[7].contains s)
def eZr:bg:=mz
def eZq:bg:=mz
def eZp:bg:=mz
def eZo:bg:=mz
def eZn:bg:=tB (λid=>if id=6 then(Dg 0 (iy 8 (.aa 10 .done)))else .done) (λ_=>false)
def eZm:bg:=mz
def eZl:bg:=mz
def eZk:bg:=kQn (λs=>[5].contains s)
def eZf:bg:=mz
def eZb:bg:=mz
def eZa:bg:=mz
def eXZ:bg:=kQn (λs=>[2,3].contains s)
def eXY:bg:=kQn (λs=>[3].contains s)
def eXX:bg:=tB (λid=>if id=11 then(Dg 0 (.af 8 [] .done))else if id=15 then(Dg 0 (.af 8 [] .done))else .done) (λ_=>false)
def eXW:bg:=tB (λid=>if id=8 then(vy 0 (iy 4 (.aa 6 (.af 7 [] (iy 8 (.aa 10 (.af 11 [] (.af 12 [] .done))))))))else .done) (λ_=>false)
def eXV:bg:=mz
def eXU:bg:=tB (λid=>if id=4 then(vy 0 (iy 4 (.aa 6 .done)))else if id=5 then(vy 0 (iy 4 (.aa 6 (.af 7 [] .done))))else .done) (λ_=>false)
def eXT:bg:=tB (λid=>if id=1 then(iy 0 (iy 3 (.aa 5 (.af 2 [4] (.af 6 [] (.af 7 [] .done))))))else if id=5 then(iy 0 (.aa 2 (iy 4 (iy 7 (.af 3 [8,5] (.af 6 [8] (.af 9 [] (.af 10 [] (.af 11 [] .done)))))))))else if id=7 then(iy 0 (.aa 2 (iy 4 (.af 3 [5] (.af 6 [] (.af 7 [] (.af 8 [] .done)))))))else .done) (λ_=>false)
def eXS:bg:=mz
def eXR:bg:=tB (λid=>if id=1 then(iy 0 (iy 3 (.aa 5 (.af 2 [4] (.af 6 [] (.af 7 [] .done))))))else if id=5 then(vy 0 (iy 4 (.aa 6 (vy 8 (iy 12 (vy 15 (iy 19 (.af 7 [20,16,13,9] (.af 14 [20,16] (.af 21 [] (.af 22 [] (.af 23 [] .done))))))))))))else if id=6 then(iy 0 (.aa 2 (iy 4 (.af 3 [5] (.af 6 [] (.af 7 [] (.af 8 [] .done)))))))else .done) (λ_=>false)
def aKL:bg:=mz
def eXQ:bg:=mz
def Uz:bg:=mz
def eXP:bg:=mz
def eXO:bg:=mz
def eXN:bg:=mz
def eXM:bg:=mz
def eXL:bg:=tB (λid=>if id=3 then(iy 0 (.af 2 [0] (kQM 3 (.af 19 [] .done))))else .done) (λ_=>false)
def eXK:bg:=mz
def eXJ:bg:=mz
def eXI:bg:=tB (λid=>if id=5 then(vy 0 (iy 4 (.af 6 [] (.aa 7 .done))))else if id=8 then(Dg 0 (iy 8 (.aa 10 (.af 11 [] (iy 12 (.af 14 [] (.af 15 [] .done)))))))else .done) (λ_=>false)
def eXH:bg:=tB (λid=>if id=1 then(iy 0 (.aa 3 (.af 2 [3] (.af 4 [] (.af 5 [] .done)))))else .done) (λ_=>false)
def eXG:bg:=tB (λid=>if id=1 then(vy 0 (vy 5 (vy 10 (.af 4 [13,11,8,6] (.af 9 [13,11] (.af 14 [] (.af 15 [] (.af 16 [] (.af 17 [] .done)))))))))else .done) (λ_=>false)
def eXF:bg:=tB (λid=>if id=1 then(Dg 0 (iy 8 (.af 10 [0] (vy 11 (iy 15 (.af 17 [] (.af 18 [] .done)))))))else .done) (λ_=>false)
def eXE:bg:=tB (λid=>if id=2 then(kQM 0 (iy 16 (.aa 18 (.af 19 [] .done))))else if id=4 then(iy 0 (vy 3 (.aa 9 (.af 2 [6,4] (.af 7 [] (.aa 8 (.af 10 [] .done)))))))else .done) (λ_=>false)
def eXD:bg:=mz
def eXC:bg:=mz
def eXB:bg:=mz
def eXA:bg:=mz
def aKK:bg:=mz
def eXz:bg:=tB (λid=>if id=1 then(vy 0 (.af 4 [1] (.aa 5 (.af 6 [] .done))))else .done) (λ_=>false)
def eXy:bg:=tB (λid=>if id=5 then(vy 0 (iy 4 (.af 6 [] (.af 7 [] .done))))else .done) (λ_=>false)
def eXx:bg:=tB (λid=>if id=1 then(iy 0 (.aa 2 (iy 4 (.aa 6 (.af 3 [5] (.af 7 [] (.aa 8 (.af 9 [] .done))))))))else .done) (λ_=>false)
def eXw:bg:=mz
def eXv:bg:=mz
def Uy:bg:=mz
def eXu:bg:=tB (λid=>if id=2 then(vy 0 (.aa 4 (.aa 7 (.af 5 [] (.af 6 [] (.af 8 [] (.af 9 [] (.af 10 [] .done))))))))else .done) (λs=>[3].contains s)
def aKJ:bg:=tB (λid=>if id=7 then(iy 0 (.aa 2 (iy 4 (.aa 6 (.af 3 [] (.af 7 [] (.af 8 [] (.af 9 [] (.af 10 [] .done)))))))))else .done) (λ_=>false)
def eXt:bg:=mz
def eXs:bg:=tB (λid=>if id=11 then(Dg 0 (.af 8 [] (.af 9 [] .done)))else .done) (λ_=>false)
def eXr:bg:=mz
def eXq:bg:=tB (λid=>if id=6 then(vy 0 (iy 4 (.aa 6 (.af 7 [] .done))))else if id=7 then(Dg 0 (.af 8 [4] (.af 9 [] (iy 10 (.af 12 [] .done)))))else .done) (λs=>[8].contains s)
def eXp:bg:=mz
def eXo:bg:=tB (λid=>if id=3 then(Dg 0 (.af 8 [] .done))else .done) (λ_=>false)
def aKI:bg:=mz
def eXn:bg:=mz
def eXm:bg:=mz
def eXl:bg:=mz
def eXj:bg:=mz
def eXi:bg:=tB (λid=>if id=2 then(Dg 0 (.af 8 [] (.af 9 [] .done)))else .done) (λ_=>false)
def eXh:bg:=mz
def eXg:bg:=mz
def eXf:bg:=tB (λid=>if id=9 then(iy 0 (.aa 2 (.aa 4 (.aa 6 (.af 3 [1] (.af 5 [1] (.af 7 [1] (.aa 8 (.af 9 [1] (.af 10 [] (.aa 11 (.af 12 [] .done))))))))))))else .done) (λ_=>false)
def eXe:bg:=mz
def eXd:bg:=kQn (λs=>[2].contains s)
def eQY:bg:=mz
def eQX:bg:=mz
def eQW:bg:=tB (λid=>if id=6 then(kQM 0 (vy 16 .done))else if id=8 then(Dg 0 (.af 8 [] (iy 9 (.af 11 [] .done))))else if id=13 then(vy 0 (.aa 5 (.fork (.af 4 [5] (.af 6 [] (.af 7 [] (.aa 8 (.af 9 [] .done))))) (.af 6 [3,1] (.af 4 [] (.af 7 [] (.aa 8 (.af 9 [] .done))))))))else .done) (λ_=>false)
def eQV:bg:=tB (λid=>if id=8 then(Dg 0 (vy 8 (.aa 13 (.af 12 [] (.af 14 [] (.aa 15 .done))))))else .done) (λ_=>false)
def aKH:bg:=tB (λid=>if id=4 then(vy 0 (iy 4 (.aa 6 (.af 7 [] (iy 8 (.aa 10 (.af 11 [] (.af 12 [] .done))))))))else if id=9 then(vy 0 (iy 4 (.aa 6 (.af 7 [] (.af 8 [] .done)))))else .done) (λ_=>false)
def eQU:bg:=tB (λid=>if id=4 then(iy 1 (.aa 4 (.fork (.af 0 [4,2] (.fork (.af 3 [4] (.af 5 [] (.af 6 [] (.aa 7 (.af 8 [] .done))))) (.af 5 [2] (.af 3 [] (.af 6 [] (.aa 7 (.af 8 [] .done))))))) (.af 5 [2] (.af 0 [2] (.af 3 [] (.af 6 [] (.aa 7 (.af 8 [] .done)))))))))else .done) (λ_=>false)
def eQT:bg:=mz
def eQS:bg:=mz
def eQR:bg:=tB (λid=>if id=5 then(Dg 0 (iy 8 (.aa 10 (vy 13 (.aa 17 (.af 11 [17,14,0] (.af 12 [17,14] (.af 18 [] (.af 19 [] (.af 20 [] (.af 21 [] .done)))))))))))else .done) (λ_=>false)
def eQQ:bg:=mz
def eQP:bg:=tB (λid=>if id=5 then(Dg 0 (iy 8 (.aa 10 (.af 11 [] .done))))else .done) (λ_=>false)
def aKG:bg:=tB (λid=>if id=6 then(Dg 0 (.aa 8 .done))else .done) (λ_=>false)
def eQO:bg:=mz
def eQN:bg:=mz
def eQM:bg:=tB (λid=>if id=8 then(Dg 0 (.af 8 [] (vy 9 (.af 13 [] .done))))else .done) (λ_=>false)
def eQL:bg:=mz
def eQK:bg:=tB (λid=>if id=5 then(vy 0 (iy 4 (.af 6 [] (.af 7 [] .done))))else .done) (λ_=>false)
def eQJ:bg:=mz
def eQI:bg:=mz
def eQG:bg:=kQn (λs=>[1].contains s)
def eQF:bg:=kQn (λs=>[7].contains s)
def eQE:bg:=mz
def eQD:bg:=kQn (λs=>[2,3].contains s)
def eQC:bg:=tB (λid=>if id=1 then(vy 0 (iy 4 (.af 6 [3,1] (.af 7 [] (.af 8 [] (.af 9 [] .done))))))else .done) (λ_=>false)
def eQB:bg:=mz
def eQA:bg:=mz
def eQz:bg:=mz
def eQy:bg:=tB (λid=>if id=1 then(kQM 0 (iy 16 (.aa 18 .done)))else if id=6 then(Dg 0 (vy 8 (iy 12 (.aa 14 (.af 15 [] .done)))))else .done) (λ_=>false)
def eQv:bg:=mz
def eQu:bg:=tB (λid=>if id=1 then(.aa 0 (.aa 2 (iy 4 (iy 7 (.af 1 [8,5] (.af 3 [8,5] (.af 6 [8] (.af 9 [] (.af 10 [] .done)))))))))else .done) (λ_=>false)
def eQt:bg:=tB (λid=>if id=5 then(Dg 0 (.aa 8 (.af 9 [] (.af 10 [] (.af 11 [] (.af 12 [] .done))))))else .done) (λ_=>false)
def eQs:bg:=mz
def eQr:bg:=mz
def eQq:bg:=kQn (λs=>[3].contains s)
def eQp:bg:=mz
def eQo:bg:=mz
def eQn:bg:=mz
def eQm:bg:=mz
def eQl:bg:=mz
def eQk:bg:=mz
def eQj:bg:=mz
def eQi:bg:=kQn (λs=>[3].contains s)
def eQh:bg:=mz
def eQg:bg:=mz
def eQf:bg:=mz
def eQe:bg:=mz
def eQd:bg:=tB (λid=>if id=9 then(Dg 0 (vy 8 (iy 13 (.fork (.af 12 [14,5,3] (.af 15 [5,3] (.af 16 [5,3] (.af 17 [] .done)))) (.af 15 [11,9,5,3] (.af 12 [5,3] (.af 16 [5,3] (.af 17 [] .done))))))))else .done) (λs=>[10].contains s)
def eQc:bg:=tB (λid=>if id=6 then(vy 0 (iy 4 (.aa 6 (.aa 9 (.af 7 [] (.aa 8 .done))))))else .done) (λ_=>false)
def eQb:bg:=mz
def eQa:bg:=mz
def dKZ:bg:=mz
def dKY:bg:=mz
def dKX:bg:=tB (λid=>if id=4 then(iy 1 (.af 0 [] (.af 3 [] (.af 4 [] (.af 5 [] .done)))))else .done) (λs=>[2,6].contains s)
def dKW:bg:=mz
def dKV:bg:=mz
def dKU:bg:=mz
def dKT:bg:=mz
def dKS:bg:=mz
def dKR:bg:=kQn (λs=>[2,3].contains s)
def dKQ:bg:=mz
def dKP:bg:=mz
def dKN:bg:=mz
def dKM:bg:=mz
def dKL:bg:=tB (λid=>if id=13 then(Dg 0 (iy 8 (.af 10 [] (iy 11 (.aa 13 (.af 14 [] (iy 15 .done)))))))else .done) (λ_=>false)
def dKK:bg:=mz
def Ux:bg:=tB (λid=>if id=12 then(Dg 0 (vy 8 .done))else .done) (λ_=>false)
def dKJ:bg:=tB (λid=>if id=2 then(kQM 0 (.aa 16 (.af 17 [] (iy 18 .done))))else .done) (λ_=>false)
def dKI:bg:=tB (λid=>if id=2 then(kQM 0 (.aa 16 (.af 17 [] (iy 18 .done))))else .done) (λ_=>false)
def aKF:bg:=tB (λid=>if id=8 then(Dg 0 (.aa 8 .done))else if id=9 then(Dg 0 (iy 8 (.af 10 [] (.af 11 [] .done))))else .done) (λ_=>false)
def dKH:bg:=mz
def dKG:bg:=tB (λid=>if id=1 then(iy 0 (.aa 2 (iy 4 (.aa 6 (.af 3 [5] (.af 7 [] (.aa 8 (.af 9 [] .done))))))))else .done) (λ_=>false)
def dKF:bg:=mz
def dKE:bg:=tB (λid=>if id=4 then(iy 0 (.aa 2 (.af 3 [] (.af 4 [] .done))))else if id=8 then(Dg 0 (vy 8 (iy 12 (.aa 14 (.af 15 [] .done)))))else .done) (λs=>[2].contains s)
def dKD:bg:=tB (λid=>if id=1 then(.aa 0 (.aa 2 (.aa 4 (.af 1 [] (.af 3 [] (.af 5 [] (.af 6 [] .done)))))))else .done) (λs=>[5].contains s)
def MV:bg:=mz
def dKC:bg:=mz
def dKB:bg:=mz
def dKA:bg:=mz
def dKz:bg:=mz
def aKE:bg:=mz
def dKy:bg:=mz
def dKx:bg:=mz
def dKw:bg:=mz
def dKv:bg:=mz
def dKu:bg:=mz
def dKs:bg:=mz
def dKr:bg:=mz
def dKq:bg:=mz
def dKp:bg:=tB (λid=>if id=6 then(vy 0 (.af 4 [] (.af 5 [] .done)))else if id=7 then(iy 0 (.aa 2 (.aa 4 (.aa 7 (Dg 11 (iy 19 (iy 22 (.aa 24 (iy 26 (.aa 28 (.af 3 [28,24,18,13,1] (.af 5 [28,24,18,13,1] (.aa 6 (.af 8 [28,24,18,13,1] (iy 9 (.aa 21 (.aa 25 (.aa 29 (.af 30 [] .done)))))))))))))))))))else if id=8 then(.aa 0 (.aa 2 (.aa 5 (Dg 8 (vy 16 (iy 20 (.aa 22 (.af 1 [20,18,14,10] (.af 3 [20,18,14,10] (.aa 4 (.af 6 [20,18,14,10] (.aa 7 (.aa 23 (.af 24 [] .done))))))))))))))else if id=14 then(Dg 0 (.af 8 [] .done))else .done) (λs=>[2,5,6,7].contains s)
def dKo:bg:=mz
def dKn:bg:=tB (λid=>if id=5 then(kQM 0 (kQM 16 (iy 32 (.aa 34 (.af 35 [] .done)))))else if id=10 then(Dg 0 (.af 8 [] (.af 9 [] .done)))else if id=11 then(vy 0 (iy 4 (.aa 7 (iy 10 (vy 14 (.aa 19 (.aa 21 (iy 24 (.af 6 [17,4] (.af 8 [17,4] (.aa 9 (iy 12 (.aa 18 (.af 20 [17,4] (.af 22 [17,4] (.aa 23 (iy 26 (.aa 28 (.af 29 [] .done)))))))))))))))))))else .done) (λs=>[3].contains s)
def dKm:bg:=mz
def dKl:bg:=mz
def dKk:bg:=mz
theorem bJz{c:Prop}[Decidable c]{a b:Ti}{q:Prop}(d:c->a=.none\/q)(e:¬c->b=.none\/q):(if c then a else b)=.none\/q:=by
 by_cases h:c
 .rw[if_pos h];exact d h
 rw[if_neg h];exact e h
theorem bZC(t:Nat):ty t=.none\/t∈VG:=by
 unfold ty;repeat' (first
  |exact .inl rfl
  | (refine bJz (λe=>?_) (λe=>?_)))
 all_goals (right;rw[e];decide)
theorem bZD:VG.map ty=VG.map (bJU Tryz.prog):=by kernel_rfl
theorem cXy:((List.range hZR).all λf=>bXN.contains f||(match Tryz.prog.funcs[f]? with
 |some fn=>fn.body.isSome&&decide (fn.name≠ "runtime.NumGoroutine")
 |none=>false))=true:=by kernel_rfl
theorem mixed:Tryz.prog.follows .mixedOrders=true:=by kernel_rfl
theorem bZK(pl:Nat->ye)(pb pn:Nat->Bool)(rs:List Nat)(kp:List PanicEntry->List SV->ad->Prop):gV Tryz.prog ⟨ty,aL,pl,pb,pn,rs,kp⟩where
 ty t:=by
  rcases bZC t with h|h
  .exact .inr h
  exact .inl (List.map_inj_left.1 bZD t h)
 fn f h:=by
  have h:aL f=true:=h;unfold aL at h;split at h
  .rename_i aU;have h1:=jKy.1 cXy f (by simpa using aU);simp only[kQL]at h1;rcases h1 with h1|h1
   .rw[h1]at h;cases h
   split at h1
   .rename_i fn Jx;simp only[ya,NB]at h1;exact⟨fn,Jx,h1.1,h1.2⟩
   cases h1
  cases h
 mixed:=mixed
theorem aj(l:Nat->ye)(p:Nat->Bool):gV Tryz.prog ⟨ty,aL,l,p,λ_=>false,[],λ_ _ _=>False⟩:=bZK l p _ _ _
theorem cg(T:bg)(d:Tryz.prog.funcs[f]? =some fn)
 (hx:∀(A:Ar) (_:bI A),cKU A ⟨ty,aL,T.aw,T.bq,λ_=>false,[],λ_ _ _=>False⟩ (λ_=>Tryz.prog) c fn.ntmps fn.results.toList args h R) (b:fn.body=some c:=by exact rfl) (o:fK ⟨ty,aL,T.aw,T.bq,λ_=>false,[],λ_ _ _=>False⟩ c=true:=by kernel_rfl):Gt (λ_=>Tryz.prog) f args h R:=by
 obtain⟨A,a⟩:=Ar.ex;exact ah A (aj T.aw T.bq) d b o (hx A a)
theorem fz(T:bg)(A:Ar)[bI A](a:Tryz.prog.funcs[f]? =some fn)
 (hx:cKU A ⟨ty,aL,T.aw,T.bq,λ_=>false,[],λ_ _ _=>False⟩ (λ_=>Tryz.prog) c fn.ntmps fn.results.toList args h R) (b:fn.body=some c:=by exact rfl) (o:fK ⟨ty,aL,T.aw,T.bq,λ_=>false,[],λ_ _ _=>False⟩ c=true:=by kernel_rfl):Gt (λ_=>Tryz.prog) f args h R:=ah A (aj T.aw T.bq) a b o hx
end Go.S
