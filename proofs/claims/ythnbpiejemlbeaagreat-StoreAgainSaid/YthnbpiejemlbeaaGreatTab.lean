import Derived.Test.YthnbpiejemlbeaaGreatProg
import Derived.Test.YthnbpiejemlbeaaGreatSxB
set_option linter.all false
namespace Go.S
open Go.Sx Go.Proofs
variable {c:Code}{fn:Func}{f:FuncId}{args:List Value}{R:Value->ad->Prop}{h:ad}
def y1:Ti:=⟨false,false,1,8,[.nilFunc],.fn⟩
def y2:Ti:=⟨false,false,1,8,[.zI 0],(.int .i64)⟩
def y3:Ti:=⟨false,false,1,8,[.zI 0],(.int .i64)⟩
def y4:Ti:=⟨false,false,1,1,[.bool false],.bool⟩
def y5:Ti:=⟨false,false,1,1,[.int .u8 0],(.int .u8)⟩
def y9:Ti:=⟨false,false,1,16,[.string ⟨#[]⟩],.str⟩
def iZi:Ti:=⟨false,false,1,4,[.int .i32 0],(.int .i32)⟩
def iZh:Ti:=⟨false,false,1,8,[.pointer none],(.ptr 41)⟩
def iZg:Ti:=⟨false,false,1,24,[.zN],(.rF 61)⟩
def iZf:Ti:=⟨false,false,1,24,[.zN],(.rF 79)⟩
def iZe:Ti:=⟨false,false,1,24,[.zN],(.rF 253)⟩
def iZd:Ti:=⟨false,true,2,48,[.zN,.zN],(.da [(28,0),(28,1)])⟩
def iZc:Ti:=⟨false,true,4,96,[.zN,.zN,.zN,.zN],(.da [(26,0),(27,1),(30,2)])⟩
def iZb:Ti:=⟨false,false,1,8,[.zI 0],(.int .i64)⟩
def iZa:Ti:=⟨false,false,1,8,[.pointer none],(.ptr 94)⟩
def iXZ:Ti:=⟨false,false,1,8,[.pointer none],(.ptr 231)⟩
def iXY:Ti:=⟨false,false,1,8,[.pointer none],(.ptr 158)⟩
def iXX:Ti:=⟨false,false,1,8,[.pointer none],(.ptr 197)⟩
def iXW:Ti:=⟨false,true,4,32,[.pointer none,.pointer none,.pointer none,.pointer none],(.da [(36,0),(37,1),(38,2),(39,3)])⟩
def iXV:Ti:=⟨true,true,3,32,[.zI 0,.zI 0,.string ⟨#[]⟩],(.da [(3,0),(3,1),(9,2)])⟩
def iXU:Ti:=⟨false,false,1,24,[.zN],(.rF 45)⟩
def iXT:Ti:=⟨false,false,1,24,[.zN],(.rF 172)⟩
def iXS:Ti:=⟨false,false,1,24,[.zN],(.rF 224)⟩
def iXR:Ti:=⟨false,false,1,24,[.zN],(.rF 47)⟩
def iXQ:Ti:=⟨false,true,4,80,[.zI 0,.zN,.zN,.zN],(.da [(3,0),(47,1),(48,2),(49,3)])⟩
def iXP:Ti:=⟨false,false,1,24,[.zN],(.rF 202)⟩
def iXO:Ti:=⟨false,true,4,56,[.string ⟨#[]⟩,.zN,.zI 0,.bool false],(.da [(9,0),(56,1),(3,2),(4,3)])⟩
def iXN:Ti:=⟨false,false,1,24,[.zN],(.rF 46)⟩
def iXM:Ti:=⟨false,true,5,80,[.string ⟨#[]⟩,.zN,.zI 0,.bool false,.zN],(.da [(58,0),(59,4)])⟩
def iXL:Ti:=⟨false,false,1,24,[.zN],(.rF 73)⟩
def iXK:Ti:=⟨false,false,1,24,[.zN],(.rF 3)⟩
def iXJ:Ti:=⟨true,true,5,40,[.zI 0,.zI 0,.zI 0,.zI 0,.bool false],(.da [(3,0),(3,1),(3,2),(3,3),(4,4)])⟩
def iXI:Ti:=⟨false,true,8,80,[.zI 0,.zI 0,.zI 0,.zI 0,.zI 0,.zI 0,.bool false,.zN],(.da [(3,0),(3,1),(71,2),(68,7)])⟩
def iXH:Ti:=⟨false,false,1,24,[.zN],(.rF 59)⟩
def iXG:Ti:=⟨false,false,1,24,[.zN],(.rF 161)⟩
def iXF:Ti:=⟨false,false,1,24,[.zN],(.rF 183)⟩
def iXE:Ti:=⟨false,true,3,56,[.zI 0,.zN,.zN],(.da [(3,0),(76,1),(77,2)])⟩
def iXD:Ti:=⟨true,true,0,0,[],(.da [])⟩
def iXC:Ti:=⟨true,true,0,0,[],(.da [])⟩
def iXB:Ti:=⟨false,true,1,8,[.zI 0],(.da [(82,0),(83,0),(2,0)])⟩
def iXA:Ti:=⟨false,false,1,4,[.zU 0],(.int .u32)⟩
def iXz:Ti:=⟨false,true,1,4,[.zU 0],(.da [(82,0),(86,0)])⟩
def iXy:Ti:=⟨false,true,2,16,[.zI 0,.zU 0],(.da [(85,0),(88,1)])⟩
def iXx:Ti:=⟨false,false,1,24,[.zN],(.rF 211)⟩
def iXw:Ti:=⟨false,false,1,24,[.zN],(.rF 213)⟩
def iXv:Ti:=⟨false,true,5,88,[.zI 0,.zU 0,.zN,.zN,.zN],(.da [(90,0),(91,2),(91,3),(92,4)])⟩
def iXu:Ti:=⟨false,false,1,24,[.zN],(.rF 102)⟩
def fKP:Ti:=⟨false,true,32,32,(List.replicate 32 (.int .u8 0)),(.arr 32 5)⟩
def fKO:Ti:=⟨false,true,33,40,.zI 0::zuR 32 [],(.da [(3,0),(100,1)])⟩
def fKN:Ti:=⟨false,false,1,24,[.zN],(.rF 113)⟩
def fKM:Ti:=⟨false,true,4,80,[.zI 0,.zN,.zN,.zN],(.da [(3,0),(47,1),(107,2),(49,3)])⟩
def fKL:Ti:=⟨false,true,66,80,.zI 0::zuR 64 [.zI 0],(.da [(3,0),(100,1),(100,33),(3,65)])⟩
def fKK:Ti:=⟨false,false,1,24,[.zN],(.rF 132)⟩
def fKJ:Ti:=⟨false,false,1,24,[.zN],(.rF 337)⟩
def fKI:Ti:=⟨false,false,1,24,[.zN],(.rF 422)⟩
def fKH:Ti:=⟨false,true,2,48,[.zN,.zN],(.da [(124,0),(124,1)])⟩
def fKG:Ti:=⟨false,true,4,96,[.zN,.zN,.zN,.zN],(.da [(122,0),(123,1),(126,2)])⟩
def fKF:Ti:=⟨false,true,5,80,[.string ⟨#[]⟩,.zN,.zI 0,.bool false,.zN],(.da [(58,0),(59,4)])⟩
def fKE:Ti:=⟨false,false,1,8,[.pointer none],(.ptr 148)⟩
def fKD:Ti:=⟨true,true,0,0,[],(.da [])⟩
def fKC:Ti:=⟨true,true,2,8,[.int .i32 0,.zU 0],(.da [(21,0),(86,1)])⟩
def fKB:Ti:=⟨false,true,2,8,[.int .i32 0,.zU 0],(.da [(140,0),(142,0)])⟩
def fKA:Ti:=⟨false,true,3,12,[.zU 0,.int .i32 0,.zU 0],(.da [(140,0),(88,0),(144,1)])⟩
def fKz:Ti:=⟨false,true,8,120,[.zN,.zN,.zN,.zN,.zU 0,.int .i32 0,.zU 0,.zI 0],(.da [(32,0),(146,4),(33,7)])⟩
def fKy:Ti:=⟨false,true,8,176,[.zN,.zN,.zN,.zN,.zI 0,.zN,.zN,.zN],(.da [(32,0),(51,4)])⟩
def fKx:Ti:=⟨false,false,1,8,[.pointer none],(.ptr 150)⟩
def fKw:Ti:=⟨false,false,1,8,[.pointer none],(.ptr 294)⟩
def fKv:Ti:=⟨false,true,0,0,[],(.arr 0 151)⟩
def fKu:Ti:=⟨false,false,1,8,[.pointer none],.gXe⟩
def fKt:Ti:=⟨false,true,1,8,[.pointer none],(.da [(153,0),(82,0),(154,0)])⟩
def fKs:Ti:=⟨false,true,2,16,[.pointer none,.pointer none],(.da [(152,0),(156,1)])⟩
def fKr:Ti:=⟨false,true,3,48,[.string ⟨#[]⟩,.zI 0,.zN],(.da [(9,0),(3,1),(46,2)])⟩
def fKq:Ti:=⟨false,false,1,8,[.nilFunc],.fn⟩
def fKp:Ti:=⟨false,false,1,8,[.nilFunc],.fn⟩
def fKo:Ti:=⟨false,true,2,32,[.zI 0,.zN],(.da [(3,0),(76,1)])⟩
def fKn:Ti:=⟨false,false,1,24,[.zN],(.rF 5)⟩
def fKm:Ti:=⟨false,false,1,8,[.nilFunc],.fn⟩
def fKl:Ti:=⟨false,false,1,8,[.nilFunc],.fn⟩
def fKk:Ti:=⟨true,true,2,24,[.string ⟨#[]⟩,.zI 0],(.da [(9,0),(3,1)])⟩
def fKj:Ti:=⟨false,false,1,8,[.nilFunc],.fn⟩
def fKi:Ti:=⟨false,false,1,8,[.nilFunc],.fn⟩
def fKh:Ti:=⟨false,false,1,24,[.zN],(.rF 176)⟩
def fKg:Ti:=⟨false,false,1,8,[.pointer none],(.ptr 353)⟩
def fKf:Ti:=⟨false,true,9,184,[.pointer none,.zN,.zN,.zN,.zN,.zI 0,.zN,.zN,.zN],(.da [(195,0),(128,1),(109,5)])⟩
def fKe:Ti:=⟨false,false,1,24,[.zN],(.rF 9)⟩
def fKd:Ti:=⟨true,true,3,32,[.string ⟨#[]⟩,.zI 0,.bool false],(.da [(9,0),(3,1),(4,2)])⟩
def fKc:Ti:=⟨false,false,1,8,[.pointer none],(.ptr 90)⟩
def fKb:Ti:=⟨false,true,64,64,(List.replicate 64 (.int .u8 0)),(.arr 64 5)⟩
def fKa:Ti:=⟨false,true,64,64,(List.replicate 64 (.int .u8 0)),(.arr 64 5)⟩
def fJZ:Ti:=⟨false,true,65,72,.zI 0::zuR 64 [],(.da [(3,0),(211,1)])⟩
def fJY:Ti:=⟨false,true,66,80,.zI 0::zuR 64 [.zI 0],(.da [(3,0),(100,1),(100,33),(3,65)])⟩
def fJX:Ti:=⟨false,false,1,24,[.zN],(.rF 210)⟩
def fJW:Ti:=⟨false,false,1,24,[.zN],(.rF 326)⟩
def fJV:Ti:=⟨false,true,5,88,[.zN,.zN,.zN,.zI 0,.bool false],(.da [(228,0),(228,1),(229,2),(3,3),(4,4)])⟩
def fJU:Ti:=⟨false,false,1,24,[.zN],(.rF 100)⟩
def fJT:Ti:=⟨false,true,75,216,.zI 0::.string ⟨#[]⟩::.zN::.zI 0::.bool false::.string ⟨#[]⟩::.zI 0::.zN::.zN::zuR 32 (.bool false::.zI 0::zuR 32 []),(.da [(3,0),(58,1),(9,5),(172,6),(234,8),(100,9),(4,41),(3,42),(100,43)])⟩
def fJS:Ti:=⟨false,false,1,8,[.nilFunc],.fn⟩
def fJR:Ti:=⟨false,false,1,8,[.nilFunc],.fn⟩
def fJQ:Ti:=⟨false,false,1,8,[.nilFunc],.fn⟩
def fJP:Ti:=⟨true,true,3,32,[.zI 0,.string ⟨#[]⟩,.bool false],(.da [(3,0),(9,1),(4,2)])⟩
def fJO:Ti:=⟨false,false,1,8,[.pointer none],(.ptr 156)⟩
def fJN:Ti:=⟨false,false,1,8,[.pointer none],(.ptr 154)⟩
def fJM:Ti:=⟨false,true,5,80,[.string ⟨#[]⟩,.zN,.zI 0,.bool false,.zN],(.da [(61,0)])⟩
def fJL:Ti:=⟨false,false,1,8,[.nilFunc],.fn⟩
def fJK:Ti:=⟨false,false,1,8,[.nilFunc],.fn⟩
def fJJ:Ti:=⟨false,false,1,8,[.pointer none],(.ptr 277)⟩
def fJI:Ti:=⟨false,true,7,96,[.zI 0,.zN,.zN,.zN,.zU 0,.int .i32 0,.zU 0],(.da [(51,0),(146,4)])⟩
def fJH:Ti:=⟨false,false,1,8,[.nilFunc],.fn⟩
def fJG:Ti:=⟨false,true,4,48,[.zI 0,.zI 0,.zN,.bool false],(.da [(3,0),(3,1),(189,2),(4,3)])⟩
def fJF:Ti:=⟨false,true,3,24,[.pointer none,.zI 0,.zI 0],(.da [(36,0),(85,1),(85,2)])⟩
def fJE:Ti:=⟨false,false,1,8,[.pointer none],(.ptr 299)⟩
def fJD:Ti:=⟨false,false,1,8,[.pointer none],(.ptr 411)⟩
def fJC:Ti:=⟨false,true,5,24,[.pointer none,.zU 0,.int .i32 0,.zU 0,.bool false],(.da [(296,0),(146,1),(4,4)])⟩
def fJB:Ti:=⟨false,true,65,72,.zI 0::zuR 64 [],(.da [(3,0),(210,1)])⟩
def fJA:Ti:=⟨false,false,1,8,[.int .u64 0],(.int .u64)⟩
def fJz:Ti:=⟨false,false,1,24,[.zN],(.rF 340)⟩
def fJy:Ti:=⟨false,true,3,56,[.zI 0,.zN,.zN],(.da [(3,0),(76,1),(335,2)])⟩
def fJx:Ti:=⟨true,true,2,24,[.string ⟨#[]⟩,.zI 0],(.da [(9,0),(3,1)])⟩
def fJw:Ti:=⟨false,false,1,8,[.pointer none],(.ptr 85)⟩
def fJv:Ti:=⟨false,false,1,8,[.pointer none],(.ptr 2)⟩
def fJu:Ti:=⟨false,false,1,8,[.pointer none],(.ptr 88)⟩
def fJt:Ti:=⟨false,false,1,8,[.pointer none],(.ptr 86)⟩
def fJs:Ti:=⟨false,true,3,24,[.pointer none,.zI 0,.zI 0],(.da [(37,0),(3,1),(3,2)])⟩
def fJr:Ti:=⟨false,true,64,256,(List.replicate 64 (.zU 0)),(.arr 64 86)⟩
def fJq:Ti:=⟨false,true,8,32,[.zU 0,.zU 0,.zU 0,.zU 0,.zU 0,.zU 0,.zU 0,.zU 0],(.arr 8 86)⟩
def fJp:Ti:=⟨false,false,1,8,[.int .u64 0],(.int .u64)⟩
def fJo:Ti:=⟨false,false,1,8,[.pointer none],(.ptr 370)⟩
def fJn:Ti:=⟨false,true,3,40,[.zN,.zI 0,.zI 0],(.da [(176,0),(3,1),(3,2)])⟩
def fJm:Ti:=⟨false,false,1,8,[.nilFunc],.fn⟩
def fJl:Ti:=⟨false,false,1,8,[.nilFunc],.fn⟩
def fJk:Ti:=⟨false,false,1,8,[.pointer none],(.ptr 146)⟩
def fJj:Ti:=⟨false,false,1,8,[.pointer none],(.ptr 407)⟩
def fJi:Ti:=⟨false,true,6,56,[.pointer none,.zU 0,.int .i32 0,.zU 0,.zN,.zI 0],(.da [(36,0),(146,1),(176,4),(33,5)])⟩
def fJh:Ti:=⟨false,true,5,48,[.zN,.zI 0,.zU 0,.int .i32 0,.zU 0],(.da [(176,0),(33,1),(146,2)])⟩
def fJg:Ti:=⟨true,true,3,32,[.zI 0,.string ⟨#[]⟩,.bool false],(.da [(3,0),(9,1),(4,2)])⟩
def fJf:Ti:=⟨false,false,1,8,[.nilFunc],.fn⟩
def fJe:Ti:=⟨false,false,1,8,[.map none],(.mp 9 4)⟩
def fJd:Ti:=⟨false,true,4,24,[.zU 0,.int .i32 0,.zU 0,.map none],(.da [(146,0),(453,3)])⟩
def fJc:Ti:=⟨false,false,1,8,[.nilFunc],.fn⟩
def fJb:Ti:=⟨false,false,1,8,[.pointer none],(.ptr 504)⟩
def fJa:Ti:=⟨false,false,1,8,[.map none],(.mp 3 4)⟩
def fZZ:Ti:=⟨false,false,1,8,[.nilFunc],.fn⟩
def fZY:Ti:=⟨false,false,1,8,[.pointer none],(.ptr 493)⟩
def fZX:Ti:=⟨false,true,36,72,.zN::.zU 0::.int .i32 0::.zU 0::zuR 32 [],(.da [(176,0),(146,1),(100,4)])⟩
def fZW:Ti:=⟨false,false,1,8,[.pointer none],(.ptr 455)⟩
def fZV:Ti:=⟨false,false,1,8,[.nilFunc],.fn⟩
def fZU:Ti:=⟨false,false,1,24,[.zN],(.rF 28)⟩
def fZT:Ti:=⟨false,false,1,8,[.map none],(.mp 3 68)⟩
def fZS:Ti:=⟨false,true,2,16,[.map none,.zI 0],(.da [(502,0),(85,1)])⟩
def fZR:Ti:=⟨false,false,1,8,[.pointer none],(.ptr 144)⟩
def fZQ:Ti:=⟨false,true,1,8,[.pointer none],(.da [(296,0)])⟩
def fZP:Ti:=⟨false,true,8,32,[.zU 0,.zU 0,.zU 0,.zU 0,.zU 0,.zU 0,.zU 0,.zU 0],(.arr 8 86)⟩
def fZO:Ti:=⟨false,false,1,8,[.pointer none],(.ptr 142)⟩
def fZN:Ti:=⟨false,false,1,8,[.pointer none],(.ptr 21)⟩
def ty(t:Nat):Ti:=if t<179 then(if t<83 then(if t<45 then(if t<27 then(if t<5 then(if t<3 then(if t<2 then(if t=1 then y1 else .none)else(if t=2 then y2 else .none))else(if t<4 then(if t=3 then y3 else .none)else(if t=4 then y4 else .none)))else(if t<21 then(if t<9 then(if t=5 then y5 else .none)else(if t=9 then y9 else .none))else(if t<23 then(if t=21 then iZi else .none)else(if t<26 then(if t=23 then iZh else .none)else(if t=26 then iZg else .none)))))else(if t<36 then(if t<30 then(if t<28 then(if t=27 then iZf else .none)else(if t=28 then iZe else .none))else(if t<32 then(if t=30 then iZd else .none)else(if t<33 then(if t=32 then iZc else .none)else(if t=33 then iZb else .none))))else(if t<38 then(if t<37 then(if t=36 then iZa else .none)else(if t=37 then iXZ else .none))else(if t<39 then(if t=38 then iXY else .none)else(if t<41 then(if t=39 then iXX else .none)else(if t=41 then iXW else .none))))))else(if t<61 then(if t<49 then(if t<47 then(if t<46 then(if t=45 then iXV else .none)else(if t=46 then iXU else .none))else(if t<48 then(if t=47 then iXT else .none)else(if t=48 then iXS else .none)))else(if t<56 then(if t<51 then(if t=49 then iXR else .none)else(if t=51 then iXQ else .none))else(if t<58 then(if t=56 then iXP else .none)else(if t<59 then(if t=58 then iXO else .none)else(if t=59 then iXN else .none)))))else(if t<75 then(if t<68 then(if t<66 then(if t=61 then iXM else .none)else(if t=66 then iXL else .none))else(if t<71 then(if t=68 then iXK else .none)else(if t<73 then(if t=71 then iXJ else .none)else(if t=73 then iXI else .none))))else(if t<77 then(if t<76 then(if t=75 then iXH else .none)else(if t=76 then iXG else .none))else(if t<79 then(if t=77 then iXF else .none)else(if t<82 then(if t=79 then iXE else .none)else(if t=82 then iXD else .none)))))))else(if t<132 then(if t<100 then(if t<90 then(if t<86 then(if t<85 then(if t=83 then iXC else .none)else(if t=85 then iXB else .none))else(if t<88 then(if t=86 then iXA else .none)else(if t=88 then iXz else .none)))else(if t<92 then(if t<91 then(if t=90 then iXy else .none)else(if t=91 then iXx else .none))else(if t<94 then(if t=92 then iXw else .none)else(if t<98 then(if t=94 then iXv else .none)else(if t=98 then iXu else .none)))))else(if t<122 then(if t<107 then(if t<102 then(if t=100 then fKP else .none)else(if t=102 then fKO else .none))else(if t<109 then(if t=107 then fKN else .none)else(if t<113 then(if t=109 then fKM else .none)else(if t=113 then fKL else .none))))else(if t<124 then(if t<123 then(if t=122 then fKK else .none)else(if t=123 then fKJ else .none))else(if t<126 then(if t=124 then fKI else .none)else(if t<128 then(if t=126 then fKH else .none)else(if t=128 then fKG else .none))))))else(if t<153 then(if t<146 then(if t<140 then(if t<134 then(if t=132 then fKF else .none)else(if t=134 then fKE else .none))else(if t<142 then(if t=140 then fKD else .none)else(if t<144 then(if t=142 then fKC else .none)else(if t=144 then fKB else .none))))else(if t<150 then(if t<148 then(if t=146 then fKA else .none)else(if t=148 then fKz else .none))else(if t<151 then(if t=150 then fKy else .none)else(if t<152 then(if t=151 then fKx else .none)else(if t=152 then fKw else .none)))))else(if t<164 then(if t<156 then(if t<154 then(if t=153 then fKv else .none)else(if t=154 then fKu else .none))else(if t<158 then(if t=156 then fKt else .none)else(if t<161 then(if t=158 then fKs else .none)else(if t=161 then fKr else .none))))else(if t<172 then(if t<165 then(if t=164 then fKq else .none)else(if t=165 then fKp else .none))else(if t<176 then(if t=172 then fKo else .none)else(if t<178 then(if t=176 then fKn else .none)else(if t=178 then fKm else .none))))))))else(if t<335 then(if t<246 then(if t<208 then(if t<189 then(if t<184 then(if t<183 then(if t=179 then fKl else .none)else(if t=183 then fKk else .none))else(if t<186 then(if t=184 then fKj else .none)else(if t=186 then fKi else .none)))else(if t<197 then(if t<195 then(if t=189 then fKh else .none)else(if t=195 then fKg else .none))else(if t<200 then(if t=197 then fKf else .none)else(if t<202 then(if t=200 then fKe else .none)else(if t=202 then fKd else .none)))))else(if t<228 then(if t<211 then(if t<210 then(if t=208 then fKc else .none)else(if t=210 then fKb else .none))else(if t<213 then(if t=211 then fKa else .none)else(if t<224 then(if t=213 then fJZ else .none)else(if t=224 then fJY else .none))))else(if t<231 then(if t<229 then(if t=228 then fJX else .none)else(if t=229 then fJW else .none))else(if t<234 then(if t=231 then fJV else .none)else(if t<236 then(if t=234 then fJU else .none)else(if t=236 then fJT else .none))))))else(if t<275 then(if t<256 then(if t<250 then(if t<248 then(if t=246 then fJS else .none)else(if t=248 then fJR else .none))else(if t<253 then(if t=250 then fJQ else .none)else(if t=253 then fJP else .none)))else(if t<260 then(if t<258 then(if t=256 then fJO else .none)else(if t=258 then fJN else .none))else(if t<269 then(if t=260 then fJM else .none)else(if t<274 then(if t=269 then fJL else .none)else(if t=274 then fJK else .none)))))else(if t<295 then(if t<278 then(if t<277 then(if t=275 then fJJ else .none)else(if t=277 then fJI else .none))else(if t<290 then(if t=278 then fJH else .none)else(if t<294 then(if t=290 then fJG else .none)else(if t=294 then fJF else .none))))else(if t<299 then(if t<296 then(if t=295 then fJE else .none)else(if t=296 then fJD else .none))else(if t<326 then(if t=299 then fJC else .none)else(if t<327 then(if t=326 then fJB else .none)else(if t=327 then fJA else .none)))))))else(if t<422 then(if t<357 then(if t<344 then(if t<340 then(if t<337 then(if t=335 then fJz else .none)else(if t=337 then fJy else .none))else(if t<342 then(if t=340 then fJx else .none)else(if t=342 then fJw else .none)))else(if t<347 then(if t<345 then(if t=344 then fJv else .none)else(if t=345 then fJu else .none))else(if t<353 then(if t=347 then fJt else .none)else(if t<355 then(if t=353 then fJs else .none)else(if t=355 then fJr else .none)))))else(if t<393 then(if t<364 then(if t<358 then(if t=357 then fJq else .none)else(if t=358 then fJp else .none))else(if t<370 then(if t=364 then fJo else .none)else(if t<387 then(if t=370 then fJn else .none)else(if t=387 then fJm else .none))))else(if t<405 then(if t<397 then(if t=393 then fJl else .none)else(if t=397 then fJk else .none))else(if t<407 then(if t=405 then fJj else .none)else(if t<411 then(if t=407 then fJi else .none)else(if t=411 then fJh else .none))))))else(if t<496 then(if t<468 then(if t<453 then(if t<440 then(if t=422 then fJg else .none)else(if t=440 then fJf else .none))else(if t<455 then(if t=453 then fJe else .none)else(if t<465 then(if t=455 then fJd else .none)else(if t=465 then fJc else .none))))else(if t<490 then(if t<470 then(if t=468 then fJb else .none)else(if t=470 then fJa else .none))else(if t<491 then(if t=490 then fZZ else .none)else(if t<493 then(if t=491 then fZY else .none)else(if t=493 then fZX else .none)))))else(if t<505 then(if t<501 then(if t<498 then(if t=496 then fZW else .none)else(if t=498 then fZV else .none))else(if t<502 then(if t=501 then fZU else .none)else(if t<504 then(if t=502 then fZT else .none)else(if t=504 then fZS else .none))))else(if t<509 then(if t<507 then(if t=505 then fZR else .none)else(if t=507 then fZQ else .none))else(if t<513 then(if t=509 then fZP else .none)else(if t<515 then(if t=513 then fZO else .none)else(if t=515 then fZN else .none))))))))
def Xm:List Nat:=[1,2,3,4,5,9,21,23,26,27,28,30,32,33,36,37,38,39,41,45,46,47,48,49,51,56,58,59,61,66,68,71,73,75,76,77,79,82,83,85,86,88,90,91,92,94,98,100,102,107,109,113,122,123,124,126,128,132,134,140,142,144,146,148,150,151,152,153,154,156,158,161,164,165,172,176,178,179,183,184,186,189,195,197,200,202,208,210,211,213,224,228,229,231,234,236,246,248,250,253,256,258,260,269,274,275,277,278,290,294,295,296,299,326,327,335,337,340,342,344,345,347,353,355,357,358,364,370,387,393,397,405,407,411,422,440,453,455,465,468,470,490,491,493,496,498,501,502,504,505,507,509,513,515]
def bJh:List Nat:=[0,1,103,109,120,182,183,306,324,329,332,362,373,374,375,376,378,379,384,385,386,387,388,389,390,392,393,394,395,396,397,398,399,400,401,402,403,404,405,406,407,408]
def hKB:Nat:=409
def aP(f:Nat):Bool:=if f<hKB then !bJh.contains f else false
def za(p:Nat->yS)(b:Nat->Bool):bt:=⟨ty,aP,p,b,λ_=>false,[],λ_ _ _=>False⟩
def kZm(b:Nat->Bool):bt:=za (λ_=>.done) b
def qH:bt:=kZm (λ_=>false)
def lA(a:Nat)(p:yS):yS:=.aa a (.aa (a+1) p)
def Bk(a:Nat)(p:yS):yS:=lA a (lA (a+2) p)
def kQS(a:Nat)(p:yS):yS:=Bk a (Bk (a+4) p)
def kZW(a:Nat)(p:yS):yS:=kQS a (kQS (a+8) p)
def T8:bt:=za (λid=>if id=16 then(Bk 0 (lA 4 (.aa 10 (.af 6 [] (lA 7 (.aa 9 (.af 11 [] (.af 12 [] .done))))))))else if id=20 then(.aa 0 (.aa 2 (.af 1 [2] (.af 3 [] (lA 4 (Bk 8 (.af 6 [11] (.af 7 [11] (.af 12 [] (.af 13 [] (.af 14 [] (.aa 15 (.af 16 [] .done)))))))))))))else .done) (λ_=>false)
def T9:bt:=qH
def iXn:bt:=za (λid=>if id=10 then(kQS 0 (lA 8 (.af 10 [] .done)))else if id=11 then(kQS 0 (lA 8 (.af 10 [] .done)))else .done) (λs=>[8].contains s)
def iXm:bt:=qH
def iXl:bt:=qH
def iXk:bt:=qH
def fZH:bt:=kZm (λs=>[7].contains s)
def fZG:bt:=qH
def iXj:bt:=za (λid=>if id=1 then(Bk 0 (lA 5 (.aa 7 (.af 4 [] (.af 8 [] (Bk 9 (.af 13 [] (.af 14 [] .done))))))))else .done) (λs=>[17].contains s)
def iXi:bt:=za (λid=>if id=6 then(kQS 0 (.aa 8 (.af 9 [] (.af 10 [] .done))))else if id=9 then(lA 0 (.aa 2 (lA 4 (.aa 6 (.af 3 [5,4] (.af 7 [] (.af 8 [] .done)))))))else if id=12 then(kQS 0 (.aa 8 (.af 9 [] (.af 10 [] .done))))else .done) (λs=>[45,84].contains s)
def iXh:bt:=kZm (λs=>[5].contains s)
def dQQ:bt:=kZm (λs=>[22,38].contains s)
def iXg:bt:=qH
def fZF:bt:=za (λid=>if id=7 then(Bk 0 (.aa 4 (Bk 6 (lA 10 (.aa 12 (lA 18 (.af 5 [12,9,0] (.af 13 [] (Bk 14 (.af 20 [] (.af 21 [] (.af 22 [] .done))))))))))))else if id=8 then(Bk 0 (.aa 4 (.af 5 [] .done)))else if id=9 then(Bk 0 (lA 4 (.aa 6 (.af 7 [] .done))))else if id=14 then(Bk 0 (lA 4 (.aa 6 (.af 7 [3] (.af 8 [] (lA 9 (.aa 11 (.af 12 [] (.af 13 [] .done)))))))))else if id=15 then(Bk 0 (lA 4 (.aa 6 (.af 7 [3] (.af 8 [] (lA 9 (.aa 11 (.af 12 [] (.af 13 [] .done)))))))))else if id=22 then(lA 1 (lA 6 (.aa 13 (.fork (.af 0 [7,2] (.af 3 [7] (.aa 4 (.aa 5 (.af 8 [5] (.aa 9 (.aa 10 (.af 11 [5] (.aa 12 (.af 14 [] .done)))))))))) (.af 3 [7] (.fork (.af 0 [7] (.aa 4 (.aa 5 (.af 8 [5] (.aa 9 (.aa 10 (.af 11 [5] (.aa 12 (.af 14 [] .done))))))))) (.af 8 [] (.aa 9 (.aa 10 (.fork (.af 0 [] (.aa 4 (.aa 5 (.af 11 [5] (.aa 12 (.af 14 [] .done)))))) (.af 11 [] (.af 0 [] (.aa 4 (.aa 5 (.aa 12 (.af 14 [] .done))))))))))))))))else if id=23 then(Bk 0 (.aa 4 (Bk 6 (.aa 10 (.af 5 [10,9] (.af 11 [] (.aa 12 (.af 13 [] .done))))))))else if id=26 then(Bk 0 (.aa 4 (Bk 6 (.aa 10 (.af 5 [9] (.af 11 [] (.aa 12 (.af 13 [] .done))))))))else if id=28 then(kQS 0 (.af 8 [3] (.af 9 [] .done)))else if id=29 then(Bk 0 (lA 4 (.af 6 [3] (.af 7 [] .done))))else if id=31 then(Bk 0 (lA 5 (.af 4 [6,3] (.af 7 [3] (.af 8 [] .done)))))else if id=32 then(Bk 0 (lA 4 (.af 6 [] .done)))else .done) (λ_=>false)
def iXf:bt:=qH
def iXe:bt:=za (λid=>if id=5 then(lA 0 (Bk 3 (lA 7 (.af 2 [7,6] (.af 9 [] (.af 10 [] .done))))))else .done) (λ_=>false)
def iXd:bt:=za (λid=>if id=4 then(kQS 0 (.af 8 [3] (.af 9 [] (.af 10 [] .done))))else .done) (λ_=>false)
def iXc:bt:=qH
def iXb:bt:=qH
def iXa:bt:=za (λid=>if id=6 then(kQS 0 (lA 8 (.aa 10 .done)))else if id=11 then(kQS 0 (lA 8 (.af 10 [] (.aa 11 .done))))else .done) (λ_=>false)
def iQZ:bt:=za (λid=>if id=3 then(.aa 0 (.aa 2 (.fork (.af 1 [] (.af 3 [] (.aa 4 (.af 5 [] (.af 6 [] (.af 7 [] .done)))))) (.af 3 [] (.af 1 [] (.aa 4 (.af 5 [] (.af 6 [] (.af 7 [] .done)))))))))else .done) (λs=>[15].contains s)
def iQY:bt:=za (λid=>if id=3 then(.aa 0 (.aa 2 (.fork (.af 1 [] (.af 3 [] (.aa 4 (.af 5 [] (.af 6 [] (.af 7 [] .done)))))) (.af 3 [] (.af 1 [] (.aa 4 (.af 5 [] (.af 6 [] (.af 7 [] .done)))))))))else .done) (λs=>[15].contains s)
def iQX:bt:=kZm (λs=>[22].contains s)
def iQW:bt:=za (λid=>if id=5 then(lA 0 (.af 2 [0] (.af 3 [] (lA 4 (.aa 6 (.af 7 [] .done))))))else if id=6 then(lA 0 (.af 2 [0] (.af 3 [] (lA 4 (.aa 6 (.af 7 [] .done))))))else if id=7 then(lA 0 (.af 2 [1] (.af 3 [] .done)))else .done) (λ_=>false)
def iQV:bt:=za (λid=>if id=2 then(Bk 0 (.aa 4 (.aa 9 (.af 5 [] (lA 6 (.aa 8 (.af 10 [] (.af 11 [] .done))))))))else if id=5 then(lA 0 (Bk 3 (lA 7 (.af 2 [7,3] (.af 9 [] (.af 10 [] .done))))))else .done) (λ_=>false)
def iQU:bt:=za (λid=>if id=1 then(Bk 0 (.aa 4 (.aa 9 (.af 5 [] (lA 6 (.aa 8 (.af 10 [] (.af 11 [] .done))))))))else if id=3 then(Bk 0 (.aa 4 (.af 5 [3] (.af 6 [] (.af 7 [] .done)))))else .done) (λ_=>false)
def fZE:bt:=kZm (λs=>[6].contains s)
def iQT:bt:=qH
def fZD:bt:=za (λid=>if id=1 then(lA 0 (lA 3 (lA 6 (.aa 8 (lA 10 (.aa 12 (.af 2 [12,8,4] (.af 5 [12,8] (.af 9 [12] (.af 13 [] (lA 14 (.af 16 [] .done))))))))))))else .done) (λ_=>false)
def iQS:bt:=za (λid=>if id=11 then(kQS 0 (.af 8 [] .done))else if id=15 then(kQS 0 (.af 8 [] .done))else .done) (λ_=>false)
def iQR:bt:=za (λid=>if id=1 then(lA 0 (.aa 2 (lA 4 (.aa 6 (.aa 9 (.af 3 [6] (.af 7 [] (.aa 8 (.af 10 [] .done)))))))))else if id=2 then(lA 0 (lA 3 (.aa 6 (.af 2 [6,4] (.af 5 [6] (.aa 7 (.af 8 [] .done)))))))else .done) (λ_=>false)
def iQQ:bt:=qH
def iQP:bt:=za (λid=>if id=2 then(lA 0 (.aa 4 (.af 2 [0] (.aa 3 (.af 5 [] (.af 6 [] (.af 7 [] .done)))))))else .done) (λ_=>false)
def iQO:bt:=za (λid=>if id=5 then(lA 0 (.aa 2 (.af 3 [0] (.af 4 [] (lA 5 (.aa 7 (.af 8 [] (.af 9 [] .done))))))))else if id=10 then(Bk 0 (lA 4 (.aa 6 (Bk 8 (.af 7 [9,2,0] (.af 12 [0] (.af 13 [] (.af 14 [] (.af 15 [] .done)))))))))else .done) (λ_=>false)
def iQN:bt:=qH
def bJF:bt:=za (λid=>if id=13 then(kQS 0 (.af 8 [] .done))else if id=14 then(Bk 0 (lA 4 (.af 6 [4] (.af 7 [] (lA 8 (.af 10 [] .done))))))else .done) (λ_=>false)
def fZC:bt:=za (λid=>if id=1 then(Bk 0 (lA 5 (lA 8 (.af 4 [9,6,1] (.af 7 [9,1] (.af 10 [1] (.aa 11 (.af 12 [] .done))))))))else .done) (λ_=>false)
def iQM:bt:=qH
def iQL:bt:=qH
def iQK:bt:=za (λid=>if id=4 then(Bk 0 (lA 4 (.aa 6 (.af 7 [5] (.af 8 [] (lA 9 (.aa 11 (.af 12 [] .done))))))))else if id=7 then(Bk 0 (.aa 5 (.af 4 [5] (.af 6 [] (.af 7 [] (.af 8 [] .done))))))else .done) (λs=>[11].contains s)
def fZB:bt:=kZm (λs=>[3,5,6].contains s)
def iQJ:bt:=za (λid=>if id=1 then(lA 1 (lA 4 (.aa 6 (.af 0 [5,2] (.af 3 [5] (.af 7 [] (.af 8 [] .done)))))))else if id=5 then(lA 0 (.aa 2 (lA 4 (lA 7 (.af 3 [8,5] (.af 6 [8] (.af 9 [] (.af 10 [] (.af 11 [] (.af 12 [] .done))))))))))else if id=14 then(.aa 0 (lA 2 (.af 1 [] (.af 4 [] (.af 5 [] .done)))))else .done) (λs=>[8,9,10].contains s)
def iQI:bt:=qH
def fZA:bt:=za (λid=>if id=6 then(kQS 0 (.aa 8 .done))else .done) (λ_=>false)
def iQH:bt:=qH
def iQG:bt:=qH
def iQF:bt:=za (λid=>if id=6 then(kQS 0 (.aa 8 .done))else .done) (λ_=>false)
def iQE:bt:=qH
def iQD:bt:=qH
def iQC:bt:=qH
def iQB:bt:=qH
def iQA:bt:=za (λid=>if id=7 then(Bk 0 (.aa 4 (.af 5 [] .done)))else if id=8 then(Bk 0 (.aa 4 (.af 5 [] .done)))else if id=9 then(lA 0 (.aa 2 (.af 3 [] (.af 4 [] (.af 5 [] .done)))))else .done) (λs=>[22].contains s)
def fZz:bt:=kZm (λs=>[9].contains s)
def iQz:bt:=za (λid=>if id=9 then(.aa 0 (lA 2 (.af 1 [3] (.af 4 [] (.af 5 [] .done)))))else if id=25 then(lA 0 (.aa 2 (.aa 4 (.af 3 [0] (.af 5 [0] (.af 6 [] (lA 7 (.aa 9 (.af 10 [] (.af 11 [] .done))))))))))else if id=29 then(Bk 0 (lA 4 (.af 6 [] (lA 7 (.aa 9 (.af 10 [] (.af 11 [] .done)))))))else if id=30 then(Bk 0 (lA 4 (.af 6 [] (lA 7 (.aa 9 (.af 10 [] (.af 11 [] .done)))))))else if id=34 then(Bk 0 (lA 4 (.af 6 [1,0] (.af 7 [1] (.af 8 [] (.af 9 [] (.af 10 [] (.af 11 [] .done))))))))else if id=44 then(Bk 0 (lA 4 (.af 6 [1,0] (.af 7 [1] (.af 8 [] (.af 9 [] (.af 10 [] (.af 11 [] .done))))))))else if id=56 then(kQS 0 (.af 8 [1] (.af 9 [] (.af 10 [] .done))))else .done) (λ_=>false)
def iQy:bt:=za (λid=>if id=8 then(kQS 0 (lA 8 (.af 10 [] .done)))else if id=10 then(kQS 0 (.af 8 [3] (.af 9 [] (.af 10 [] .done))))else if id=14 then(Bk 0 (lA 4 (.af 6 [3] (lA 7 (.af 9 [] .done)))))else .done) (λ_=>false)
def iQx:bt:=za (λid=>if id=5 then(lA 0 (Bk 3 (lA 7 (.af 2 [7,3] (.af 9 [] (.af 10 [] .done))))))else .done) (λ_=>false)
def iQw:bt:=za (λid=>if id=3 then(Bk 0 (.aa 4 (.af 5 [3] (.af 6 [] (.af 7 [] .done)))))else .done) (λ_=>false)
def iQt:bt:=qH
def iQs:bt:=qH
def fZy:bt:=za (λid=>if id=0 then(Bk 0 (.af 4 [] (.af 5 [] .done)))else .done) (λ_=>false)
def iQr:bt:=kZm (λs=>[14].contains s)
def iQq:bt:=za (λid=>if id=4 then(kQS 0 (Bk 8 (.aa 12 (.af 13 [6,1] (.aa 14 (.af 15 [] (.af 16 [] .done)))))))else .done) (λ_=>false)
def iQp:bt:=za (λid=>if id=1 then(lA 1 (lA 4 (.af 0 [2] (.af 3 [] (.af 6 [] (.af 7 [] .done))))))else .done) (λs=>[1].contains s)
def iQo:bt:=za (λid=>if id=3 then(Bk 0 (lA 4 (lA 8 (.aa 10 (.aa 12 (.af 6 [9,1] (.af 7 [9,1] (.aa 11 (.af 13 [] .done)))))))))else if id=6 then(lA 1 (.aa 4 (.fork (.af 0 [4,2] (.fork (.af 3 [4] (.af 5 [] (.af 6 [] (.aa 7 (.af 8 [] .done))))) (.af 5 [2] (.af 3 [] (.af 6 [] (.aa 7 (.af 8 [] .done))))))) (.af 5 [2] (.af 0 [2] (.af 3 [] (.af 6 [] (.aa 7 (.af 8 [] .done)))))))))else if id=7 then(lA 1 (lA 4 (.fork (.af 0 [5,2] (.fork (.af 3 [5] (.af 6 [] (.af 7 [] (.aa 8 (.af 9 [] .done))))) (.af 6 [2] (.af 3 [] (.af 7 [] (.aa 8 (.af 9 [] .done))))))) (.af 6 [2] (.af 0 [2] (.af 3 [] (.af 7 [] (.aa 8 (.af 9 [] .done)))))))))else .done) (λ_=>false)
def iQn:bt:=za (λid=>if id=4 then(lA 0 (.aa 2 (.af 3 [1] (.aa 4 (.af 5 [] (.af 6 [] .done))))))else .done) (λ_=>false)
def iQm:bt:=za (λid=>if id=3 then(kQS 0 (Bk 8 (lA 12 (.aa 14 (.af 15 [] .done)))))else if id=17 then(kQS 0 (Bk 8 (.aa 12 (.af 13 [] (.af 14 [] .done)))))else if id=23 then(kQS 0 (Bk 8 (Bk 13 (.aa 17 (.af 12 [16,3] (.af 18 [3] (.af 19 [] (.af 20 [] .done))))))))else .done) (λ_=>false)
def iQl:bt:=za (λid=>if id=1 then(.aa 1 (.aa 3 (.af 0 [] (.af 2 [] (.af 4 [] (.af 5 [] .done))))))else .done) (λs=>[3].contains s)
def iQk:bt:=za (λid=>if id=20 then(kZW 0 (kQS 16 (Bk 24 (lA 28 (.aa 30 (.af 31 [] .done))))))else if id=24 then(kQS 0 (.af 8 [] (.af 9 [] .done)))else if id=25 then(lA 0 (.aa 3 (lA 6 (Bk 9 (.aa 14 (.aa 16 (lA 19 (Bk 23 (.af 2 [26,12] (.af 4 [26,12] (.aa 5 (.aa 8 (.aa 13 (.af 15 [26,12] (.af 17 [26,12] (.aa 18 (lA 21 (lA 27 (.af 29 [] .done)))))))))))))))))))else if id=31 then(lA 0 (.aa 2 (.aa 4 (.aa 7 (kQS 11 (lA 19 (lA 22 (.aa 24 (lA 26 (.aa 28 (.af 3 [28,24,18,13,1] (.af 5 [28,24,18,13,1] (.aa 6 (.af 8 [28,24,18,13,1] (lA 9 (.aa 21 (.aa 25 (.aa 29 (.af 30 [] .done)))))))))))))))))))else if id=32 then(lA 0 (lA 3 (lA 7 (kZW 11 (.aa 27 (.af 2 [25,23,19,17,14,12,8,4] (.af 5 [25,23,19,17,14,12,8] (.aa 6 (.af 9 [25,23,19,17,14,12] (.aa 10 (.aa 28 (.af 29 [] .done))))))))))))else if id=37 then(kQS 0 (.af 8 [] .done))else if id=42 then(kZW 0 (kQS 16 (Bk 24 (lA 28 (.aa 30 (.af 31 [28,23,18] (.aa 32 (.af 33 [28,23] (.aa 34 (.af 35 [28] (.aa 36 (.af 37 [] .done))))))))))))else .done) (λs=>[3,4,8,15,21].contains s)
def iQj:bt:=za (λid=>if id=1 then(lA 0 (lA 3 (.af 2 [] (.af 5 [] (.af 6 [] .done)))))else if id=2 then(lA 0 (.aa 2 (lA 4 (.af 3 [5] (.af 6 [] (.af 7 [] .done))))))else .done) (λs=>[1].contains s)
def iQi:bt:=za (λid=>if id=6 then(kZW 0 (kQS 16 (lA 24 .done)))else if id=11 then(kZW 0 (.af 16 [] (.aa 17 .done)))else .done) (λ_=>false)
def iQh:bt:=kZm (λs=>[30].contains s)
def fZx:bt:=za (λid=>if id=11 then(.aa 0 (Bk 2 (.af 1 [5] (.af 6 [5] (.af 7 [] .done)))))else if id=12 then(kQS 0 (.aa 8 (.af 9 [5] (.af 10 [5] (.af 11 [] (lA 12 (.aa 14 (.af 15 [] .done))))))))else .done) (λ_=>false)
def iQf:bt:=qH
def iQe:bt:=za (λid=>if id=11 then(kQS 0 (Bk 8 (lA 12 (.aa 14 (.af 15 [] (.aa 16 .done))))))else .done) (λ_=>false)
def iQd:bt:=za (λid=>if id=1 then(.aa 1 (.af 0 [1] (.af 2 [] (.af 3 [] (.af 4 [] (.af 5 [] .done))))))else .done) (λ_=>false)
def iQc:bt:=za (λid=>if id=1 then(.aa 1 (.af 0 [1] (.af 2 [] (.af 3 [] (.af 4 [] (.af 5 [] .done))))))else .done) (λ_=>false)
def iQb:bt:=qH
def iQa:bt:=qH
def hKZ:bt:=qH
def hKY:bt:=qH
def bXw:bt:=qH
def bXv:bt:=za (λid=>if id=1 then(lA 0 (lA 3 (.af 2 [4] (.aa 6 (.af 5 [] (.af 7 [] (.aa 8 (.af 9 [] .done))))))))else .done) (λ_=>false)
def bXu:bt:=qH
def fQa:bt:=qH
def eKZ:bt:=qH
def eKY:bt:=qH
def eKX:bt:=za (λid=>if id=1 then(lA 0 (lA 3 (.af 2 [4] (.aa 6 (.af 5 [] (.af 7 [] (.aa 8 (.af 9 [] .done))))))))else .done) (λ_=>false)
def eKW:bt:=qH
def eKV:bt:=za (λid=>if id=3 then(lA 0 (.af 2 [0] (.af 3 [0] (.aa 4 (.af 5 [] .done)))))else .done) (λ_=>false)
def eKU:bt:=kZm (λs=>[2].contains s)
def eKT:bt:=qH
def bXt:bt:=qH
def bXs:bt:=za (λid=>if id=9 then(Bk 0 (lA 4 (.af 6 [] (lA 7 (.aa 9 (.af 10 [] (.af 11 [] .done)))))))else .done) (λs=>[4,5,6,7].contains s)
def eKS:bt:=qH
def bXr:bt:=qH
def bXq:bt:=qH
def bXp:bt:=qH
def eKR:bt:=qH
def eKQ:bt:=qH
def bXo:bt:=qH
def eKP:bt:=za (λid=>if id=1 then(Bk 0 (lA 5 (lA 8 (.aa 10 (.aa 13 (.fork (.af 4 [9,6,1] (.fork (.af 7 [9,1] (.af 11 [1] (.aa 12 (.af 14 [] .done)))) (.af 11 [6,1] (.af 7 [1] (.aa 12 (.af 14 [] .done)))))) (.af 11 [6,3,1] (.af 4 [6,1] (.af 7 [1] (.aa 12 (.af 14 [] .done)))))))))))else if id=5 then(Bk 0 (.af 4 [1] (.aa 5 (.af 6 [] .done))))else .done) (λ_=>false)
def eKO:bt:=qH
def Ek:bt:=qH
def eKN:bt:=za (λid=>if id=6 then(kQS 0 (lA 9 (.aa 12 (.af 8 [4] (.aa 11 (.af 13 [] .done))))))else if id=10 then(Bk 0 (lA 4 (.aa 6 (.af 7 [5] (.af 8 [] (lA 9 (.aa 11 (.af 12 [] .done))))))))else if id=11 then(kQS 0 (lA 8 (.aa 10 (.af 11 [5] (.af 12 [] (lA 13 (.aa 15 (.af 16 [] .done))))))))else .done) (λ_=>false)
def eKM:bt:=qH
def eKL:bt:=qH
def eKK:bt:=qH
def eKJ:bt:=qH
def eKI:bt:=qH
def eKH:bt:=qH
def eKG:bt:=za (λid=>if id=1 then(lA 0 (lA 4 (.af 2 [5] (.af 3 [5] (.af 6 [] (.af 7 [] .done))))))else if id=2 then(lA 0 (.aa 2 (lA 4 (.af 3 [5] (.af 6 [] (.af 7 [] (.af 8 [] (.af 9 [] (.af 10 [] .done)))))))))else .done) (λ_=>false)
def eKF:bt:=qH
def eKE:bt:=qH
def eKD:bt:=qH
def bXn:bt:=qH
def eKC:bt:=za (λid=>if id=6 then(kQS 0 (.aa 8 .done))else .done) (λ_=>false)
def eKB:bt:=za (λid=>if id=14 then(Bk 0 (lA 4 (.af 6 [] (Bk 7 (.af 11 [] (.af 12 [] .done))))))else .done) (λs=>[28].contains s)
def eKA:bt:=kZm (λs=>[6].contains s)
def eKz:bt:=qH
def bXm:bt:=za (λid=>if id=2 then(Bk 0 (.aa 4 (.aa 9 (.af 5 [] (lA 6 (.aa 8 (.af 10 [] (.af 11 [] .done))))))))else .done) (λ_=>false)
def bXl:bt:=za (λid=>if id=0 then(kQS 0 (.aa 13 (.af 8 [3] (.af 9 [] (lA 10 (.aa 12 (.af 14 [] (.af 15 [] .done))))))))else .done) (λ_=>false)
def eKy:bt:=za (λid=>if id=0 then(Bk 0 (.aa 4 (Bk 6 (.aa 10 (.af 5 [10] (.aa 11 (.af 12 [] .done)))))))else if id=8 then(kQS 0 (.af 8 [] (.af 9 [] .done)))else if id=9 then(Bk 0 (lA 4 (.af 6 [] (.af 7 [] .done))))else .done) (λ_=>false)
def eKx:bt:=qH
def eKw:bt:=qH
def bXk:bt:=qH
def eKv:bt:=qH
def eKu:bt:=qH
def eKt:bt:=qH
def eKs:bt:=qH
def eKr:bt:=za (λid=>if id=4 then(Bk 0 (.af 4 [1] (Bk 5 (.aa 9 .done))))else .done) (λ_=>false)
def bXj:bt:=kZm (λs=>[7].contains s)
def eKq:bt:=za (λid=>if id=7 then(Bk 0 (.af 4 [1] (Bk 5 (.aa 9 .done))))else if id=9 then(Bk 0 (lA 4 (.aa 11 (.af 6 [] (Bk 7 (.af 12 [] (.af 13 [] (.af 14 [] .done))))))))else .done) (λ_=>false)
def eKp:bt:=za (λid=>if id=6 then(kQS 0 (lA 8 (.af 10 [9,5] (.af 11 [] (.af 12 [] .done)))))else .done) (λ_=>false)
def eKo:bt:=za (λid=>if id=4 then(Bk 0 (.aa 4 (lA 8 (.af 5 [2,0] (lA 6 (.af 10 [0] (.af 11 [] (.af 12 [] (.af 13 [] .done)))))))))else .done) (λ_=>false)
def eKn:bt:=za (λid=>if id=6 then(kQS 0 (.af 8 [] (.aa 9 .done)))else .done) (λ_=>false)
def eKm:bt:=za (λid=>if id=10 then(kQS 0 (Bk 8 (.af 12 [4] (.af 13 [] (lA 14 (.af 16 [] .done))))))else .done) (λ_=>false)
def eKl:bt:=za (λid=>if id=9 then(lA 1 (Bk 4 (.aa 8 (.fork (.af 0 [6,2] (.fork (.af 3 [6] (.af 9 [] (.af 10 [] (.aa 11 (.af 12 [] .done))))) (.af 9 [2] (.af 3 [] (.af 10 [] (.aa 11 (.af 12 [] .done))))))) (.af 9 [2] (.af 0 [2] (.af 3 [] (.af 10 [] (.aa 11 (.af 12 [] .done))))))))))else .done) (λ_=>false)
def eKk:bt:=za (λid=>if id=11 then(kQS 0 (Bk 8 (.af 12 [] .done)))else .done) (λ_=>false)
def eKj:bt:=za (λid=>if id=9 then(kQS 0 (Bk 8 (.af 12 [] (.af 13 [] .done))))else .done) (λ_=>false)
def eKi:bt:=qH
def eKg:bt:=qH
def bXi:bt:=qH
def bXh:bt:=qH
def eKf:bt:=za (λid=>if id=1 then(lA 0 (.aa 3 (.aa 6 (.af 2 [1] (.af 4 [1] (.aa 5 (.af 7 [] .done)))))))else if id=3 then(lA 1 (.aa 4 (.fork (.af 0 [4,2] (.fork (.af 3 [4] (.af 5 [] (.af 6 [] (.aa 7 (.af 8 [] .done))))) (.af 5 [2] (.af 3 [] (.af 6 [] (.aa 7 (.af 8 [] .done))))))) (.af 5 [2] (.af 0 [2] (.af 3 [] (.af 6 [] (.aa 7 (.af 8 [] .done)))))))))else if id=6 then(lA 0 (.af 2 [1] (.af 3 [] .done)))else .done) (λ_=>false)
def eKe:bt:=za (λid=>if id=1 then(lA 1 (lA 4 (.aa 6 (.af 0 [5,2] (.af 3 [5] (.af 7 [] (.af 8 [] .done)))))))else if id=6 then(lA 0 (.aa 2 (lA 4 (lA 7 (.af 3 [8,5] (.af 6 [8] (.af 9 [] (.af 10 [] (.af 11 [] (.af 12 [] .done))))))))))else if id=13 then(.aa 0 (.aa 2 (.af 1 [] (.af 3 [] (.af 4 [] .done)))))else .done) (λs=>[5,10,11].contains s)
def eKd:bt:=qH
def eKc:bt:=qH
def eKb:bt:=qH
def eKa:bt:=qH
def eJZ:bt:=qH
def eJY:bt:=qH
def hXt:bt:=za (λid=>if id=2 then(kQS 0 (Bk 8 (.aa 12 (.af 13 [] .done))))else if id=8 then(Bk 0 (lA 4 (.af 6 [] (Bk 7 (.af 11 [] .done)))))else if id=9 then(kZW 0 (.aa 16 .done))else if id=10 then(kQS 0 (Bk 8 (.aa 12 (.af 13 [] (Bk 14 (.aa 18 (.af 19 [] .done)))))))else if id=11 then(kZW 0 (.af 16 [] .done))else .done) (λ_=>false)
def eJS:bt:=qH
def eJR:bt:=za (λid=>if id=1 then(lA 0 (Bk 4 (lA 8 (.fork (.af 2 [9] (.fork (.af 3 [9] (.af 10 [] (.af 11 [] (.af 12 [] (.af 13 [] (.af 14 [] .done)))))) (.af 10 [] (.af 3 [] (.af 11 [] (.af 12 [] (.af 13 [] (.af 14 [] .done)))))))) (.af 10 [1] (.af 2 [] (.af 3 [] (.af 11 [] (.af 12 [] (.af 13 [] (.af 14 [] .done)))))))))))else .done) (λs=>[1].contains s)
def bXg:bt:=za (λid=>if id=7 then(lA 0 (.aa 2 (lA 4 (.aa 6 (.af 3 [] (.af 7 [] (.af 8 [] (.af 9 [] .done))))))))else .done) (λ_=>false)
def eJQ:bt:=qH
def eJP:bt:=qH
def eJO:bt:=za (λid=>if id=10 then(Bk 0 (lA 4 (.af 6 [4] (.af 7 [] (lA 8 (.af 10 [] .done))))))else if id=11 then(kQS 0 (.af 8 [] .done))else .done) (λs=>[7].contains s)
def eJN:bt:=qH
def eJM:bt:=qH
def eJL:bt:=qH
def eJK:bt:=qH
def eJJ:bt:=za (λid=>if id=6 then(kQS 0 (lA 8 (.aa 10 .done)))else .done) (λ_=>false)
def eJI:bt:=qH
def eJH:bt:=qH
def eJG:bt:=kZm (λs=>[5].contains s)
def eJB:bt:=qH
def eJx:bt:=qH
def eJw:bt:=qH
def eJv:bt:=kZm (λs=>[2,3].contains s)
def eJu:bt:=kZm (λs=>[3].contains s)
def eJt:bt:=za (λid=>if id=11 then(kQS 0 (.af 8 [] .done))else if id=15 then(kQS 0 (.af 8 [] .done))else .done) (λ_=>false)
def eJs:bt:=za (λid=>if id=8 then(Bk 0 (lA 4 (.aa 6 (.af 7 [] (lA 8 (.aa 10 (.af 11 [] (.af 12 [] .done))))))))else .done) (λ_=>false)
def eJr:bt:=qH
def eJq:bt:=za (λid=>if id=4 then(Bk 0 (lA 4 (.aa 6 .done)))else if id=5 then(Bk 0 (lA 4 (.aa 6 (.af 7 [] .done))))else .done) (λ_=>false)
def eJp:bt:=za (λid=>if id=1 then(lA 0 (lA 3 (.aa 5 (.af 2 [4] (.af 6 [] (.af 7 [] .done))))))else if id=5 then(lA 0 (.aa 2 (lA 4 (lA 7 (.af 3 [8,5] (.af 6 [8] (.af 9 [] (.af 10 [] (.af 11 [] .done)))))))))else if id=7 then(lA 0 (.aa 2 (lA 4 (.af 3 [5] (.af 6 [] (.af 7 [] (.af 8 [] .done)))))))else .done) (λ_=>false)
def eJo:bt:=qH
def eJn:bt:=za (λid=>if id=1 then(lA 0 (lA 3 (.aa 5 (.af 2 [4] (.af 6 [] (.af 7 [] .done))))))else if id=5 then(Bk 0 (lA 4 (.aa 6 (Bk 8 (lA 12 (Bk 15 (lA 19 (.af 7 [20,16,13,9] (.af 14 [20,16] (.af 21 [] (.af 22 [] (.af 23 [] .done))))))))))))else if id=6 then(lA 0 (.aa 2 (lA 4 (.af 3 [5] (.af 6 [] (.af 7 [] (.af 8 [] .done)))))))else .done) (λ_=>false)
def bXf:bt:=qH
def eJm:bt:=qH
def VY:bt:=qH
def eJl:bt:=qH
def eJk:bt:=qH
def eJj:bt:=qH
def eJi:bt:=qH
def eJh:bt:=za (λid=>if id=3 then(lA 0 (.af 2 [0] (kZW 3 (.af 19 [] .done))))else .done) (λ_=>false)
def eJg:bt:=qH
def eJf:bt:=qH
def eJe:bt:=za (λid=>if id=5 then(Bk 0 (lA 4 (.af 6 [] (.aa 7 .done))))else if id=8 then(kQS 0 (lA 8 (.aa 10 (.af 11 [] (lA 12 (.af 14 [] (.af 15 [] .done)))))))else .done) (λ_=>false)
def eJd:bt:=za (λid=>if id=1 then(lA 0 (.aa 3 (.af 2 [3] (.af 4 [] (.af 5 [] .done)))))else .done) (λ_=>false)
def eJc:bt:=za (λid=>if id=1 then(Bk 0 (Bk 5 (Bk 10 (.af 4 [13,11,8,6] (.af 9 [13,11] (.af 14 [] (.af 15 [] (.af 16 [] (.af 17 [] .done)))))))))else .done) (λ_=>false)
def eJb:bt:=za (λid=>if id=1 then(kQS 0 (lA 8 (.af 10 [0] (Bk 11 (lA 15 (.af 17 [] (.af 18 [] .done)))))))else .done) (λ_=>false)
def eJa:bt:=za (λid=>if id=2 then(kZW 0 (lA 16 (.aa 18 (.af 19 [] .done))))else if id=4 then(lA 0 (Bk 3 (.aa 9 (.af 2 [6,4] (.af 7 [] (.aa 8 (.af 10 [] .done)))))))else .done) (λ_=>false)
def eZZ:bt:=qH
def eZY:bt:=qH
def eZX:bt:=qH
def eZW:bt:=qH
def bXe:bt:=qH
def eZV:bt:=za (λid=>if id=1 then(Bk 0 (.af 4 [1] (.aa 5 (.af 6 [] .done))))else .done) (λ_=>false)
def eZU:bt:=za (λid=>if id=5 then(Bk 0 (lA 4 (.af 6 [] (.af 7 [] .done))))else .done) (λ_=>false)
def eZT:bt:=za (λid=>if id=1 then(lA 0 (.aa 2 (lA 4 (.aa 6 (.af 3 [5] (.af 7 [] (.aa 8 (.af 9 [] .done))))))))else .done) (λ_=>false)
def eZS:bt:=qH
def eZR:bt:=qH
def VX:bt:=qH
def eZQ:bt:=za (λid=>if id=2 then(Bk 0 (.aa 4 (.aa 7 (.af 5 [] (.af 6 [] (.af 8 [] (.af 9 [] (.af 10 [] .done))))))))else .done) (λs=>[3].contains s)
def bXd:bt:=za (λid=>if id=7 then(lA 0 (.aa 2 (lA 4 (.aa 6 (.af 3 [] (.af 7 [] (.af 8 [] (.af 9 [] (.af 10 [] .done)))))))))else .done) (λ_=>false)
def eZP:bt:=qH
def eZO:bt:=za (λid=>if id=11 then(kQS 0 (.af 8 [] (.af 9 [] .done)))else .done) (λ_=>false)
def eZN:bt:=qH
def eZM:bt:=za (λid=>if id=6 then(Bk 0 (lA 4 (.aa 6 (.af 7 [] .done))))else if id=7 then(kQS 0 (.af 8 [4] (.af 9 [] (lA 10 (.af 12 [] .done)))))else .done) (λs=>[8].contains s)
def eZL:bt:=qH
def eZK:bt:=za (λid=>if id=3 then(kQS 0 (.af 8 [] .done))else .done) (λ_=>false)
def bXc:bt:=qH
def eZJ:bt:=qH
def eZI:bt:=qH
def eZH:bt:=qH
def eZG:bt:=za (λid=>if id=6 then(kQS 0 (.aa 8 .done))else .done) (λ_=>false)
def eZF:bt:=qH
def eZE:bt:=za (λid=>if id=2 then(kQS 0 (.af 8 [] (.af 9 [] .done)))else .done) (λ_=>false)
def eZD:bt:=qH
def eZC:bt:=qH
def eZB:bt:=za (λid=>if id=9 then(lA 0 (.aa 2 (.aa 4 (.aa 6 (.af 3 [1] (.af 5 [1] (.af 7 [1] (.aa 8 (.af 9 [1] (.af 10 [] (.aa 11 (.af 12 [] .done))))))))))))else .done) (λ_=>false)
def eZA:bt:=qH
def eZz:bt:=kZm (λs=>[2].contains s)
def eZy:bt:=za (λid=>if id=1 then(Bk 0 (Bk 5 (.aa 11 (.af 4 [8] (.af 9 [] (.aa 10 (.af 12 [] .done)))))))else .done) (λ_=>false)
def eZx:bt:=za (λid=>if id=4 then(Bk 0 (.aa 4 (Bk 6 (.af 5 [8] (.aa 10 (.af 11 [] .done))))))else .done) (λs=>[3].contains s)
def eZw:bt:=za (λid=>if id=7 then(Bk 0 (lA 4 (.af 6 [1] (Bk 7 (.af 11 [] (.af 12 [] .done))))))else if id=9 then(kQS 0 (.aa 13 (.af 8 [] (Bk 9 (.af 14 [] (.af 15 [] (.af 16 [] .done)))))))else .done) (λ_=>false)
def eZv:bt:=qH
def eZu:bt:=qH
def eZt:bt:=qH
def eZs:bt:=za (λid=>if id=6 then(kZW 0 (Bk 16 .done))else if id=8 then(kQS 0 (.af 8 [] (lA 9 (.af 11 [] .done))))else if id=13 then(Bk 0 (.aa 5 (.fork (.af 4 [5] (.af 6 [] (.af 7 [] (.aa 8 (.af 9 [] .done))))) (.af 6 [3,1] (.af 4 [] (.af 7 [] (.aa 8 (.af 9 [] .done))))))))else .done) (λ_=>false)
def eZr:bt:=za (λid=>if id=8 then(kQS 0 (Bk 8 (.aa 13 (.af 12 [] (.af 14 [] (.aa 15 .done))))))else .done) (λ_=>false)
def bXb:bt:=za (λid=>if id=4 then(Bk 0 (lA 4 (.aa 6 (.af 7 [] (lA 8 (.aa 10 (.af 11 [] (.af 12 [] .done))))))))else if id=9 then(Bk 0 (lA 4 (.aa 6 (.af 7 [] (.af 8 [] .done)))))else .done) (λ_=>false)
def eZq:bt:=za (λid=>if id=4 then(lA 1 (.aa 4 (.fork (.af 0 [4,2] (.fork (.af 3 [4] (.af 5 [] (.af 6 [] (.aa 7 (.af 8 [] .done))))) (.af 5 [2] (.af 3 [] (.af 6 [] (.aa 7 (.af 8 [] .done))))))) (.af 5 [2] (.af 0 [2] (.af 3 [] (.af 6 [] (.aa 7 (.af 8 [] .done)))))))))else .done) (λ_=>false)
def eZp:bt:=qH
def eZo:bt:=qH
def eZn:bt:=za (λid=>if id=5 then(kQS 0 (lA 8 (.aa 10 (Bk 13 (.aa 17 (.af 11 [17,14,0] (.af 12 [17,14] (.af 18 [] (.af 19 [] (.af 20 [] (.af 21 [] .done)))))))))))else .done) (λ_=>false)
def eZm:bt:=qH
def eZl:bt:=za (λid=>if id=5 then(kQS 0 (lA 8 (.aa 10 (.af 11 [] .done))))else .done) (λ_=>false)
def bXa:bt:=za (λid=>if id=6 then(kQS 0 (.aa 8 .done))else .done) (λ_=>false)
def eZk:bt:=qH
def eZj:bt:=qH
def eZi:bt:=za (λid=>if id=8 then(kQS 0 (.af 8 [] (Bk 9 (.af 13 [] .done))))else .done) (λ_=>false)
def eZh:bt:=qH
def eZg:bt:=za (λid=>if id=5 then(Bk 0 (lA 4 (.af 6 [] (.af 7 [] .done))))else .done) (λ_=>false)
def eZf:bt:=qH
def eZe:bt:=qH
def eZc:bt:=kZm (λs=>[1].contains s)
def eZb:bt:=kZm (λs=>[7].contains s)
def eZa:bt:=qH
def eXZ:bt:=kZm (λs=>[2,3].contains s)
def eXY:bt:=za (λid=>if id=1 then(Bk 0 (lA 4 (.af 6 [3,1] (.af 7 [] (.af 8 [] (.af 9 [] .done))))))else .done) (λ_=>false)
def eXX:bt:=qH
def eXW:bt:=qH
def eXV:bt:=qH
def eXU:bt:=za (λid=>if id=1 then(kZW 0 (lA 16 (.aa 18 .done)))else if id=6 then(kQS 0 (Bk 8 (lA 12 (.aa 14 (.af 15 [] .done)))))else .done) (λ_=>false)
def eXR:bt:=qH
def eXQ:bt:=za (λid=>if id=1 then(.aa 0 (.aa 2 (lA 4 (lA 7 (.af 1 [8,5] (.af 3 [8,5] (.af 6 [8] (.af 9 [] (.af 10 [] .done)))))))))else .done) (λ_=>false)
def eXP:bt:=za (λid=>if id=5 then(kQS 0 (.aa 8 (.af 9 [] (.af 10 [] (.af 11 [] (.af 12 [] .done))))))else .done) (λ_=>false)
def eXO:bt:=qH
def eXN:bt:=qH
def eXM:bt:=kZm (λs=>[3].contains s)
def eXL:bt:=qH
def eXK:bt:=qH
def eXJ:bt:=qH
def eXI:bt:=qH
def eXH:bt:=qH
def eXG:bt:=qH
def eXF:bt:=qH
def eXE:bt:=kZm (λs=>[3].contains s)
def eXD:bt:=qH
def eXC:bt:=qH
def eXB:bt:=qH
def eXA:bt:=qH
def eXz:bt:=za (λid=>if id=9 then(kQS 0 (Bk 8 (lA 13 (.fork (.af 12 [14,5,3] (.af 15 [5,3] (.af 16 [5,3] (.af 17 [] .done)))) (.af 15 [11,9,5,3] (.af 12 [5,3] (.af 16 [5,3] (.af 17 [] .done))))))))else .done) (λs=>[10].contains s)
def eXy:bt:=za (λid=>if id=6 then(Bk 0 (lA 4 (.aa 6 (.aa 9 (.af 7 [] (.aa 8 .done))))))else .done) (λ_=>false)
def eXx:bt:=qH
def eXw:bt:=qH
def eXv:bt:=qH
def eXu:bt:=qH
def eXt:bt:=za (λid=>if id=4 then(lA 1 (.af 0 [] (.af 3 [] (.af 4 [] (.af 5 [] .done)))))else .done) (λs=>[2,6].contains s)
def eXs:bt:=qH
def eXr:bt:=qH
def eXq:bt:=qH
def eXp:bt:=qH
def eXo:bt:=qH
def eXn:bt:=kZm (λs=>[2,3].contains s)
def eXm:bt:=qH
def eXl:bt:=qH
def eXk:bt:=qH
def eXj:bt:=qH
def eXi:bt:=qH
def eXh:bt:=za (λid=>if id=13 then(kQS 0 (lA 8 (.af 10 [] (lA 11 (.aa 13 (.af 14 [] (lA 15 .done)))))))else .done) (λ_=>false)
def eXg:bt:=qH
def VW:bt:=za (λid=>if id=12 then(kQS 0 (Bk 8 .done))else .done) (λ_=>false)
def eXf:bt:=za (λid=>if id=2 then(kZW 0 (.aa 16 (.af 17 [] (lA 18 .done))))else .done) (λ_=>false)
def eXe:bt:=za (λid=>if id=2 then(kZW 0 (.aa 16 (.af 17 [] (lA 18 .done))))else .done) (λ_=>false)
def bQZ:bt:=za (λid=>if id=8 then(kQS 0 (.aa 8 .done))else if id=9 then(kQS 0 (lA 8 (.af 10 [] (.af 11 [] .done))))else .done) (λ_=>false)
def eXd:bt:=qH
def eXc:bt:=za (λid=>if id=1 then(lA 0 (.aa 2 (lA 4 (.aa 6 (.af 3 [5] (.af 7 [] (.aa 8 (.af 9 [] .done))))))))else .done) (λ_=>false)
def eXb:bt:=qH
def eXa:bt:=za (λid=>if id=4 then(lA 0 (.aa 2 (.af 3 [] (.af 4 [] .done))))else if id=8 then(kQS 0 (Bk 8 (lA 12 (.aa 14 (.af 15 [] .done)))))else .done) (λs=>[2].contains s)
def eQZ:bt:=za (λid=>if id=1 then(.aa 0 (.aa 2 (.aa 4 (.af 1 [] (.af 3 [] (.af 5 [] (.af 6 [] .done)))))))else .done) (λs=>[5].contains s)
def Oi:bt:=qH
def eQY:bt:=qH
def eQX:bt:=qH
def eQW:bt:=qH
def eQV:bt:=qH
def bQY:bt:=qH
def eQU:bt:=qH
def eQT:bt:=qH
def eQS:bt:=qH
def eQR:bt:=qH
def eQQ:bt:=qH
def eQP:bt:=qH
def eQO:bt:=qH
def eQN:bt:=qH
def eQM:bt:=qH
def eQL:bt:=za (λid=>if id=6 then(Bk 0 (.af 4 [] (.af 5 [] .done)))else if id=7 then(lA 0 (.aa 2 (.aa 4 (.aa 7 (kQS 11 (lA 19 (lA 22 (.aa 24 (lA 26 (.aa 28 (.af 3 [28,24,18,13,1] (.af 5 [28,24,18,13,1] (.aa 6 (.af 8 [28,24,18,13,1] (lA 9 (.aa 21 (.aa 25 (.aa 29 (.af 30 [] .done)))))))))))))))))))else if id=8 then(.aa 0 (.aa 2 (.aa 5 (kQS 8 (Bk 16 (lA 20 (.aa 22 (.af 1 [20,18,14,10] (.af 3 [20,18,14,10] (.aa 4 (.af 6 [20,18,14,10] (.aa 7 (.aa 23 (.af 24 [] .done))))))))))))))else if id=14 then(kQS 0 (.af 8 [] .done))else .done) (λs=>[2,5,6,7].contains s)
def eQK:bt:=qH
def eQJ:bt:=za (λid=>if id=5 then(kZW 0 (kZW 16 (lA 32 (.aa 34 (.af 35 [] .done)))))else if id=10 then(kQS 0 (.af 8 [] (.af 9 [] .done)))else if id=11 then(Bk 0 (lA 4 (.aa 7 (lA 10 (Bk 14 (.aa 19 (.aa 21 (lA 24 (.af 6 [17,4] (.af 8 [17,4] (.aa 9 (lA 12 (.aa 18 (.af 20 [17,4] (.af 22 [17,4] (.aa 23 (lA 26 (.aa 28 (.af 29 [] .done)))))))))))))))))))else .done) (λs=>[3].contains s)
def eQI:bt:=qH
def eQH:bt:=qH
def eQG:bt:=qH
theorem cQb{c:Prop}[Decidable c]{a b:Ti}{q:Prop}(d:c->a=.none\/q)(e:¬c->b=.none\/q):(if c then a else b)=.none\/q:=by
 by_cases h:c
 .rw[if_pos h];exact d h
 rw[if_neg h];exact e h
theorem bKc(t:Nat):ty t=.none\/t∈Xm:=by
 unfold ty;repeat' (first
  |exact .inl rfl
  | (refine cQb (λe=>?_) (λe=>?_)))
 all_goals (right;rw[e];decide)
theorem bKd:Xm.map ty=Xm.map (cQv Tryz.prog):=by kernel_rfl
theorem cJe:((List.range hKB).all λf=>bJh.contains f||(match Tryz.prog.funcs[f]? with
 |some fn=>fn.body.isSome&&decide (fn.name≠ "runtime.NumGoroutine")
 |none=>false))=true:=by kernel_rfl
theorem mixed:Tryz.prog.follows .mixedOrders=true:=by kernel_rfl
theorem bKk(pl:Nat->yS)(pb pn:Nat->Bool)(rs:List Nat)(kp:List PanicEntry->List SV->ad->Prop):il Tryz.prog ⟨ty,aP,pl,pb,pn,rs,kp⟩where
 ty t:=by
  rcases bKc t with h|h
  .exact .inr h
  exact .inl (List.map_inj_left.1 bKd t h)
 fn f h:=by
  have h:aP f=true:=h;unfold aP at h;split at h
  .rename_i aZ;have h1:=zG.1 cJe f (iu aZ);simp only[kJa]at h1;rcases h1 with h1|h1
   .rw[h1]at h;cases h
   split at h1
   .rename_i fn Kr;simp only[kZj,kJP]at h1;exact⟨fn,Kr,h1.1,h1.2⟩
   cases h1
  cases h
 mixed:=mixed
theorem aj(l:Nat->yS)(p:Nat->Bool):il Tryz.prog ⟨ty,aP,l,p,λ_=>false,[],λ_ _ _=>False⟩:=bKk l p _ _ _
theorem cB(T:bt)(d:Tryz.prog.funcs[f]? =some fn)
 (hx:∀(A:Ar) (_:bM A),dXq A ⟨ty,aP,T.aw,T.bz,λ_=>false,[],λ_ _ _=>False⟩ (λ_=>Tryz.prog) c fn.ntmps fn.results.toList args h R) (b:fn.body=some c:=by exact rfl) (o:gn ⟨ty,aP,T.aw,T.bz,λ_=>false,[],λ_ _ _=>False⟩ c=true:=by kernel_rfl):Hl (λ_=>Tryz.prog) f args h R:=by
 obtain⟨A,a⟩:=Ar.ex;exact ah A (aj T.aw T.bz) d b o (hx A a)
theorem kh(T:bt)(A:Ar)[bM A](a:Tryz.prog.funcs[f]? =some fn)
 (hx:dXq A ⟨ty,aP,T.aw,T.bz,λ_=>false,[],λ_ _ _=>False⟩ (λ_=>Tryz.prog) c fn.ntmps fn.results.toList args h R) (b:fn.body=some c:=by exact rfl) (o:gn ⟨ty,aP,T.aw,T.bz,λ_=>false,[],λ_ _ _=>False⟩ c=true:=by kernel_rfl):Hl (λ_=>Tryz.prog) f args h R:=ah A (aj T.aw T.bz) a b o hx
end Go.S
