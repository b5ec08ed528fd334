import Derived.Test.YtifjeceolckgaaaGreatProg
import Derived.Test.YtifjeceolckgaaaGreatSxB
set_option linter.all false
namespace Go.S
open Go.Sx Go.Proofs
variable {c:Code}{fn:Func}{f:FuncId}{args:List Value}{R:Value->ad->Prop}{h:ad}
def y1:Ti:=⟨false,false,1,8,[.nilFunc],.fn⟩
def y2:Ti:=⟨false,false,1,8,[.int .i64 0],(.int .i64)⟩
def y3:Ti:=⟨false,false,1,8,[.int .i64 0],(.int .i64)⟩
def y4:Ti:=⟨false,false,1,1,[.bool false],.bool⟩
def y5:Ti:=⟨false,false,1,1,[.int .u8 0],(.int .u8)⟩
def y9:Ti:=⟨false,false,1,16,[.string ⟨#[]⟩],.str⟩
def kXo:Ti:=⟨false,false,1,4,[.int .i32 0],(.int .i32)⟩
def kXn:Ti:=⟨false,false,1,24,[.slice none 0 0],(.uD 24)⟩
def kXm:Ti:=⟨true,true,4,32,[.int .i64 0,.int .i64 0,.int .i64 0,.int .i64 0],(.fw [(3,0),(3,1),(3,2),(3,3)])⟩
def kXl:Ti:=⟨false,false,1,24,[.slice none 0 0],(.uD 51)⟩
def kXk:Ti:=⟨false,false,1,24,[.slice none 0 0],(.uD 55)⟩
def kXj:Ti:=⟨false,false,1,24,[.slice none 0 0],(.uD 201)⟩
def kXi:Ti:=⟨false,true,2,48,[.slice none 0 0,.slice none 0 0],(.fw [(28,0),(28,1)])⟩
def kXh:Ti:=⟨false,true,4,96,[.slice none 0 0,.slice none 0 0,.slice none 0 0,.slice none 0 0],(.fw [(26,0),(27,1),(30,2)])⟩
def kXg:Ti:=⟨false,false,1,24,[.slice none 0 0],(.uD 84)⟩
def kXf:Ti:=⟨false,false,1,8,[.int .i64 0],(.int .i64)⟩
def kXe:Ti:=⟨false,false,1,24,[.slice none 0 0],(.uD 155)⟩
def kXd:Ti:=⟨false,true,4,56,[.string ⟨#[]⟩,.slice none 0 0,.int .i64 0,.bool false],(.fw [(9,0),(38,1),(3,2),(4,3)])⟩
def kXc:Ti:=⟨false,false,1,24,[.slice none 0 0],(.uD 317)⟩
def kXb:Ti:=⟨false,false,1,24,[.slice none 0 0],(.uD 9)⟩
def kXa:Ti:=⟨false,false,1,24,[.slice none 0 0],(.uD 42)⟩
def kQZ:Ti:=⟨false,false,1,24,[.slice none 0 0],(.uD 267)⟩
def kQY:Ti:=⟨false,true,17,280,[.int .i64 0,.string ⟨#[]⟩,.slice none 0 0,.int .i64 0,.bool false,.string ⟨#[]⟩,.string ⟨#[]⟩,.slice none 0 0,.slice none 0 0,.slice none 0 0,.slice none 0 0,.slice none 0 0,.string ⟨#[]⟩,.string ⟨#[]⟩,.bool false,.int .i64 0,.string ⟨#[]⟩],(.fw [(3,0),(40,1),(9,5),(9,6),(42,7),(43,8),(44,9),(45,10),(42,11),(9,12),(9,13),(4,14),(3,15),(9,16)])⟩
def kQX:Ti:=⟨false,true,5,80,[.string ⟨#[]⟩,.slice none 0 0,.int .i64 0,.bool false,.slice none 0 0],(.fw [(40,0),(34,4)])⟩
def kQW:Ti:=⟨false,false,1,24,[.slice none 0 0],(.uD 137)⟩
def kQV:Ti:=⟨false,false,1,24,[.slice none 0 0],(.uD 150)⟩
def kQU:Ti:=⟨false,true,3,56,[.int .i64 0,.slice none 0 0,.slice none 0 0],(.fw [(3,0),(52,1),(53,2)])⟩
def kQS:Ti:=⟨false,false,1,24,[.slice none 0 0],(.uD 145)⟩
def nJc:Ti:=⟨false,false,1,24,[.slice none 0 0],(.uD 134)⟩
def nJb:Ti:=⟨false,false,1,24,[.slice none 0 0],(.uD 224)⟩
def kQQ:Ti:=⟨false,true,2,48,[.slice none 0 0,.slice none 0 0],(.fw [(63,0),(63,1)])⟩
def nJa:Ti:=⟨false,true,4,96,[.slice none 0 0,.slice none 0 0,.slice none 0 0,.slice none 0 0],(.fw [(61,0),(62,1),(65,2)])⟩
def nZZ:Ti:=⟨false,false,1,24,[.slice none 0 0],(.uD 86)⟩
def nZY:Ti:=⟨true,true,3,32,[.int .i64 0,.int .i64 0,.string ⟨#[]⟩],(.fw [(3,0),(3,1),(9,2)])⟩
def nZX:Ti:=⟨false,false,1,8,[.pointer none],(.ptr 91)⟩
def nZW:Ti:=⟨false,true,22,384,[.slice none 0 0,.slice none 0 0,.slice none 0 0,.slice none 0 0,.int .i64 0,.int .i64 0,.string ⟨#[]⟩,.slice none 0 0,.int .i64 0,.bool false,.string ⟨#[]⟩,.string ⟨#[]⟩,.slice none 0 0,.slice none 0 0,.slice none 0 0,.slice none 0 0,.slice none 0 0,.string ⟨#[]⟩,.string ⟨#[]⟩,.bool false,.int .i64 0,.string ⟨#[]⟩],(.fw [(32,0),(3,4),(47,5)])⟩
def nZV:Ti:=⟨false,false,1,8,[.nilFunc],.fn⟩
def nZU:Ti:=⟨false,false,1,8,[.map none],(.mp 3 92)⟩
def nZT:Ti:=⟨false,false,1,24,[.slice none 0 0],(.uD 105)⟩
def nZP:Ti:=⟨false,false,1,8,[.pointer none],(.ptr 102)⟩
def hXV:Ti:=⟨false,true,4,64,[.slice none 0 0,.int .i64 0,.int .i64 0,.slice none 0 0],(.fw [(97,0),(3,1),(3,2),(42,3)])⟩
def nZO:Ti:=⟨true,true,3,32,[.int .i64 0,.int .i64 0,.string ⟨#[]⟩],(.fw [(3,0),(3,1),(9,2)])⟩
def nZN:Ti:=⟨false,false,1,8,[.pointer none],(.ptr 130)⟩
def hXQ:Ti:=⟨true,true,0,0,[],(.fw [])⟩
def nZM:Ti:=⟨true,true,0,0,[],(.fw [])⟩
def hXP:Ti:=⟨false,false,1,4,[.int .u32 0],(.int .u32)⟩
def hXO:Ti:=⟨false,true,1,4,[.int .u32 0],(.fw [(119,0),(120,0)])⟩
def hXN:Ti:=⟨true,true,2,8,[.int .i32 0,.int .u32 0],(.fw [(21,0),(120,1)])⟩
def hXM:Ti:=⟨false,true,2,8,[.int .i32 0,.int .u32 0],(.fw [(118,0),(124,0)])⟩
def hXK:Ti:=⟨false,true,3,12,[.int .u32 0,.int .i32 0,.int .u32 0],(.fw [(118,0),(122,0),(126,1)])⟩
def hXJ:Ti:=⟨false,true,8,120,[.slice none 0 0,.slice none 0 0,.slice none 0 0,.slice none 0 0,.int .u32 0,.int .i32 0,.int .u32 0,.int .i64 0],(.fw [(32,0),(128,4),(35,7)])⟩
def nZL:Ti:=⟨false,false,1,24,[.slice none 0 0],(.uD 151)⟩
def hXH:Ti:=⟨false,true,3,56,[.int .i64 0,.slice none 0 0,.slice none 0 0],(.fw [(3,0),(52,1),(132,2)])⟩
def nZK:Ti:=⟨false,true,3,48,[.string ⟨#[]⟩,.int .i64 0,.slice none 0 0],(.fw [(9,0),(3,1),(84,2)])⟩
def nZJ:Ti:=⟨false,false,1,8,[.nilFunc],.fn⟩
def hXD:Ti:=⟨false,true,5,80,[.string ⟨#[]⟩,.slice none 0 0,.int .i64 0,.bool false,.slice none 0 0],(.fw [(40,0),(34,4)])⟩
def nZI:Ti:=⟨true,true,2,24,[.string ⟨#[]⟩,.int .i64 0],(.fw [(9,0),(3,1)])⟩
def nZH:Ti:=⟨true,true,2,24,[.string ⟨#[]⟩,.int .i64 0],(.fw [(9,0),(3,1)])⟩
def nZG:Ti:=⟨true,true,3,32,[.string ⟨#[]⟩,.int .i64 0,.bool false],(.fw [(9,0),(3,1),(4,2)])⟩
def nZF:Ti:=⟨false,false,1,8,[.nilFunc],.fn⟩
def nZE:Ti:=⟨false,false,1,8,[.nilFunc],.fn⟩
def nZD:Ti:=⟨false,false,1,8,[.nilFunc],.fn⟩
def nZC:Ti:=⟨false,false,1,8,[.nilFunc],.fn⟩
def nZB:Ti:=⟨false,false,1,8,[.nilFunc],.fn⟩
def nZA:Ti:=⟨false,false,1,8,[.pointer none],(.ptr 178)⟩
def nZz:Ti:=⟨false,true,21,328,[.int .i64 0,.string ⟨#[]⟩,.slice none 0 0,.int .i64 0,.bool false,.string ⟨#[]⟩,.string ⟨#[]⟩,.slice none 0 0,.slice none 0 0,.slice none 0 0,.slice none 0 0,.slice none 0 0,.string ⟨#[]⟩,.string ⟨#[]⟩,.bool false,.int .i64 0,.string ⟨#[]⟩,.slice none 0 0,.int .i64 0,.int .i64 0,.bool false],(.fw [(47,0),(38,17),(3,18),(3,19),(4,20)])⟩
def nZy:Ti:=⟨false,false,1,8,[.nilFunc],.fn⟩
def nZx:Ti:=⟨false,false,1,8,[.nilFunc],.fn⟩
def nZw:Ti:=⟨false,false,1,8,[.nilFunc],.fn⟩
def nZv:Ti:=⟨true,true,3,32,[.int .i64 0,.string ⟨#[]⟩,.bool false],(.fw [(3,0),(9,1),(4,2)])⟩
def nZu:Ti:=⟨true,true,3,32,[.int .i64 0,.string ⟨#[]⟩,.bool false],(.fw [(3,0),(9,1),(4,2)])⟩
def nZt:Ti:=⟨false,false,1,24,[.slice none 0 0],(.uD 3)⟩
def nZs:Ti:=⟨false,false,1,8,[.int .u64 0],(.int .u64)⟩
def nZr:Ti:=⟨false,false,1,8,[.map none],(.mp 9 4)⟩
def nZq:Ti:=⟨false,true,4,24,[.int .u32 0,.int .i32 0,.int .u32 0,.map none],(.fw [(128,0),(239,3)])⟩
def nZp:Ti:=⟨false,false,1,8,[.nilFunc],.fn⟩
def nZo:Ti:=⟨false,false,1,8,[.nilFunc],.fn⟩
def nZn:Ti:=⟨false,false,1,8,[.nilFunc],.fn⟩
def hXb:Ti:=⟨false,false,1,8,[.nilFunc],.fn⟩
def nZm:Ti:=⟨false,true,2,32,[.int .i64 0,.slice none 0 0],(.fw [(3,0),(42,1)])⟩
def nZl:Ti:=⟨false,false,1,8,[.nilFunc],.fn⟩
def nZk:Ti:=⟨false,false,1,24,[.slice none 0 0],(.uD 163)⟩
def nZj:Ti:=⟨false,false,1,8,[.nilFunc],.fn⟩
def nZi:Ti:=⟨false,false,1,8,[.nilFunc],.fn⟩
def nZh:Ti:=⟨false,false,1,8,[.nilFunc],.fn⟩
def hQV:Ti:=⟨false,false,1,24,[.slice none 0 0],(.uD 34)⟩
def nZg:Ti:=⟨false,false,1,8,[.nilFunc],.fn⟩
def nZf:Ti:=⟨false,false,1,8,[.int .u64 0],(.int .u64)⟩
def nZe:Ti:=⟨false,true,7,72,[.int .i64 0,.int .i64 0,.int .i64 0,.int .i64 0,.int .i64 0,.string ⟨#[]⟩,.string ⟨#[]⟩],(.fw [(3,0),(3,1),(3,2),(86,3),(9,6)])⟩
def hQP:Ti:=⟨false,false,1,24,[.slice none 0 0],(.uD 5)⟩
def nZd:Ti:=⟨false,false,1,8,[.pointer none],(.ptr 241)⟩
def nZc:Ti:=⟨false,false,1,8,[.nilFunc],.fn⟩
def nZb:Ti:=⟨false,true,5,80,[.string ⟨#[]⟩,.slice none 0 0,.int .i64 0,.bool false,.slice none 0 0],(.fw [(51,0)])⟩
def nZa:Ti:=⟨false,false,1,8,[.pointer none],(.ptr 128)⟩
def nXZ:Ti:=⟨false,false,1,8,[.nilFunc],.fn⟩
def nXY:Ti:=⟨false,false,1,8,[.pointer none],(.ptr 122)⟩
def nXX:Ti:=⟨false,false,1,8,[.pointer none],(.ptr 120)⟩
def nXW:Ti:=⟨false,false,1,8,[.nilFunc],.fn⟩
def nXV:Ti:=⟨false,false,1,8,[.pointer none],(.ptr 401)⟩
def nXU:Ti:=⟨false,false,1,8,[.map none],(.mp 3 4)⟩
def hQF:Ti:=⟨false,false,1,8,[.pointer none],(.ptr 126)⟩
def nXT:Ti:=⟨false,false,1,24,[.slice none 0 0],(.uD 28)⟩
def nXS:Ti:=⟨false,false,1,8,[.map none],(.mp 3 229)⟩
def hQE:Ti:=⟨true,true,0,0,[],(.fw [])⟩
def nXR:Ti:=⟨false,true,1,8,[.int .i64 0],(.fw [(119,0),(397,0),(2,0)])⟩
def hQD:Ti:=⟨false,true,2,16,[.map none,.int .i64 0],(.fw [(396,0),(399,1)])⟩
def nXQ:Ti:=⟨false,false,1,8,[.pointer none],(.ptr 124)⟩
def nXP:Ti:=⟨false,false,1,8,[.pointer none],(.ptr 21)⟩
def nXO:Ti:=⟨false,false,1,8,[.pointer none],.jQr⟩
def nXN:Ti:=⟨false,false,1,8,[.pointer none],(.ptr 399)⟩
def nXM:Ti:=⟨false,false,1,8,[.pointer none],(.ptr 2)⟩
def ty(t:Nat):Ti:=if t<145 then(if t<61 then(if t<32 then(if t<21 then(if t<4 then(if t<2 then(if t=1 then y1 else .none)else(if t<3 then(if t=2 then y2 else .none)else(if t=3 then y3 else .none)))else(if t<5 then(if t=4 then y4 else .none)else(if t<9 then(if t=5 then y5 else .none)else(if t=9 then y9 else .none))))else(if t<26 then(if t<22 then(if t=21 then kXo else .none)else(if t<24 then(if t=22 then kXn else .none)else(if t=24 then kXm else .none)))else(if t<28 then(if t<27 then(if t=26 then kXl else .none)else(if t=27 then kXk else .none))else(if t<30 then(if t=28 then kXj else .none)else(if t=30 then kXi else .none)))))else(if t<44 then(if t<38 then(if t<34 then(if t=32 then kXh else .none)else(if t<35 then(if t=34 then kXg else .none)else(if t=35 then kXf else .none)))else(if t<42 then(if t<40 then(if t=38 then kXe else .none)else(if t=40 then kXd else .none))else(if t<43 then(if t=42 then kXc else .none)else(if t=43 then kXb else .none))))else(if t<51 then(if t<45 then(if t=44 then kXa else .none)else(if t<47 then(if t=45 then kQZ else .none)else(if t=47 then kQY else .none)))else(if t<53 then(if t<52 then(if t=51 then kQX else .none)else(if t=52 then kQW else .none))else(if t<55 then(if t=53 then kQV else .none)else(if t=55 then kQU else .none))))))else(if t<105 then(if t<89 then(if t<65 then(if t<62 then(if t=61 then kQS else .none)else(if t<63 then(if t=62 then nJc else .none)else(if t=63 then nJb else .none)))else(if t<84 then(if t<67 then(if t=65 then kQQ else .none)else(if t=67 then nJa else .none))else(if t<86 then(if t=84 then nZZ else .none)else(if t=86 then nZY else .none))))else(if t<94 then(if t<91 then(if t=89 then nZX else .none)else(if t<92 then(if t=91 then nZW else .none)else(if t=92 then nZV else .none)))else(if t<100 then(if t<97 then(if t=94 then nZU else .none)else(if t=97 then nZT else .none))else(if t<102 then(if t=100 then nZP else .none)else(if t=102 then hXV else .none)))))else(if t<126 then(if t<119 then(if t<112 then(if t=105 then nZO else .none)else(if t<118 then(if t=112 then nZN else .none)else(if t=118 then hXQ else .none)))else(if t<122 then(if t<120 then(if t=119 then nZM else .none)else(if t=120 then hXP else .none))else(if t<124 then(if t=122 then hXO else .none)else(if t=124 then hXN else .none))))else(if t<132 then(if t<128 then(if t=126 then hXM else .none)else(if t<130 then(if t=128 then hXK else .none)else(if t=130 then hXJ else .none)))else(if t<137 then(if t<134 then(if t=132 then nZL else .none)else(if t=134 then hXH else .none))else(if t<138 then(if t=137 then nZK else .none)else(if t=138 then nZJ else .none)))))))else(if t<275 then(if t<201 then(if t<172 then(if t<155 then(if t<150 then(if t=145 then hXD else .none)else(if t<151 then(if t=150 then nZI else .none)else(if t=151 then nZH else .none)))else(if t<169 then(if t<163 then(if t=155 then nZG else .none)else(if t=163 then nZF else .none))else(if t<170 then(if t=169 then nZE else .none)else(if t=170 then nZD else .none))))else(if t<178 then(if t<174 then(if t=172 then nZC else .none)else(if t<176 then(if t=174 then nZB else .none)else(if t=176 then nZA else .none)))else(if t<195 then(if t<190 then(if t=178 then nZz else .none)else(if t=190 then nZy else .none))else(if t<198 then(if t=195 then nZx else .none)else(if t=198 then nZw else .none)))))else(if t<254 then(if t<238 then(if t<224 then(if t=201 then nZv else .none)else(if t<229 then(if t=224 then nZu else .none)else(if t=229 then nZt else .none)))else(if t<241 then(if t<239 then(if t=238 then nZs else .none)else(if t=239 then nZr else .none))else(if t<243 then(if t=241 then nZq else .none)else(if t=243 then nZp else .none))))else(if t<267 then(if t<255 then(if t=254 then nZo else .none)else(if t<263 then(if t=255 then nZn else .none)else(if t=263 then hXb else .none)))else(if t<271 then(if t<268 then(if t=267 then nZm else .none)else(if t=268 then nZl else .none))else(if t<273 then(if t=271 then nZk else .none)else(if t=273 then nZj else .none))))))else(if t<381 then(if t<326 then(if t<299 then(if t<279 then(if t=275 then nZi else .none)else(if t<282 then(if t=279 then nZh else .none)else(if t=282 then hQV else .none)))else(if t<317 then(if t<303 then(if t=299 then nZg else .none)else(if t=303 then nZf else .none))else(if t<325 then(if t=317 then nZe else .none)else(if t=325 then hQP else .none))))else(if t<346 then(if t<327 then(if t=326 then nZd else .none)else(if t<329 then(if t=327 then nZc else .none)else(if t=329 then nZb else .none)))else(if t<371 then(if t<360 then(if t=346 then nZa else .none)else(if t=360 then nXZ else .none))else(if t<373 then(if t=371 then nXY else .none)else(if t=373 then nXX else .none)))))else(if t<399 then(if t<391 then(if t<383 then(if t=381 then nXW else .none)else(if t<385 then(if t=383 then nXV else .none)else(if t=385 then nXU else .none)))else(if t<396 then(if t<395 then(if t=391 then hQF else .none)else(if t=395 then nXT else .none))else(if t<397 then(if t=396 then nXS else .none)else(if t=397 then hQE else .none))))else(if t<408 then(if t<401 then(if t=399 then nXR else .none)else(if t<406 then(if t=401 then hQD else .none)else(if t=406 then nXQ else .none)))else(if t<413 then(if t<410 then(if t=408 then nXP else .none)else(if t=410 then nXO else .none))else(if t<415 then(if t=413 then nXN else .none)else(if t=415 then nXM else .none)))))))
def aXk:List Nat:=[1,2,3,4,5,9,21,22,24,26,27,28,30,32,34,35,38,40,42,43,44,45,47,51,52,53,55,61,62,63,65,67,84,86,89,91,92,94,97,100,102,105,112,118,119,120,122,124,126,128,130,132,134,137,138,145,150,151,155,163,169,170,172,174,176,178,190,195,198,201,224,229,238,239,241,243,254,255,263,267,268,271,273,275,279,282,299,303,317,325,326,327,329,346,360,371,373,381,383,385,391,395,396,397,399,401,406,408,410,413,415]
def cKV:List Nat:=[0,1,111,202,281,285,310,324,325,326,327,329,330,332,335,336,337,338,339,340,341,345,346,347,348,349,350,351,352,353,354,355,356,357,358,359,360,361,362]
def jZT:Nat:=363
def aG(f:Nat):Bool:=if f<jZT then !cKV.contains f else false
def mXp(p:Nat->zX)(b:Nat->Bool):bu:=⟨ty,aG,p,b,λ_=>false,[],λ_ _ _=>False⟩
def mJk(b:Nat->Bool):bu:=mXp (λ_=>.done) b
def mQP:bu:=mJk (λ_=>false)
def mQX(a:Nat)(p:zX):zX:=.aa a (.aa (a+1) p)
def mXs(a:Nat)(p:zX):zX:=mQX a (mQX (a+2) p)
def mXC(a:Nat)(p:zX):zX:=mXs a (mXs (a+4) p)
def mKQ(a:Nat)(p:zX):zX:=mXC a (mXC (a+8) p)
def T3:bu:=mXp (λid=>if id=4 then(mQX 0 (.aa 8 (.av 2 [0] (.av 3 [] (mXs 4 (.av 9 [] (.av 10 [] (.av 11 [] .done))))))))else if id=12 then(mXC 0 (mXs 8 (.av 12 [] (.aa 13 .done))))else if id=14 then(mKQ 0 (mQX 16 (.aa 18 (.av 19 [] .done))))else .done) (λ_=>false)
def T4:bu:=mXp (λid=>if id=20 then(mXC 0 (mQX 8 (.aa 10 (.av 11 [] (.aa 12 .done)))))else .done) (λ_=>false)
def T6:bu:=mQP
def T7:bu:=mXp (λid=>if id=6 then(mXs 0 (.aa 4 (mXC 6 (mQX 14 (.aa 21 (.av 5 [15,10] (.av 16 [] (.av 17 [] (mQX 18 (.aa 20 (.av 22 [] (.av 23 [] .done))))))))))))else .done) (λ_=>false)
def T8:bu:=mJk (λs=>[79].contains s)
def T9:bu:=mQP
def kQg:bu:=mXp (λid=>if id=6 then(mXC 0 (.av 8 [] (.aa 9 .done)))else .done) (λ_=>false)
def kQf:bu:=mQP
def kQe:bu:=mXp (λid=>if id=6 then(mKQ 0 (mQX 16 (.aa 18 .done)))else if id=14 then(mXs 0 (.aa 4 (.av 5 [4] (.av 6 [] .done))))else .done) (λs=>[22].contains s)
def kQd:bu:=mXp (λid=>if id=5 then(mQX 0 (.av 2 [0] (.av 3 [] (mQX 4 (.aa 6 (.av 7 [] .done))))))else if id=6 then(mQX 0 (.av 2 [0] (.av 3 [] (mQX 4 (.aa 6 (.av 7 [] .done))))))else if id=7 then(mQX 0 (.av 2 [1] (.av 3 [] .done)))else .done) (λ_=>false)
def lKY:bu:=mQP
def lKX:bu:=mQP
def jKX:bu:=mQP
def jKW:bu:=mQP
def jKV:bu:=mXp (λid=>if id=10 then(mXC 0 (mXs 8 (.av 12 [4] (.av 13 [] (mQX 14 (.av 16 [] .done))))))else .done) (λ_=>false)
def jKU:bu:=mXp (λid=>if id=11 then(mXC 0 (mXs 8 (.av 12 [] .done)))else .done) (λ_=>false)
def jKT:bu:=mXp (λid=>if id=1 then(mXs 0 (mQX 4 (.av 6 [] (.av 7 [] .done))))else .done) (λs=>[1].contains s)
def jKS:bu:=mXp (λid=>if id=1 then(mXs 0 (mQX 4 (.av 6 [] (.av 7 [] .done))))else if id=4 then(mXs 0 (mQX 4 (.fork (.av 6 [] (.av 7 [] (.av 8 [] .done))) (.av 7 [5,1,0] (.av 6 [] (.av 8 [] .done))))))else .done) (λs=>[1,5].contains s)
def hQj:bu:=mXp (λid=>if id=1 then(mXs 0 (mQX 4 (.av 6 [] (.av 7 [] .done))))else if id=4 then(mXs 0 (mQX 4 (.fork (.av 6 [] (.av 7 [] (.av 8 [] .done))) (.av 7 [5,1,0] (.av 6 [] (.av 8 [] .done))))))else .done) (λs=>[1,5].contains s)
def hQi:bu:=mXp (λid=>if id=1 then(mXC 0 (mQX 8 (.aa 10 .done)))else if id=3 then(mXC 0 (mQX 8 (.av 10 [] (.av 11 [] .done))))else if id=11 then(mXs 0 (mQX 4 (.aa 7 (.av 6 [] (.av 8 [] .done)))))else if id=14 then(mXs 0 (mQX 4 (.av 6 [] (.av 7 [] .done))))else if id=15 then(mQX 0 (.aa 3 (.av 2 [3] (.av 4 [] (.av 5 [] (mQX 6 (.av 8 [] .done)))))))else .done) (λs=>[1,56].contains s)
def jKR:bu:=mXp (λid=>if id=6 then(mXC 0 (.aa 8 .done))else .done) (λ_=>false)
def jKQ:bu:=mQP
def jKP:bu:=mQP
def jKO:bu:=mQP
def lKV:bu:=mQP
def jKN:bu:=mXp (λid=>if id=11 then(.aa 0 (mXs 2 (.av 1 [5] (.av 6 [5] (.av 7 [] .done)))))else if id=12 then(mXC 0 (.aa 8 (.av 9 [5] (.av 10 [5] (.av 11 [] (mQX 12 (.aa 14 (.av 15 [] .done))))))))else .done) (λ_=>false)
def jKM:bu:=mQP
def jKL:bu:=mXp (λid=>if id=11 then(mXC 0 (mXs 8 (mQX 12 (.aa 14 (.av 15 [] (.aa 16 .done))))))else .done) (λ_=>false)
def jKK:bu:=mJk (λs=>[6].contains s)
def jKJ:bu:=mQP
def jKI:bu:=mXp (λid=>if id=1 then(mQX 0 (mQX 3 (mQX 6 (.aa 8 (mQX 10 (.aa 12 (.av 2 [12,8,4] (.av 5 [12,8] (.av 9 [12] (.av 13 [] (mQX 14 (.av 16 [] .done))))))))))))else .done) (λ_=>false)
def jKH:bu:=mXp (λid=>if id=11 then(mXC 0 (.av 8 [] .done))else if id=15 then(mXC 0 (.av 8 [] .done))else .done) (λ_=>false)
def jKF:bu:=mQP
def hQh:bu:=mQP
def jKE:bu:=mQP
def jKt:bu:=mQP
def jKs:bu:=mQP
def hQd:bu:=mQP
def jKr:bu:=mJk (λs=>[3].contains s)
def jKq:bu:=mXp (λid=>if id=2 then(mXC 0 (mXs 8 (.aa 12 (.av 13 [] .done))))else if id=8 then(mXs 0 (mQX 4 (.av 6 [] (mXs 7 (.av 11 [] .done)))))else if id=9 then(mKQ 0 (.aa 16 .done))else if id=10 then(mXC 0 (mXs 8 (.aa 12 (.av 13 [] (mXs 14 (.aa 18 (.av 19 [] .done)))))))else if id=11 then(mKQ 0 (.av 16 [] .done))else .done) (λ_=>false)
def jKp:bu:=mXp (λid=>if id=1 then(mXC 0 (mQX 8 (.aa 10 (.av 11 [] (mXs 12 (.aa 16 (.av 17 [] (.av 18 [] .done))))))))else .done) (λ_=>false)
def jKo:bu:=mJk (λs=>[2,5,6].contains s)
def lKU:bu:=mXp (λid=>if id=3 then(mXC 0 (mXs 8 (mQX 12 (.aa 14 (.av 15 [0] (mXs 16 (.aa 20 (.av 21 [] (.av 22 [] .done)))))))))else .done) (λ_=>false)
def jKn:bu:=mJk (λs=>[4,5,8].contains s)
def lKT:bu:=mJk (λs=>[7].contains s)
def lKS:bu:=mQP
def jKm:bu:=mJk (λs=>[4].contains s)
def jKl:bu:=mXp (λid=>if id=6 then(mKQ 0 (.aa 16 .done))else if id=9 then(mXC 0 (mXs 8 (.av 12 [] (.av 13 [] .done))))else .done) (λs=>[3,6].contains s)
def jKk:bu:=mXp (λid=>if id=5 then(mXC 0 (mXs 8 (mQX 12 (.av 14 [] .done))))else .done) (λ_=>false)
def jKj:bu:=mXp (λid=>if id=3 then(mQX 0 (.aa 2 (.av 3 [1] (.av 4 [] (.av 5 [] .done)))))else .done) (λs=>[3,5,6,7,9].contains s)
def jKi:bu:=mXp (λid=>if id=1 then(mXs 0 (mQX 4 (.aa 6 (.av 7 [] (mQX 8 (.aa 10 (.av 11 [] (.av 12 [] .done))))))))else if id=6 then(mXC 0 (mQX 8 (.av 10 [] (mQX 11 (.aa 13 (.av 14 [] (.av 15 [] .done)))))))else .done) (λ_=>false)
def jKh:bu:=mQP
def jKg:bu:=mJk (λs=>[3].contains s)
def jKf:bu:=mQP
def lXS:bu:=mXp (λid=>if id=1 then(mKQ 0 (mXs 16 (.aa 20 (.av 21 [13,8,4] (mXs 22 (.av 26 [] (mXs 27 (.aa 31 (.av 32 [] (.av 33 [] .done))))))))))else .done) (λ_=>false)
def jKe:bu:=mXp (λid=>if id=1 then(mXC 0 (mXs 8 (mQX 12 (.aa 14 (.av 15 [] (mXs 16 (.aa 20 (.av 21 [] (.av 22 [] .done)))))))))else .done) (λ_=>false)
def eJi:bu:=mXp (λid=>if id=1 then(mXs 0 (mQX 4 (.av 6 [4,0] (.av 7 [] (.av 8 [] .done)))))else .done) (λ_=>false)
def jKd:bu:=mQP
def jKc:bu:=mQP
def hQc:bu:=mQP
def jKb:bu:=mQP
def hQb:bu:=mXp (λid=>if id=5 then(mXC 0 (mXs 8 (.aa 12 (.av 13 [0] (mQX 14 (.aa 16 (.av 17 [] .done)))))))else if id=8 then(mKQ 0 (mXC 16 (.aa 24 .done)))else if id=10 then(mXs 0 (mQX 4 (.aa 6 (.av 7 [] (.av 8 [] .done)))))else .done) (λs=>[1].contains s)
def jKa:bu:=mJk (λs=>[3,5,8].contains s)
def jJZ:bu:=mJk (λs=>[2,6].contains s)
def hQa:bu:=mXp (λid=>if id=2 then(mQX 0 (mXs 3 (.aa 7 (.aa 10 (.av 2 [7,3] (.av 8 [] (.aa 9 .done)))))))else .done) (λs=>[2,8,9].contains s)
def jJY:bu:=mQP
def gKZ:bu:=mXp (λid=>if id=1 then(mXC 0 (mQX 8 (.aa 10 (.av 11 [] .done))))else .done) (λ_=>false)
def aQF:bu:=mQP
def jJW:bu:=mXp (λid=>if id=1 then(mXC 0 (mQX 8 (.aa 10 (.av 11 [] .done))))else .done) (λ_=>false)
def jJV:bu:=mXp (λid=>if id=4 then(mQX 0 (.aa 2 (.av 3 [1] (.av 4 [1] (.av 5 [] (.aa 6 (.av 7 [] .done)))))))else if id=6 then(mQX 0 (.aa 2 (.av 3 [1] (.av 4 [1] (.av 5 [] (.aa 6 (.av 7 [] .done)))))))else .done) (λ_=>false)
def gKY:bu:=mXp (λid=>if id=6 then(mQX 0 (.aa 2 (.av 3 [1] (.av 4 [1] (.av 5 [] (.aa 6 (.av 7 [] .done)))))))else if id=8 then(mQX 0 (.aa 2 (.av 3 [1] (.av 4 [1] (.av 5 [] (.aa 6 (.av 7 [] .done)))))))else .done) (λ_=>false)
def jJU:bu:=mQP
def jJT:bu:=mXp (λid=>if id=6 then(mQX 0 (.aa 2 (.av 3 [1] (.av 4 [1] (.av 5 [] (.aa 6 (.av 7 [] .done)))))))else if id=22 then(mXC 0 (mQX 8 (.aa 10 (.av 11 [] .done))))else .done) (λ_=>false)
def jJS:bu:=mJk (λs=>[2,3].contains s)
def gKX:bu:=mQP
def gZm:bu:=mXp (λid=>if id=11 then(mXC 0 (.av 8 [] .done))else if id=15 then(mXC 0 (.av 8 [] .done))else .done) (λ_=>false)
def gZl:bu:=mQP
def cJd:bu:=mXp (λid=>if id=8 then(mXs 0 (mQX 4 (.aa 6 (.av 7 [] (mQX 8 (.aa 10 (.av 11 [] (.av 12 [] .done))))))))else .done) (λ_=>false)
def cJc:bu:=mQP
def gZk:bu:=mXp (λid=>if id=4 then(mXs 0 (mQX 4 (.aa 6 .done)))else if id=5 then(mXs 0 (mQX 4 (.aa 6 (.av 7 [] .done))))else .done) (λ_=>false)
def gZj:bu:=mQP
def gZi:bu:=mQP
def gZh:bu:=mQP
def gZg:bu:=mQP
def gZf:bu:=mXp (λid=>if id=1 then(mQX 0 (mQX 3 (.av 2 [4] (.aa 6 (.av 5 [] (.av 7 [] (.aa 8 (.av 9 [] .done))))))))else .done) (λ_=>false)
def gZe:bu:=mQP
def gZb:bu:=mQP
def cJb:bu:=mXp (λid=>if id=5 then(mXs 0 (mQX 4 (.av 6 [] (.av 7 [] .done))))else .done) (λ_=>false)
def cJa:bu:=mXp (λid=>if id=1 then(mQX 0 (.aa 2 (mQX 4 (.aa 6 (.av 3 [5] (.av 7 [] (.aa 8 (.av 9 [] .done))))))))else .done) (λ_=>false)
def lZE:bu:=mQP
def lZy:bu:=mQP
def lZx:bu:=mQP
def lZw:bu:=mJk (λs=>[1].contains s)
def lZv:bu:=mXp (λid=>if id=5 then(mQX 0 (.aa 2 (.av 3 [0] (.av 4 [] (mQX 5 (.aa 7 (.av 8 [] (.av 9 [] .done))))))))else if id=10 then(mXs 0 (mQX 4 (.aa 6 (mXs 8 (.av 7 [9,2,0] (.av 12 [0] (.av 13 [] (.av 14 [] (.av 15 [] .done)))))))))else .done) (λ_=>false)
def lZu:bu:=mXp (λid=>if id=5 then(mXC 0 (mQX 8 (.aa 10 (mXs 13 (.aa 17 (.av 11 [17,14,0] (.av 12 [17,14] (.av 18 [] (.av 19 [] (.av 20 [] (.av 21 [] .done)))))))))))else .done) (λ_=>false)
def lZt:bu:=mQP
def gXK:bu:=mQP
def gXJ:bu:=mQP
def lZs:bu:=mQP
def gXI:bu:=mJk (λs=>[6,7].contains s)
def lZr:bu:=mXp (λid=>if id=2 then(mQX 0 (.aa 4 (.av 2 [0] (.aa 3 (.av 5 [] (.av 6 [] (.av 7 [] .done)))))))else .done) (λ_=>false)
def lZq:bu:=mXp (λid=>if id=13 then(mXC 0 (.av 8 [] .done))else if id=14 then(mXs 0 (mQX 4 (.av 6 [4] (.av 7 [] (mQX 8 (.av 10 [] .done))))))else .done) (λ_=>false)
def gXH:bu:=mQP
def gXG:bu:=mQP
def gXF:bu:=mQP
def gXE:bu:=mQP
def gXD:bu:=mXp (λid=>if id=1 then(mXs 0 (mQX 4 (.aa 6 (.av 7 [] (mQX 8 (.aa 10 (.av 11 [] (.av 12 [] .done))))))))else if id=5 then(mQX 0 (mQX 4 (.fork (.av 2 [4,0] (.fork (.av 3 [4] (.av 6 [4] (.av 7 [] (.av 8 [] (.av 9 [] .done))))) (.av 6 [4,0] (.av 3 [4] (.av 7 [] (.av 8 [] (.av 9 [] .done))))))) (.av 6 [4,0] (.av 2 [4,0] (.av 3 [4] (.av 7 [] (.av 8 [] (.av 9 [] .done)))))))))else .done) (λ_=>false)
def gXC:bu:=mQP
def gXB:bu:=mQP
def gXA:bu:=mQP
def gXz:bu:=mJk (λs=>[7].contains s)
def gXy:bu:=mXp (λid=>if id=1 then(mXC 0 (.aa 8 (.av 9 [] (.av 10 [] .done))))else .done) (λ_=>false)
def gXx:bu:=mXp (λid=>if id=1 then(mXC 0 (.aa 8 (.av 9 [] (.av 10 [] .done))))else .done) (λ_=>false)
def gXw:bu:=mXp (λid=>if id=1 then(mXs 0 (mQX 4 (.aa 6 (.av 7 [] (.av 8 [] .done)))))else .done) (λ_=>false)
def gXv:bu:=mQP
def Rm:bu:=mXp (λid=>if id=4 then(mXs 0 (mQX 4 (.av 6 [] (.av 7 [] .done))))else if id=5 then(mXs 0 (mQX 4 (.av 6 [] (mQX 7 (.aa 9 (.av 10 [] (.av 11 [] .done)))))))else .done) (λ_=>false)
def gXu:bu:=mXp (λid=>if id=1 then(mXs 0 (mQX 4 (.aa 6 (.av 7 [0] (mXs 8 (.aa 12 (.av 13 [] (.av 14 [] .done))))))))else .done) (λ_=>false)
def gXt:bu:=mQP
def gXs:bu:=mXp (λid=>if id=1 then(mXs 0 (mQX 4 (.aa 6 (.av 7 [0] (mXs 8 (.aa 12 (.av 13 [] (.av 14 [] .done))))))))else .done) (λ_=>false)
def cZY:bu:=mQP
def cZX:bu:=mQP
def gXr:bu:=mQP
def gXq:bu:=mQP
def gXp:bu:=mXp (λid=>if id=5 then(mXC 0 (.aa 8 (.av 9 [] (mQX 10 (.aa 12 (.av 13 [] (.av 14 [] .done)))))))else .done) (λ_=>false)
def cZW:bu:=mJk (λs=>[4].contains s)
def gXo:bu:=mXp (λid=>if id=2 then(mXC 0 (mQX 8 (.av 10 [] (mQX 11 (.aa 13 (.av 14 [] (.av 15 [] .done)))))))else if id=5 then(mXC 0 (mQX 8 (.av 10 [] (mQX 11 (.aa 13 (.av 14 [] (.av 15 [] .done)))))))else .done) (λ_=>false)
def gXn:bu:=mQP
def gXm:bu:=mQP
def ZZ:bu:=mXp (λid=>if id=1 then(mXC 0 (mXs 8 (.aa 12 (.av 13 [] (.av 14 [] .done)))))else .done) (λ_=>false)
def gXl:bu:=mQP
def gXk:bu:=mQP
def gXj:bu:=mQP
def gXi:bu:=mQP
def gXh:bu:=mXp (λid=>if id=9 then(mKQ 0 (.aa 16 .done))else .done) (λs=>[2,5].contains s)
def JL:bu:=mQP
def gXg:bu:=mXp (λid=>if id=5 then(mXC 0 (.aa 8 (.av 9 [] (.av 10 [] .done))))else .done) (λs=>[3,4,6].contains s)
def gXf:bu:=mQP
def gXe:bu:=mQP
def gXd:bu:=mQP
def gXc:bu:=mQP
def gXb:bu:=mQP
def cZV:bu:=mQP
def gQZ:bu:=mQP
def gQY:bu:=mQP
def gQX:bu:=mQP
def gQW:bu:=mQP
def cZU:bu:=mQP
def cZT:bu:=mQP
def cZS:bu:=mQP
def Rl:bu:=mQP
def gQV:bu:=mQP
def gQS:bu:=mQP
def nXL:bu:=mQP
def gQR:bu:=mQP
def gQO:bu:=mQP
def gQD:bu:=mQP
def gQC:bu:=mQP
def gQB:bu:=mQP
def lZm:bu:=mXp (λid=>if id=3 then(mQX 0 (.av 2 [0] (.av 3 [0] (.aa 4 (.av 5 [] .done)))))else .done) (λ_=>false)
def lZl:bu:=mJk (λs=>[2].contains s)
def lZk:bu:=mQP
def lZj:bu:=mXp (λid=>if id=9 then(mXs 0 (mQX 4 (.av 6 [] (mQX 7 (.aa 9 (.av 10 [] (.av 11 [] .done)))))))else .done) (λs=>[4,5,6,7].contains s)
def gQA:bu:=mQP
def gQz:bu:=mQP
def gQy:bu:=mXp (λid=>if id=10 then(mXC 0 (mXs 8 (.av 12 [] (.av 13 [] .done))))else if id=11 then(mXC 0 (mXs 8 (.av 12 [] (.av 13 [] .done))))else .done) (λ_=>false)
def lZi:bu:=mQP
def lZh:bu:=mQP
def gQx:bu:=mXp (λid=>if id=1 then(.aa 0 (mQX 2 (.fork (.av 1 [] (.fork (.av 4 [] (.av 5 [] (.av 6 [] .done))) (.av 5 [] (.av 4 [] (.av 6 [] .done))))) (.av 4 [] (.av 1 [] (.av 5 [] (.av 6 [] .done)))))))else .done) (λ_=>false)
def gQw:bu:=mQP
def gQv:bu:=mQP
def gQu:bu:=mQP
def gQt:bu:=mXp (λid=>if id=1 then(mXs 0 (mXs 5 (mXs 10 (.av 4 [13,11,8,6] (.av 9 [13,11] (.av 14 [] (.av 15 [] (.av 16 [] (.av 17 [] .done)))))))))else .done) (λ_=>false)
def gQs:bu:=mXp (λid=>if id=1 then(mXC 0 (mXs 8 (.aa 12 (.av 13 [] (.av 14 [] .done)))))else .done) (λ_=>false)
def gQr:bu:=mXp (λid=>if id=1 then(mXs 0 (mQX 4 (.aa 6 (.aa 11 (.av 7 [] (mQX 8 (.aa 10 (.av 12 [] (.av 13 [] .done)))))))))else .done) (λ_=>false)
def cZQ:bu:=mQP
def gQq:bu:=mQP
def cZP:bu:=mXp (λid=>if id=6 then(mXs 0 (mQX 4 (.av 6 [4] (.av 7 [] (mQX 8 (.av 10 [] .done))))))else .done) (λ_=>false)
def gQp:bu:=mQP
def gQo:bu:=mQP
def gQn:bu:=mQP
def lZf:bu:=mQP
def gQd:bu:=mXp (λid=>if id=3 then(mQX 0 (.av 2 [0] (mKQ 3 (.av 19 [] .done))))else .done) (λ_=>false)
def gQc:bu:=mQP
def gQb:bu:=mQP
def gQa:bu:=mXp (λid=>if id=5 then(mXs 0 (mQX 4 (.av 6 [] (.aa 7 .done))))else if id=8 then(mXC 0 (mQX 8 (.aa 10 (.av 11 [] (mQX 12 (.av 14 [] (.av 15 [] .done)))))))else .done) (λ_=>false)
def cZM:bu:=mXp (λid=>if id=1 then(mQX 0 (.aa 3 (.av 2 [3] (.av 4 [] (.av 5 [] .done)))))else .done) (λ_=>false)
def lZe:bu:=mXp (λid=>if id=1 then(mXC 0 (mQX 8 (.av 10 [0] (mXs 11 (mQX 15 (.av 17 [] (.av 18 [] .done)))))))else .done) (λ_=>false)
def lZd:bu:=mXp (λid=>if id=2 then(mKQ 0 (mQX 16 (.aa 18 (.av 19 [] .done))))else if id=4 then(mQX 0 (mXs 3 (.aa 9 (.av 2 [6,4] (.av 7 [] (.aa 8 (.av 10 [] .done)))))))else .done) (λ_=>false)
def lZc:bu:=mQP
def lZb:bu:=mXp (λid=>if id=5 then(mXs 0 (.aa 4 (.av 5 [2] (.av 6 [] (.av 7 [] .done)))))else if id=12 then(mXC 0 (mXs 8 (.av 12 [] (mQX 13 (.av 15 [] (.av 16 [] .done))))))else if id=13 then(mXC 0 (mXs 8 (.av 12 [] (mQX 13 (.av 15 [] (.av 16 [] .done))))))else .done) (λ_=>false)
def lZa:bu:=mQP
def lXZ:bu:=mQP
def fKZ:bu:=mQP
def fKY:bu:=mQP
def fKX:bu:=mXp (λid=>if id=4 then(mXC 0 (mXs 8 (mQX 12 (.av 14 [] (mQX 15 .done)))))else if id=6 then(mXC 0 (mXs 8 (mQX 12 (.aa 14 (.av 15 [] (.aa 16 (.av 17 [] .done)))))))else .done) (λ_=>false)
def fKW:bu:=mXp (λid=>if id=5 then(mXC 0 (.aa 8 (.av 9 [] (.aa 10 .done))))else if id=11 then(mXC 0 (mXs 8 (mQX 12 (.aa 14 (.av 15 [] (.aa 16 (.av 17 [] .done)))))))else if id=17 then(mXC 0 (.aa 8 (.av 9 [] (mQX 10 .done))))else if id=23 then(mXC 0 (mXs 8 (mQX 12 (.aa 14 (.av 15 [] (.aa 16 (.av 17 [] .done)))))))else if id=35 then(mXC 0 (mQX 8 (.aa 10 (.av 11 [] (mQX 12 .done)))))else .done) (λ_=>false)
def fKV:bu:=mQP
def fKU:bu:=mQP
def fKT:bu:=mQP
def fKR:bu:=mQP
def fKQ:bu:=mQP
def fKP:bu:=mXp (λid=>if id=0 then(mXs 0 (.av 4 [] (.av 5 [] .done)))else .done) (λ_=>false)
def fKJ:bu:=mQP
def nZS:bu:=mQP
def fKI:bu:=mJk (λs=>[3].contains s)
def fKH:bu:=mQP
def fKG:bu:=mQP
def nZR:bu:=mQP
def lXY:bu:=mXp (λid=>if id=9 then(mXC 0 (mXs 8 (mQX 13 (.fork (.av 12 [14,5,3] (.av 15 [5,3] (.av 16 [5,3] (.av 17 [] .done)))) (.av 15 [11,9,5,3] (.av 12 [5,3] (.av 16 [5,3] (.av 17 [] .done))))))))else .done) (λs=>[10].contains s)
def fKF:bu:=mXp (λid=>if id=6 then(mXs 0 (mQX 4 (.aa 6 (.aa 9 (.av 7 [] (.aa 8 .done))))))else .done) (λ_=>false)
def ZX:bu:=mQP
def lXX:bu:=mQP
def lXW:bu:=mQP
def lXV:bu:=mQP
def fKE:bu:=mXp (λid=>if id=5 then(mQX 0 (.av 2 [0] (.aa 3 .done)))else .done) (λ_=>false)
def fKD:bu:=mQP
def fKC:bu:=mQP
def fKB:bu:=mQP
def fKA:bu:=mQP
def fKz:bu:=mQP
def fKy:bu:=mQP
def fKw:bu:=mQP
def fKv:bu:=mQP
def fKu:bu:=mQP
def fKt:bu:=mQP
def fKs:bu:=mQP
def fKr:bu:=mQP
def fKq:bu:=mQP
def fKp:bu:=mQP
def fKo:bu:=mQP
def fKn:bu:=mQP
def nXK:bu:=mQP
def fKm:bu:=mXp (λid=>if id=3 then(mKQ 0 (mXs 16 (.aa 20 (.av 21 [] (.aa 22 (.av 23 [] .done))))))else .done) (λ_=>false)
def fKl:bu:=mQP
def fKc:bu:=mQP
def fKb:bu:=mQP
def lXT:bu:=mQP
def fKa:bu:=mQP
def nZQ:bu:=mXp (λid=>if id=1 then(mXC 0 (mQX 8 (.aa 10 (.av 11 [] .done))))else .done) (λ_=>false)
theorem dZp{c:Prop}[Decidable c]{a b:Ti}{q:Prop}(d:c->a=.none\/q)(e:¬c->b=.none\/q):(if c then a else b)=.none\/q:=by
 by_cases h:c
 .rw[if_pos h];exact d h
 rw[if_neg h];exact e h
theorem dXn(t:Nat):ty t=.none\/t∈aXk:=by
 unfold ty;repeat' (first
  |exact .inl rfl
  | (refine dZp (λe=>?_) (λe=>?_)))
 all_goals (right;rw[e];decide)
theorem dXo:aXk.map ty=aXk.map (dZN Tryz.prog):=by kernel_rfl
theorem eQl:((List.range jZT).all λf=>cKV.contains f||(match Tryz.prog.funcs[f]? with
 |some fn=>fn.body.isSome&&decide (fn.name≠ "runtime.NumGoroutine")
 |none=>false))=true:=by kernel_rfl
theorem mixed:Tryz.prog.follows .mixedOrders=true:=by kernel_rfl
theorem tK(pl:Nat->zX)(pb pn:Nat->Bool)(rs:List Nat)(kp:List PanicEntry->List SV->ad->Prop):gE Tryz.prog ⟨ty,aG,pl,pb,pn,rs,kp⟩where
 ty t:=by
  rcases dXn t with h|h
  .exact .inr h
  exact .inl (List.map_inj_left.1 dXo t h)
 fn f h:=by
  have h:aG f=true:=h;unfold aG at h;split at h
  .rename_i aP;have h1:=mXq.1 eQl f (by simpa using aP);simp only[mJn]at h1;rcases h1 with h1|h1
   .rw[h1]at h;cases h
   split at h1
   .rename_i fn jQ;simp only[mQQ,mQR]at h1;exact⟨fn,jQ,h1.1,h1.2⟩
   cases h1
  cases h
 mixed:=mixed
theorem ax(l:Nat->zX)(p:Nat->Bool):gE Tryz.prog ⟨ty,aG,l,p,λ_=>false,[],λ_ _ _=>False⟩:=tK l p _ _ _
theorem mQx(T:bu)(d:Tryz.prog.funcs[f]? =some fn)
 (hx:∀(A:Ar) (_:bM A),dXx A ⟨ty,aG,T.aK,T.bF,λ_=>false,[],λ_ _ _=>False⟩ (λ_=>Tryz.prog) c fn.ntmps fn.results.toList args h R) (b:fn.body=some c:=by exact rfl) (o:gu ⟨ty,aG,T.aK,T.bF,λ_=>false,[],λ_ _ _=>False⟩ c=true:=by kernel_rfl):aQI (λ_=>Tryz.prog) f args h R:=by
 obtain⟨A,a⟩:=Ar.ex;exact ah A (ax T.aK T.bF) d b o (hx A a)
theorem mQF(T:bu)(A:Ar)[bM A](a:Tryz.prog.funcs[f]? =some fn)
 (hx:dXx A ⟨ty,aG,T.aK,T.bF,λ_=>false,[],λ_ _ _=>False⟩ (λ_=>Tryz.prog) c fn.ntmps fn.results.toList args h R) (b:fn.body=some c:=by exact rfl) (o:gu ⟨ty,aG,T.aK,T.bF,λ_=>false,[],λ_ _ _=>False⟩ c=true:=by kernel_rfl):aQI (λ_=>Tryz.prog) f args h R:=ah A (ax T.aK T.bF) a b o hx
end Go.S
