import Derived.Test.YtekoaiendgjkdaaGreatProg
import Derived.Test.YtekoaiendgjkdaaGreatSxB
import Derived.KernelRfl
set_option linter.unusedVariables false
set_option linter.unusedSimpArgs false
set_option linter.unusedSectionVars false
namespace Go.S
open Go.Sx Go.Proofs
def y1:Ti:=⟨false,false,1,8,[.nilFunc],.fn⟩
def y2:Ti:=⟨false,false,1,8,[.int .i64 0],(.int .i64)⟩
def y3:Ti:=⟨false,false,1,8,[.int .i64 0],(.int .i64)⟩
def y4:Ti:=⟨false,false,1,1,[.bool false],.bool⟩
def y5:Ti:=⟨false,false,1,1,[.int .u8 0],(.int .u8)⟩
def y9:Ti:=⟨false,false,1,16,[.string ⟨#[]⟩],.str⟩
def kXo:Ti:=⟨false,false,1,4,[.int .i32 0],(.int .i32)⟩
def kXn:Ti:=⟨false,false,1,24,[.slice none 0 0],(.uD 24)⟩
def kXm:Ti:=⟨true,true,4,32,[.int .i64 0,.int .i64 0,.int .i64 0,.int .i64 0],(.fw [(3,0),(3,1),(3,2),(3,3)])⟩
def kXl:Ti:=⟨false,false,1,24,[.slice none 0 0],(.uD 51)⟩
def kXk:Ti:=⟨false,false,1,24,[.slice none 0 0],(.uD 55)⟩
def kXj:Ti:=⟨false,false,1,24,[.slice none 0 0],(.uD 205)⟩
def kXi:Ti:=⟨false,true,2,48,[.slice none 0 0,.slice none 0 0],(.fw [(28,0),(28,1)])⟩
def kXh:Ti:=⟨false,true,4,96,[.slice none 0 0,.slice none 0 0,.slice none 0 0,.slice none 0 0],(.fw [(26,0),(27,1),(30,2)])⟩
def kXg:Ti:=⟨false,false,1,24,[.slice none 0 0],(.uD 59)⟩
def kXf:Ti:=⟨false,false,1,8,[.int .i64 0],(.int .i64)⟩
def kXe:Ti:=⟨false,false,1,24,[.slice none 0 0],(.uD 165)⟩
def kXd:Ti:=⟨false,true,4,56,[.string ⟨#[]⟩,.slice none 0 0,.int .i64 0,.bool false],(.fw [(9,0),(38,1),(3,2),(4,3)])⟩
def kXc:Ti:=⟨false,false,1,24,[.slice none 0 0],(.uD 325)⟩
def kXb:Ti:=⟨false,false,1,24,[.slice none 0 0],(.uD 9)⟩
def kXa:Ti:=⟨false,false,1,24,[.slice none 0 0],(.uD 42)⟩
def kQZ:Ti:=⟨false,false,1,24,[.slice none 0 0],(.uD 276)⟩
def kQY:Ti:=⟨false,true,17,280,[.int .i64 0,.string ⟨#[]⟩,.slice none 0 0,.int .i64 0,.bool false,.string ⟨#[]⟩,.string ⟨#[]⟩,.slice none 0 0,.slice none 0 0,.slice none 0 0,.slice none 0 0,.slice none 0 0,.string ⟨#[]⟩,.string ⟨#[]⟩,.bool false,.int .i64 0,.string ⟨#[]⟩],(.fw [(3,0),(40,1),(9,5),(9,6),(42,7),(43,8),(44,9),(45,10),(42,11),(9,12),(9,13),(4,14),(3,15),(9,16)])⟩
def kQX:Ti:=⟨false,true,5,80,[.string ⟨#[]⟩,.slice none 0 0,.int .i64 0,.bool false,.slice none 0 0],(.fw [(40,0),(34,4)])⟩
def kQW:Ti:=⟨false,false,1,24,[.slice none 0 0],(.uD 148)⟩
def kQV:Ti:=⟨false,false,1,24,[.slice none 0 0],(.uD 161)⟩
def kQU:Ti:=⟨false,true,3,56,[.int .i64 0,.slice none 0 0,.slice none 0 0],(.fw [(3,0),(52,1),(53,2)])⟩
def kQT:Ti:=⟨false,false,1,24,[.slice none 0 0],(.uD 61)⟩
def kQS:Ti:=⟨true,true,3,32,[.int .i64 0,.int .i64 0,.string ⟨#[]⟩],(.fw [(3,0),(3,1),(9,2)])⟩
def kQR:Ti:=⟨false,false,1,24,[.slice none 0 0],(.uD 156)⟩
def kQQ:Ti:=⟨false,false,1,24,[.slice none 0 0],(.uD 145)⟩
def kQP:Ti:=⟨false,false,1,24,[.slice none 0 0],(.uD 235)⟩
def kQO:Ti:=⟨false,true,2,48,[.slice none 0 0,.slice none 0 0],(.fw [(66,0),(66,1)])⟩
def kQN:Ti:=⟨false,true,4,96,[.slice none 0 0,.slice none 0 0,.slice none 0 0,.slice none 0 0],(.fw [(64,0),(65,1),(68,2)])⟩
def kQM:Ti:=⟨false,false,1,24,[.slice none 0 0],(.uD 35)⟩
def kQL:Ti:=⟨false,false,1,24,[.slice none 0 0],(.uD 4)⟩
def kQK:Ti:=⟨false,false,1,8,[.pointer none],(.ptr 101)⟩
def hXW:Ti:=⟨false,true,22,384,[.slice none 0 0,.slice none 0 0,.slice none 0 0,.slice none 0 0,.int .i64 0,.int .i64 0,.string ⟨#[]⟩,.slice none 0 0,.int .i64 0,.bool false,.string ⟨#[]⟩,.string ⟨#[]⟩,.slice none 0 0,.slice none 0 0,.slice none 0 0,.slice none 0 0,.slice none 0 0,.string ⟨#[]⟩,.string ⟨#[]⟩,.bool false,.int .i64 0,.string ⟨#[]⟩],(.fw [(32,0),(3,4),(47,5)])⟩
def hXV:Ti:=⟨false,false,1,8,[.nilFunc],.fn⟩
def hXU:Ti:=⟨false,false,1,8,[.map none],(.mp 3 102)⟩
def hXT:Ti:=⟨false,false,1,8,[.pointer none],(.ptr 128)⟩
def hXS:Ti:=⟨true,true,0,0,[],(.fw [])⟩
def hXR:Ti:=⟨true,true,0,0,[],(.fw [])⟩
def hXQ:Ti:=⟨false,false,1,4,[.int .u32 0],(.int .u32)⟩
def hXP:Ti:=⟨false,true,1,4,[.int .u32 0],(.fw [(117,0),(118,0)])⟩
def hXO:Ti:=⟨true,true,2,8,[.int .i32 0,.int .u32 0],(.fw [(21,0),(118,1)])⟩
def hXN:Ti:=⟨false,true,2,8,[.int .i32 0,.int .u32 0],(.fw [(116,0),(122,0)])⟩
def hXM:Ti:=⟨false,true,3,12,[.int .u32 0,.int .i32 0,.int .u32 0],(.fw [(116,0),(120,0),(124,1)])⟩
def hXK:Ti:=⟨false,true,8,120,[.slice none 0 0,.slice none 0 0,.slice none 0 0,.slice none 0 0,.int .u32 0,.int .i32 0,.int .u32 0,.int .i64 0],(.fw [(32,0),(126,4),(35,7)])⟩
def hXJ:Ti:=⟨false,false,1,8,[.int .u64 0],(.int .u64)⟩
def hXI:Ti:=⟨false,false,1,24,[.slice none 0 0],(.uD 139)⟩
def hXH:Ti:=⟨false,false,1,8,[.pointer none],(.ptr 136)⟩
def hXG:Ti:=⟨false,true,4,64,[.slice none 0 0,.int .i64 0,.int .i64 0,.slice none 0 0],(.fw [(131,0),(3,1),(3,2),(42,3)])⟩
def hXF:Ti:=⟨true,true,3,32,[.int .i64 0,.int .i64 0,.string ⟨#[]⟩],(.fw [(3,0),(3,1),(9,2)])⟩
def hXE:Ti:=⟨false,false,1,24,[.slice none 0 0],(.uD 162)⟩
def hXD:Ti:=⟨false,true,3,56,[.int .i64 0,.slice none 0 0,.slice none 0 0],(.fw [(3,0),(52,1),(143,2)])⟩
def hXC:Ti:=⟨false,true,3,48,[.string ⟨#[]⟩,.int .i64 0,.slice none 0 0],(.fw [(9,0),(3,1),(59,2)])⟩
def hXB:Ti:=⟨false,false,1,8,[.nilFunc],.fn⟩
def hXA:Ti:=⟨false,true,5,80,[.string ⟨#[]⟩,.slice none 0 0,.int .i64 0,.bool false,.slice none 0 0],(.fw [(40,0),(34,4)])⟩
def hXz:Ti:=⟨true,true,2,24,[.string ⟨#[]⟩,.int .i64 0],(.fw [(9,0),(3,1)])⟩
def hXy:Ti:=⟨true,true,2,24,[.string ⟨#[]⟩,.int .i64 0],(.fw [(9,0),(3,1)])⟩
def hXx:Ti:=⟨true,true,3,32,[.string ⟨#[]⟩,.int .i64 0,.bool false],(.fw [(9,0),(3,1),(4,2)])⟩
def hXw:Ti:=⟨false,false,1,8,[.nilFunc],.fn⟩
def hXv:Ti:=⟨false,false,1,8,[.nilFunc],.fn⟩
def hXu:Ti:=⟨false,false,1,8,[.nilFunc],.fn⟩
def hXt:Ti:=⟨false,false,1,8,[.nilFunc],.fn⟩
def hXr:Ti:=⟨false,false,1,8,[.nilFunc],.fn⟩
def hXq:Ti:=⟨false,false,1,8,[.pointer none],(.ptr 188)⟩
def hXp:Ti:=⟨false,true,21,328,[.int .i64 0,.string ⟨#[]⟩,.slice none 0 0,.int .i64 0,.bool false,.string ⟨#[]⟩,.string ⟨#[]⟩,.slice none 0 0,.slice none 0 0,.slice none 0 0,.slice none 0 0,.slice none 0 0,.string ⟨#[]⟩,.string ⟨#[]⟩,.bool false,.int .i64 0,.string ⟨#[]⟩,.slice none 0 0,.int .i64 0,.int .i64 0,.bool false],(.fw [(47,0),(38,17),(3,18),(3,19),(4,20)])⟩
def hXo:Ti:=⟨false,false,1,8,[.nilFunc],.fn⟩
def hXn:Ti:=⟨false,false,1,8,[.nilFunc],.fn⟩
def hXk:Ti:=⟨false,false,1,8,[.nilFunc],.fn⟩
def hXj:Ti:=⟨true,true,3,32,[.int .i64 0,.string ⟨#[]⟩,.bool false],(.fw [(3,0),(9,1),(4,2)])⟩
def hXi:Ti:=⟨false,false,1,24,[.slice none 0 0],(.uD 5)⟩
def hXh:Ti:=⟨true,true,3,32,[.int .i64 0,.string ⟨#[]⟩,.bool false],(.fw [(3,0),(9,1),(4,2)])⟩
def hXg:Ti:=⟨false,false,1,24,[.slice none 0 0],(.uD 3)⟩
def hXf:Ti:=⟨false,false,1,8,[.map none],(.mp 9 4)⟩
def hXd:Ti:=⟨false,true,4,24,[.int .u32 0,.int .i32 0,.int .u32 0,.map none],(.fw [(126,0),(248,3)])⟩
def hXc:Ti:=⟨false,false,1,8,[.nilFunc],.fn⟩
def hXb:Ti:=⟨false,false,1,8,[.nilFunc],.fn⟩
def hXa:Ti:=⟨false,false,1,8,[.nilFunc],.fn⟩
def hQZ:Ti:=⟨false,false,1,8,[.nilFunc],.fn⟩
def hQY:Ti:=⟨false,true,2,32,[.int .i64 0,.slice none 0 0],(.fw [(3,0),(42,1)])⟩
def hQX:Ti:=⟨false,false,1,8,[.nilFunc],.fn⟩
def hQW:Ti:=⟨false,false,1,24,[.slice none 0 0],(.uD 173)⟩
def hQV:Ti:=⟨false,false,1,8,[.nilFunc],.fn⟩
def hQU:Ti:=⟨false,false,1,8,[.nilFunc],.fn⟩
def hQT:Ti:=⟨false,false,1,8,[.nilFunc],.fn⟩
def hQS:Ti:=⟨false,false,1,24,[.slice none 0 0],(.uD 34)⟩
def hQR:Ti:=⟨false,false,1,8,[.nilFunc],.fn⟩
def hQQ:Ti:=⟨false,false,1,8,[.int .u64 0],(.int .u64)⟩
def hQP:Ti:=⟨false,true,7,72,[.int .i64 0,.int .i64 0,.int .i64 0,.int .i64 0,.int .i64 0,.string ⟨#[]⟩,.string ⟨#[]⟩],(.fw [(3,0),(3,1),(3,2),(61,3),(9,6)])⟩
def hQO:Ti:=⟨false,false,1,8,[.pointer none],(.ptr 250)⟩
def hQN:Ti:=⟨false,false,1,8,[.nilFunc],.fn⟩
def hQM:Ti:=⟨false,true,5,80,[.string ⟨#[]⟩,.slice none 0 0,.int .i64 0,.bool false,.slice none 0 0],(.fw [(51,0)])⟩
def hQL:Ti:=⟨false,false,1,8,[.pointer none],(.ptr 126)⟩
def hQK:Ti:=⟨false,false,1,8,[.nilFunc],.fn⟩
def hQJ:Ti:=⟨false,false,1,8,[.pointer none],(.ptr 120)⟩
def hQI:Ti:=⟨false,false,1,8,[.pointer none],(.ptr 118)⟩
def hQH:Ti:=⟨false,false,1,8,[.nilFunc],.fn⟩
def hQG:Ti:=⟨false,false,1,8,[.pointer none],(.ptr 407)⟩
def hQF:Ti:=⟨false,false,1,8,[.map none],(.mp 3 4)⟩
def hQE:Ti:=⟨false,false,1,8,[.pointer none],(.ptr 124)⟩
def hQD:Ti:=⟨false,false,1,24,[.slice none 0 0],(.uD 28)⟩
def hQC:Ti:=⟨false,false,1,8,[.map none],(.mp 3 240)⟩
def hQB:Ti:=⟨true,true,0,0,[],(.fw [])⟩
def hQA:Ti:=⟨false,true,1,8,[.int .i64 0],(.fw [(117,0),(403,0),(2,0)])⟩
def hQz:Ti:=⟨false,true,2,16,[.map none,.int .i64 0],(.fw [(402,0),(405,1)])⟩
def hQy:Ti:=⟨false,false,1,8,[.pointer none],(.ptr 122)⟩
def hQx:Ti:=⟨false,false,1,8,[.pointer none],(.ptr 21)⟩
def hQw:Ti:=⟨false,false,1,8,[.pointer none],.jQr⟩
def hQv:Ti:=⟨false,false,1,8,[.pointer none],(.ptr 405)⟩
def hQu:Ti:=⟨false,false,1,8,[.pointer none],(.ptr 2)⟩
def ty(t:Nat):Ti:=if t<148 then(if t<61 then(if t<34 then(if t<22 then(if t<4 then(if t<2 then(if t=1 then y1 else .none)else(if t<3 then(if t=2 then y2 else .none)else(if t=3 then y3 else .none)))else(if t<9 then(if t<5 then(if t=4 then y4 else .none)else(if t=5 then y5 else .none))else(if t<21 then(if t=9 then y9 else .none)else(if t=21 then kXo else .none))))else(if t<27 then(if t<24 then(if t=22 then kXn else .none)else(if t<26 then(if t=24 then kXm else .none)else(if t=26 then kXl else .none)))else(if t<30 then(if t<28 then(if t=27 then kXk else .none)else(if t=28 then kXj else .none))else(if t<32 then(if t=30 then kXi else .none)else(if t=32 then kXh else .none)))))else(if t<45 then(if t<40 then(if t<35 then(if t=34 then kXg else .none)else(if t<38 then(if t=35 then kXf else .none)else(if t=38 then kXe else .none)))else(if t<43 then(if t<42 then(if t=40 then kXd else .none)else(if t=42 then kXc else .none))else(if t<44 then(if t=43 then kXb else .none)else(if t=44 then kXa else .none))))else(if t<52 then(if t<47 then(if t=45 then kQZ else .none)else(if t<51 then(if t=47 then kQY else .none)else(if t=51 then kQX else .none)))else(if t<55 then(if t<53 then(if t=52 then kQW else .none)else(if t=53 then kQV else .none))else(if t<59 then(if t=55 then kQU else .none)else(if t=59 then kQT else .none))))))else(if t<117 then(if t<80 then(if t<66 then(if t<64 then(if t=61 then kQS else .none)else(if t<65 then(if t=64 then kQR else .none)else(if t=65 then kQQ else .none)))else(if t<70 then(if t<68 then(if t=66 then kQP else .none)else(if t=68 then kQO else .none))else(if t<77 then(if t=70 then kQN else .none)else(if t=77 then kQM else .none))))else(if t<102 then(if t<99 then(if t=80 then kQL else .none)else(if t<101 then(if t=99 then kQK else .none)else(if t=101 then hXW else .none)))else(if t<109 then(if t<104 then(if t=102 then hXV else .none)else(if t=104 then hXU else .none))else(if t<116 then(if t=109 then hXT else .none)else(if t=116 then hXS else .none)))))else(if t<130 then(if t<122 then(if t<118 then(if t=117 then hXR else .none)else(if t<120 then(if t=118 then hXQ else .none)else(if t=120 then hXP else .none)))else(if t<126 then(if t<124 then(if t=122 then hXO else .none)else(if t=124 then hXN else .none))else(if t<128 then(if t=126 then hXM else .none)else(if t=128 then hXK else .none))))else(if t<136 then(if t<131 then(if t=130 then hXJ else .none)else(if t<134 then(if t=131 then hXI else .none)else(if t=134 then hXH else .none)))else(if t<143 then(if t<139 then(if t=136 then hXG else .none)else(if t=139 then hXF else .none))else(if t<145 then(if t=143 then hXE else .none)else(if t=145 then hXD else .none)))))))else(if t<280 then(if t<199 then(if t<179 then(if t<161 then(if t<149 then(if t=148 then hXC else .none)else(if t<156 then(if t=149 then hXB else .none)else(if t=156 then hXA else .none)))else(if t<165 then(if t<162 then(if t=161 then hXz else .none)else(if t=162 then hXy else .none))else(if t<173 then(if t=165 then hXx else .none)else(if t=173 then hXw else .none))))else(if t<184 then(if t<180 then(if t=179 then hXv else .none)else(if t<182 then(if t=180 then hXu else .none)else(if t=182 then hXt else .none)))else(if t<188 then(if t<186 then(if t=184 then hXr else .none)else(if t=186 then hXq else .none))else(if t<194 then(if t=188 then hXp else .none)else(if t=194 then hXo else .none)))))else(if t<250 then(if t<208 then(if t<202 then(if t=199 then hXn else .none)else(if t<205 then(if t=202 then hXk else .none)else(if t=205 then hXj else .none)))else(if t<240 then(if t<235 then(if t=208 then hXi else .none)else(if t=235 then hXh else .none))else(if t<248 then(if t=240 then hXg else .none)else(if t=248 then hXf else .none))))else(if t<264 then(if t<252 then(if t=250 then hXd else .none)else(if t<263 then(if t=252 then hXc else .none)else(if t=263 then hXb else .none)))else(if t<276 then(if t<272 then(if t=264 then hXa else .none)else(if t=272 then hQZ else .none))else(if t<277 then(if t=276 then hQY else .none)else(if t=277 then hQX else .none))))))else(if t<379 then(if t<325 then(if t<288 then(if t<282 then(if t=280 then hQW else .none)else(if t<284 then(if t=282 then hQV else .none)else(if t=284 then hQU else .none)))else(if t<298 then(if t<291 then(if t=288 then hQT else .none)else(if t=291 then hQS else .none))else(if t<302 then(if t=298 then hQR else .none)else(if t=302 then hQQ else .none))))else(if t<335 then(if t<332 then(if t=325 then hQP else .none)else(if t<333 then(if t=332 then hQO else .none)else(if t=333 then hQN else .none)))else(if t<366 then(if t<351 then(if t=335 then hQM else .none)else(if t=351 then hQL else .none))else(if t<377 then(if t=366 then hQK else .none)else(if t=377 then hQJ else .none)))))else(if t<403 then(if t<391 then(if t<387 then(if t=379 then hQI else .none)else(if t<389 then(if t=387 then hQH else .none)else(if t=389 then hQG else .none)))else(if t<401 then(if t<397 then(if t=391 then hQF else .none)else(if t=397 then hQE else .none))else(if t<402 then(if t=401 then hQD else .none)else(if t=402 then hQC else .none))))else(if t<414 then(if t<407 then(if t<405 then(if t=403 then hQB else .none)else(if t=405 then hQA else .none))else(if t<412 then(if t=407 then hQz else .none)else(if t=412 then hQy else .none)))else(if t<419 then(if t<416 then(if t=414 then hQx else .none)else(if t=416 then hQw else .none))else(if t<421 then(if t=419 then hQv else .none)else(if t=421 then hQu else .none)))))))
def aXk:List Nat:=[1,2,3,4,5,9,21,22,24,26,27,28,30,32,34,35,38,40,42,43,44,45,47,51,52,53,55,59,61,64,65,66,68,70,77,80,99,101,102,104,109,116,117,118,120,122,124,126,128,130,131,134,136,139,143,145,148,149,156,161,162,165,173,179,180,182,184,186,188,194,199,202,205,208,235,240,248,250,252,263,264,272,276,277,280,282,284,288,291,298,302,325,332,333,335,351,366,377,379,387,389,391,397,401,402,403,405,407,412,414,416,419,421]
def cKV:List Nat:=[0,1,117,205,292,296,321,335,336,337,338,340,341,344,346,347,348,349,350,351,352,357,358,359,360,361,362,363,364,365,366,367,368,369,370,371,372,373,374]
def jZT:Nat:=375
def aG(f:Nat):Bool:=if f<jZT then !cKV.contains f else false
def mXh(p:Nat->zX)(b:Nat->Bool):bu:=⟨ty,aG,p,b,fun _=>false,[],fun _ _ _=>False⟩
def mZS(b:Nat->Bool):bu:=mXh (fun _=>.done) b
def mQC:bu:=mZS (fun _=>false)
def mQP(a:Nat)(p:zX):zX:=.aa a (.aa (a+1) p)
def mXk(a:Nat)(p:zX):zX:=mQP a (mQP (a+2) p)
def mXq(a:Nat)(p:zX):zX:=mXk a (mXk (a+4) p)
def mJn(a:Nat)(p:zX):zX:=mXq a (mXq (a+8) p)
def T5:bu:=mXh (fun id=>if id=18 then(mJn 0 (mXq 16 (mQP 24 .done)))else if id=20 then(mJn 0 (mQP 16 (.av 18 [] (.av 19 [] .done))))else if id=26 then(mJn 0 (mJn 16 (mXk 32 (.av 36 [] .done))))else .done) (fun _=>false)
def kQg:bu:=mXh (fun id=>if id=11 then(mJn 0 (.av 16 [] (mXq 17 (mXk 25 (mQP 29 (.aa 31 (.av 32 [] (mQP 33 .done))))))))else if id=18 then(mXq 0 (mXk 8 (.aa 12 .done)))else if id=22 then(mJn 0 (mXk 16 (mQP 20 (.aa 22 .done))))else .done) (fun _=>false)
def kQc:bu:=mXh (fun id=>if id=5 then(mQP 0 (.aa 11 (.av 2 [0] (.aa 3 (.av 4 [0] (.aa 5 (.av 6 [] (mXk 7 (.av 12 [] (.av 13 [] (.av 14 [] .done)))))))))))else .done) (fun _=>false)
def kQb:bu:=mQC
def kQa:bu:=mXh (fun id=>if id=6 then(mXk 0 (.aa 4 (mXq 6 (mQP 14 (.aa 21 (.av 5 [15,10] (.av 16 [] (.av 17 [] (mQP 18 (.aa 20 (.av 22 [] (.av 23 [] .done))))))))))))else .done) (fun _=>false)
def jKZ:bu:=mZS (fun s=>[79].contains s)
def jKY:bu:=mXh (fun id=>if id=6 then(mXq 0 (.av 8 [] (.aa 9 .done)))else .done) (fun _=>false)
def jKX:bu:=mQC
def jKW:bu:=mQC
def jKV:bu:=mXh (fun id=>if id=5 then(mQP 0 (.av 2 [0] (.av 3 [] (mQP 4 (.aa 6 (.av 7 [] .done))))))else if id=6 then(mQP 0 (.av 2 [0] (.av 3 [] (mQP 4 (.aa 6 (.av 7 [] .done))))))else if id=7 then(mQP 0 (.av 2 [1] (.av 3 [] .done)))else .done) (fun _=>false)
def jKU:bu:=mQC
def jKS:bu:=mQC
def hQj:bu:=mXh (fun id=>if id=6 then(mXq 0 (.aa 8 .done))else .done) (fun _=>false)
def hQi:bu:=mXh (fun id=>if id=8 then(mXq 0 (.aa 8 .done))else if id=9 then(mXq 0 (mQP 8 (.av 10 [] (.av 11 [] .done))))else .done) (fun _=>false)
def jKR:bu:=mXh (fun id=>if id=6 then(mJn 0 (mQP 16 (.aa 18 .done)))else if id=14 then(mXk 0 (.aa 4 (.av 5 [4] (.av 6 [] .done))))else .done) (fun s=>[22].contains s)
def jKL:bu:=mQC
def jKK:bu:=mQC
def jKJ:bu:=mXh (fun id=>if id=10 then(mXq 0 (mXk 8 (.av 12 [4] (.av 13 [] (mQP 14 (.av 16 [] .done))))))else .done) (fun _=>false)
def jKI:bu:=mXh (fun id=>if id=11 then(mXq 0 (mXk 8 (.av 12 [] .done)))else .done) (fun _=>false)
def jKH:bu:=mXh (fun id=>if id=1 then(mXk 0 (mQP 4 (.av 6 [] (.av 7 [] .done))))else .done) (fun s=>[1].contains s)
def hQh:bu:=mXh (fun id=>if id=1 then(mXq 0 (mQP 8 (.aa 10 .done)))else if id=3 then(mXq 0 (mQP 8 (.av 10 [] (.av 11 [] .done))))else if id=11 then(mXk 0 (mQP 4 (.aa 7 (.av 6 [] (.av 8 [] .done)))))else if id=14 then(mXk 0 (mQP 4 (.av 6 [] (.av 7 [] .done))))else if id=15 then(mQP 0 (.aa 3 (.av 2 [3] (.av 4 [] (.av 5 [] (mQP 6 (.av 8 [] .done)))))))else .done) (fun s=>[1,56].contains s)
def jKE:bu:=mXh (fun id=>if id=11 then(.aa 0 (mXk 2 (.av 1 [5] (.av 6 [5] (.av 7 [] .done)))))else if id=12 then(mXq 0 (.aa 8 (.av 9 [5] (.av 10 [5] (.av 11 [] (mQP 12 (.aa 14 (.av 15 [] .done))))))))else .done) (fun _=>false)
def jKD:bu:=mQC
def jKC:bu:=mXh (fun id=>if id=11 then(mXq 0 (mXk 8 (mQP 12 (.aa 14 (.av 15 [] (.aa 16 .done))))))else .done) (fun _=>false)
def hQg:bu:=mZS (fun s=>[6].contains s)
def jKB:bu:=mQC
def hQf:bu:=mXh (fun id=>if id=1 then(mQP 0 (mQP 3 (mQP 6 (.aa 8 (mQP 10 (.aa 12 (.av 2 [12,8,4] (.av 5 [12,8] (.av 9 [12] (.av 13 [] (mQP 14 (.av 16 [] .done))))))))))))else .done) (fun _=>false)
def jKA:bu:=mXh (fun id=>if id=11 then(mXq 0 (.av 8 [] .done))else if id=15 then(mXq 0 (.av 8 [] .done))else .done) (fun _=>false)
def hQe:bu:=mQC
def jKz:bu:=mQC
def jKy:bu:=mQC
def jKx:bu:=mQC
def jKw:bu:=mQC
def jKv:bu:=mQC
def jKt:bu:=mQC
def jKs:bu:=mQC
def hQd:bu:=mQC
def jKh:bu:=mQC
def jKg:bu:=mQC
def jKf:bu:=mZS (fun s=>[3].contains s)
def lXS:bu:=mXh (fun id=>if id=2 then(mXq 0 (mXk 8 (.aa 12 (.av 13 [] .done))))else if id=8 then(mXk 0 (mQP 4 (.av 6 [] (mXk 7 (.av 11 [] .done)))))else if id=9 then(mJn 0 (.aa 16 .done))else if id=10 then(mXq 0 (mXk 8 (.aa 12 (.av 13 [] (mXk 14 (.aa 18 (.av 19 [] .done)))))))else if id=11 then(mJn 0 (.av 16 [] .done))else .done) (fun _=>false)
def jKe:bu:=mXh (fun id=>if id=1 then(mXq 0 (mQP 8 (.aa 10 (.av 11 [] (mXk 12 (.aa 16 (.av 17 [] (.av 18 [] .done))))))))else .done) (fun _=>false)
def eJi:bu:=mZS (fun s=>[2,5,6].contains s)
def jKd:bu:=mXh (fun id=>if id=3 then(mXq 0 (mXk 8 (mQP 12 (.aa 14 (.av 15 [0] (mXk 16 (.aa 20 (.av 21 [] (.av 22 [] .done)))))))))else .done) (fun _=>false)
def jKc:bu:=mZS (fun s=>[4,5,8].contains s)
def hQc:bu:=mZS (fun s=>[7].contains s)
def jKb:bu:=mQC
def jJZ:bu:=mXh (fun id=>if id=5 then(mXq 0 (mXk 8 (mQP 12 (.av 14 [] .done))))else .done) (fun _=>false)
def gKZ:bu:=mQC
def jJX:bu:=mZS (fun s=>[3].contains s)
def aQF:bu:=mQC
def jJU:bu:=mQC
def jJS:bu:=mQC
def gKX:bu:=mQC
def gZm:bu:=mXh (fun id=>if id=5 then(mXq 0 (mXk 8 (.aa 12 (.av 13 [0] (mQP 14 (.aa 16 (.av 17 [] .done)))))))else if id=8 then(mJn 0 (mXq 16 (.aa 24 .done)))else if id=10 then(mXk 0 (mQP 4 (.aa 6 (.av 7 [] (.av 8 [] .done)))))else .done) (fun s=>[1].contains s)
def gZl:bu:=mZS (fun s=>[3,5,8].contains s)
def cJd:bu:=mZS (fun s=>[2,6].contains s)
def cJc:bu:=mXh (fun id=>if id=2 then(mQP 0 (mXk 3 (.aa 7 (.aa 10 (.av 2 [7,3] (.av 8 [] (.aa 9 .done)))))))else .done) (fun s=>[2,8,9].contains s)
def gZk:bu:=mZS (fun s=>[2,3].contains s)
def gZj:bu:=mQC
def gZi:bu:=mXh (fun id=>if id=11 then(mXq 0 (.av 8 [] .done))else if id=15 then(mXq 0 (.av 8 [] .done))else .done) (fun _=>false)
def gZh:bu:=mQC
def gZg:bu:=mXh (fun id=>if id=8 then(mXk 0 (mQP 4 (.aa 6 (.av 7 [] (mQP 8 (.aa 10 (.av 11 [] (.av 12 [] .done))))))))else .done) (fun _=>false)
def gZf:bu:=mQC
def gZe:bu:=mXh (fun id=>if id=4 then(mXk 0 (mQP 4 (.aa 6 .done)))else if id=5 then(mXk 0 (mQP 4 (.aa 6 (.av 7 [] .done))))else .done) (fun _=>false)
def gZd:bu:=mQC
def gZc:bu:=mQC
def gZb:bu:=mQC
def cJb:bu:=mQC
def cJa:bu:=mXh (fun id=>if id=1 then(mQP 0 (mQP 3 (.av 2 [4] (.aa 6 (.av 5 [] (.av 7 [] (.aa 8 (.av 9 [] .done))))))))else .done) (fun _=>false)
def cZZ:bu:=mQC
def gZa:bu:=mQC
def gXZ:bu:=mXh (fun id=>if id=1 then(mXq 0 (mQP 8 (.aa 10 (.av 11 [] .done))))else .done) (fun _=>false)
def gXY:bu:=mQC
def gXX:bu:=mXh (fun id=>if id=1 then(mXq 0 (mQP 8 (.aa 10 (.av 11 [] .done))))else .done) (fun _=>false)
def gXW:bu:=mXh (fun id=>if id=4 then(mQP 0 (.aa 2 (.av 3 [1] (.av 4 [1] (.av 5 [] (.aa 6 (.av 7 [] .done)))))))else if id=6 then(mQP 0 (.aa 2 (.av 3 [1] (.av 4 [1] (.av 5 [] (.aa 6 (.av 7 [] .done)))))))else .done) (fun _=>false)
def gXV:bu:=mXh (fun id=>if id=6 then(mQP 0 (.aa 2 (.av 3 [1] (.av 4 [1] (.av 5 [] (.aa 6 (.av 7 [] .done)))))))else if id=8 then(mQP 0 (.aa 2 (.av 3 [1] (.av 4 [1] (.av 5 [] (.aa 6 (.av 7 [] .done)))))))else .done) (fun _=>false)
def gXU:bu:=mQC
def gXT:bu:=mXh (fun id=>if id=6 then(mQP 0 (.aa 2 (.av 3 [1] (.av 4 [1] (.av 5 [] (.aa 6 (.av 7 [] .done)))))))else if id=22 then(mXq 0 (mQP 8 (.aa 10 (.av 11 [] .done))))else .done) (fun _=>false)
def gXS:bu:=mQC
def gXR:bu:=mXh (fun id=>if id=5 then(mXk 0 (mQP 4 (.av 6 [] (.av 7 [] .done))))else .done) (fun _=>false)
def gXQ:bu:=mXh (fun id=>if id=1 then(mQP 0 (.aa 2 (mQP 4 (.aa 6 (.av 3 [5] (.av 7 [] (.aa 8 (.av 9 [] .done))))))))else .done) (fun _=>false)
def gXN:bu:=mQC
def gXE:bu:=mQC
def gXD:bu:=mZS (fun s=>[1].contains s)
def gXC:bu:=mXh (fun id=>if id=5 then(mQP 0 (.aa 2 (.av 3 [0] (.av 4 [] (mQP 5 (.aa 7 (.av 8 [] (.av 9 [] .done))))))))else if id=10 then(mXk 0 (mQP 4 (.aa 6 (mXk 8 (.av 7 [9,2,0] (.av 12 [0] (.av 13 [] (.av 14 [] (.av 15 [] .done)))))))))else .done) (fun _=>false)
def gXB:bu:=mXh (fun id=>if id=5 then(mXq 0 (mQP 8 (.aa 10 (mXk 13 (.aa 17 (.av 11 [17,14,0] (.av 12 [17,14] (.av 18 [] (.av 19 [] (.av 20 [] (.av 21 [] .done)))))))))))else .done) (fun _=>false)
def gXA:bu:=mQC
def gXz:bu:=mQC
def gXy:bu:=mQC
def gXx:bu:=mQC
def gXw:bu:=mZS (fun s=>[6,7].contains s)
def gXv:bu:=mXh (fun id=>if id=2 then(mQP 0 (.aa 4 (.av 2 [0] (.aa 3 (.av 5 [] (.av 6 [] (.av 7 [] .done)))))))else .done) (fun _=>false)
def Rm:bu:=mXh (fun id=>if id=13 then(mXq 0 (.av 8 [] .done))else if id=14 then(mXk 0 (mQP 4 (.av 6 [4] (.av 7 [] (mQP 8 (.av 10 [] .done))))))else .done) (fun _=>false)
def gXs:bu:=mQC
def cZY:bu:=mQC
def gXr:bu:=mQC
def gXq:bu:=mQC
def gXp:bu:=mQC
def gXo:bu:=mXh (fun id=>if id=1 then(mXq 0 (.aa 8 (.av 9 [] (.av 10 [] .done))))else .done) (fun _=>false)
def gXn:bu:=mXh (fun id=>if id=1 then(mXq 0 (.aa 8 (.av 9 [] (.av 10 [] .done))))else .done) (fun _=>false)
def gXm:bu:=mXh (fun id=>if id=1 then(mXk 0 (mQP 4 (.aa 6 (.av 7 [] (.av 8 [] .done)))))else .done) (fun _=>false)
def ZZ:bu:=mQC
def gXl:bu:=mXh (fun id=>if id=4 then(mXk 0 (mQP 4 (.av 6 [] (.av 7 [] .done))))else if id=5 then(mXk 0 (mQP 4 (.av 6 [] (mQP 7 (.aa 9 (.av 10 [] (.av 11 [] .done)))))))else .done) (fun _=>false)
def gXk:bu:=mXh (fun id=>if id=1 then(mXk 0 (mQP 4 (.aa 6 (.av 7 [0] (mXk 8 (.aa 12 (.av 13 [] (.av 14 [] .done))))))))else .done) (fun _=>false)
def gXj:bu:=mQC
def gXi:bu:=mXh (fun id=>if id=1 then(mXk 0 (mQP 4 (.aa 6 (.av 7 [0] (mXk 8 (.aa 12 (.av 13 [] (.av 14 [] .done))))))))else .done) (fun _=>false)
def gXh:bu:=mQC
def JL:bu:=mQC
def gXg:bu:=mQC
def gXf:bu:=mQC
def gXe:bu:=mXh (fun id=>if id=5 then(mXq 0 (.aa 8 (.av 9 [] (mQP 10 (.aa 12 (.av 13 [] (.av 14 [] .done)))))))else .done) (fun _=>false)
def gXd:bu:=mZS (fun s=>[4].contains s)
def gXc:bu:=mXh (fun id=>if id=2 then(mXq 0 (mQP 8 (.av 10 [] (mQP 11 (.aa 13 (.av 14 [] (.av 15 [] .done)))))))else if id=5 then(mXq 0 (mQP 8 (.av 10 [] (mQP 11 (.aa 13 (.av 14 [] (.av 15 [] .done)))))))else .done) (fun _=>false)
def gXb:bu:=mQC
def cZV:bu:=mQC
def gXa:bu:=mXh (fun id=>if id=1 then(mXq 0 (mXk 8 (.aa 12 (.av 13 [] (.av 14 [] .done)))))else .done) (fun _=>false)
def gQZ:bu:=mQC
def gQY:bu:=mQC
def gQX:bu:=mQC
def gQW:bu:=mQC
def cZU:bu:=mXh (fun id=>if id=9 then(mJn 0 (.aa 16 .done))else .done) (fun s=>[2,5].contains s)
def cZT:bu:=mQC
def cZS:bu:=mXh (fun id=>if id=5 then(mXq 0 (.aa 8 (.av 9 [] (.av 10 [] .done))))else .done) (fun s=>[3,4,6].contains s)
def Rl:bu:=mQC
def gQV:bu:=mQC
def gQU:bu:=mQC
def gQT:bu:=mQC
def gQS:bu:=mQC
def gQR:bu:=mQC
def ZY:bu:=mQC
def gQQ:bu:=mQC
def gQP:bu:=mQC
def gQO:bu:=mQC
def gQN:bu:=mQC
def gQM:bu:=mQC
def gQL:bu:=mQC
def gQK:bu:=mQC
def gQJ:bu:=mQC
def gQI:bu:=mQC
def gQH:bu:=mQC
def gQG:bu:=mQC
def gQC:bu:=mQC
def gQw:bu:=mQC
def gQv:bu:=mQC
def gQu:bu:=mQC
def gQt:bu:=mXh (fun id=>if id=3 then(mQP 0 (.av 2 [0] (.av 3 [0] (.aa 4 (.av 5 [] .done)))))else .done) (fun _=>false)
def gQs:bu:=mZS (fun s=>[2].contains s)
def gQr:bu:=mQC
def cZQ:bu:=mXh (fun id=>if id=9 then(mXk 0 (mQP 4 (.av 6 [] (mQP 7 (.aa 9 (.av 10 [] (.av 11 [] .done)))))))else .done) (fun s=>[4,5,6,7].contains s)
def gQq:bu:=mQC
def cZP:bu:=mQC
def gQp:bu:=mXh (fun id=>if id=10 then(mXq 0 (mXk 8 (.av 12 [] (.av 13 [] .done))))else if id=11 then(mXq 0 (mXk 8 (.av 12 [] (.av 13 [] .done))))else .done) (fun _=>false)
def gQm:bu:=mXh (fun id=>if id=1 then(.aa 0 (mQP 2 (.fork (.av 1 [] (.fork (.av 4 [] (.av 5 [] (.av 6 [] .done))) (.av 5 [] (.av 4 [] (.av 6 [] .done))))) (.av 4 [] (.av 1 [] (.av 5 [] (.av 6 [] .done)))))))else .done) (fun _=>false)
def gQl:bu:=mQC
def gQk:bu:=mQC
def cZO:bu:=mQC
def gQj:bu:=mXh (fun id=>if id=1 then(mXk 0 (mXk 5 (mXk 10 (.av 4 [13,11,8,6] (.av 9 [13,11] (.av 14 [] (.av 15 [] (.av 16 [] (.av 17 [] .done)))))))))else .done) (fun _=>false)
def gQi:bu:=mXh (fun id=>if id=1 then(mXq 0 (mXk 8 (.aa 12 (.av 13 [] (.av 14 [] .done)))))else .done) (fun _=>false)
def gQh:bu:=mXh (fun id=>if id=1 then(mXk 0 (mQP 4 (.aa 6 (.aa 11 (.av 7 [] (mQP 8 (.aa 10 (.av 12 [] (.av 13 [] .done)))))))))else .done) (fun _=>false)
def gQg:bu:=mQC
def gQf:bu:=mQC
def cZN:bu:=mQC
def gQe:bu:=mQC
def gQd:bu:=mQC
def gQc:bu:=mXh (fun id=>if id=6 then(mXk 0 (mQP 4 (.av 6 [4] (.av 7 [] (mQP 8 (.av 10 [] .done))))))else .done) (fun _=>false)
def fKZ:bu:=mQC
def fKY:bu:=mXh (fun id=>if id=3 then(mQP 0 (.av 2 [0] (mJn 3 (.av 19 [] .done))))else .done) (fun _=>false)
def fKX:bu:=mQC
def fKW:bu:=mQC
def fKV:bu:=mXh (fun id=>if id=5 then(mXk 0 (mQP 4 (.av 6 [] (.aa 7 .done))))else if id=8 then(mXq 0 (mQP 8 (.aa 10 (.av 11 [] (mQP 12 (.av 14 [] (.av 15 [] .done)))))))else .done) (fun _=>false)
def fKU:bu:=mXh (fun id=>if id=1 then(mQP 0 (.aa 3 (.av 2 [3] (.av 4 [] (.av 5 [] .done)))))else .done) (fun _=>false)
def fKT:bu:=mXh (fun id=>if id=1 then(mXq 0 (mQP 8 (.av 10 [0] (mXk 11 (mQP 15 (.av 17 [] (.av 18 [] .done)))))))else .done) (fun _=>false)
def fKS:bu:=mXh (fun id=>if id=2 then(mJn 0 (mQP 16 (.aa 18 (.av 19 [] .done))))else if id=4 then(mQP 0 (mXk 3 (.aa 9 (.av 2 [6,4] (.av 7 [] (.aa 8 (.av 10 [] .done)))))))else .done) (fun _=>false)
def fKR:bu:=mQC
def fKQ:bu:=mXh (fun id=>if id=5 then(mXk 0 (.aa 4 (.av 5 [2] (.av 6 [] (.av 7 [] .done)))))else if id=12 then(mXq 0 (mXk 8 (.av 12 [] (mQP 13 (.av 15 [] (.av 16 [] .done))))))else if id=13 then(mXq 0 (mXk 8 (.av 12 [] (mQP 13 (.av 15 [] (.av 16 [] .done))))))else .done) (fun _=>false)
def fKP:bu:=mQC
def fKO:bu:=mQC
def fKN:bu:=mQC
def fKM:bu:=mQC
def cZL:bu:=mXh (fun id=>if id=4 then(mXq 0 (mXk 8 (mQP 12 (.av 14 [] (mQP 15 .done)))))else if id=6 then(mXq 0 (mXk 8 (mQP 12 (.aa 14 (.av 15 [] (.aa 16 (.av 17 [] .done)))))))else .done) (fun _=>false)
def fKL:bu:=mXh (fun id=>if id=5 then(mXq 0 (.aa 8 (.av 9 [] (.aa 10 .done))))else if id=11 then(mXq 0 (mXk 8 (mQP 12 (.aa 14 (.av 15 [] (.aa 16 (.av 17 [] .done)))))))else if id=17 then(mXq 0 (.aa 8 (.av 9 [] (mQP 10 .done))))else if id=23 then(mXq 0 (mXk 8 (mQP 12 (.aa 14 (.av 15 [] (.aa 16 (.av 17 [] .done)))))))else if id=35 then(mXq 0 (mQP 8 (.aa 10 (.av 11 [] (mQP 12 .done)))))else .done) (fun _=>false)
def fKK:bu:=mQC
def fKJ:bu:=mQC
def fKI:bu:=mQC
def fKH:bu:=mQC
def fKG:bu:=mXh (fun id=>if id=0 then(mXk 0 (.av 4 [] (.av 5 [] .done)))else .done) (fun _=>false)
def fKF:bu:=mQC
def fKE:bu:=mQC
def fKD:bu:=mQC
def fKC:bu:=mZS (fun s=>[3].contains s)
def fKB:bu:=mQC
def fKA:bu:=mQC
def fKz:bu:=mQC
def fKy:bu:=mXh (fun id=>if id=9 then(mXq 0 (mXk 8 (mQP 13 (.fork (.av 12 [14,5,3] (.av 15 [5,3] (.av 16 [5,3] (.av 17 [] .done)))) (.av 15 [11,9,5,3] (.av 12 [5,3] (.av 16 [5,3] (.av 17 [] .done))))))))else .done) (fun s=>[10].contains s)
def fKx:bu:=mXh (fun id=>if id=6 then(mXk 0 (mQP 4 (.aa 6 (.aa 9 (.av 7 [] (.aa 8 .done))))))else .done) (fun _=>false)
def fKw:bu:=mQC
def fKv:bu:=mQC
def fKu:bu:=mQC
def fKt:bu:=mQC
def fKs:bu:=mXh (fun id=>if id=5 then(mQP 0 (.av 2 [0] (.aa 3 .done)))else .done) (fun _=>false)
def fKr:bu:=mQC
def fKq:bu:=mQC
def fKp:bu:=mQC
def fKo:bu:=mQC
def fKn:bu:=mQC
def fKm:bu:=mQC
def fKl:bu:=mQC
def cZK:bu:=mQC
def fKk:bu:=mQC
def fKj:bu:=mQC
def fKi:bu:=mQC
def fKh:bu:=mQC
def fKg:bu:=mQC
def fKf:bu:=mQC
def fKe:bu:=mQC
def fKd:bu:=mQC
def fKc:bu:=mQC
def fKb:bu:=mXh (fun id=>if id=3 then(mJn 0 (mXk 16 (.aa 20 (.av 21 [] (.aa 22 (.av 23 [] .done))))))else .done) (fun _=>false)
def fKa:bu:=mQC
def fJZ:bu:=mQC
def fJY:bu:=mQC
def fJX:bu:=mQC
def fJW:bu:=mQC
def fJV:bu:=mXh (fun id=>if id=1 then(mXq 0 (mQP 8 (.aa 10 (.av 11 [] .done))))else .done) (fun _=>false)
theorem dZp{c:Prop}[Decidable c]{a b:Ti}{q:Prop}(ha:c->a=.none\/q)(hb:¬c->b=.none\/q):(if c then a else b)=.none\/q:=by
 by_cases h:c
 ·rw[if_pos h];exact ha h
 ·rw[if_neg h];exact hb h
theorem dXn(t:Nat):ty t=.none\/t∈aXk:=by
 unfold ty;repeat' (first
  |exact .inl rfl
  | (refine dZp (fun e=>?_) (fun e=>?_)))
 all_goals (right;rw[e];decide)
theorem dXo:aXk.map ty=aXk.map (dZN Tryz.prog):=by kernel_rfl
theorem eQl:((List.range jZT).all fun f=>cKV.contains f||(match Tryz.prog.funcs[f]? with
 |some fn=>fn.body.isSome&&decide (fn.name≠ "runtime.NumGoroutine")
 |none=>false))=true:=by kernel_rfl
theorem mixed:Tryz.prog.follows .mixedOrders=true:=by kernel_rfl
theorem tK(pl:Nat->zX)(pb pn:Nat->Bool)(rs:List Nat)(kp:List PanicEntry->List SV->ad->Prop):gE Tryz.prog ⟨ty,aG,pl,pb,pn,rs,kp⟩where
 ty t:=by
  rcases dXn t with h|h
  ·exact .inr h
  ·exact .inl (List.map_inj_left.1 dXo t h)
 fn f h:=by
  have h:aG f=true:=h;unfold aG at h;split at h
  ·rename_i aP;have h1:=mXf.1 eQl f (by simpa using aP);simp only[mZQ]at h1;rcases h1 with h1|h1
   ·rw[h1]at h;cases h
   ·split at h1
    ·rename_i fn jQ;simp only[mQG,mQD]at h1;exact⟨fn,jQ,h1.1,h1.2⟩
    ·cases h1
  ·cases h
 mixed:=mixed
theorem ax(pl:Nat->zX)(pb:Nat->Bool):gE Tryz.prog ⟨ty,aG,pl,pb,fun _=>false,[],fun _ _ _=>False⟩:=tK pl pb _ _ _
end Go.S
