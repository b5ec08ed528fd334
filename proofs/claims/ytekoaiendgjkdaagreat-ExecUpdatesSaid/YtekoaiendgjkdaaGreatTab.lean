import Derived.Test.YtekoaiendgjkdaaGreatProg
import Derived.Test.YtekoaiendgjkdaaGreatSxB
import Derived.KernelRfl
set_option linter.unusedVariables false
set_option linter.unusedSimpArgs false
set_option linter.unusedSectionVars false
namespace Go.S
open Go.Sx Go.Proofs
def y1:Ti:=⟨false,false,1,8,[.nilFunc],.fn⟩
def y2:Ti:=⟨false,false,1,8,[.int .i64 0],(.int .i64)⟩
def y3:Ti:=⟨false,false,1,8,[.int .i64 0],(.int .i64)⟩
def y4:Ti:=⟨false,false,1,1,[.bool false],.bool⟩
def y5:Ti:=⟨false,false,1,1,[.int .u8 0],(.int .u8)⟩
def y9:Ti:=⟨false,false,1,16,[.string ⟨#[]⟩],.str⟩
def y21:Ti:=⟨false,false,1,4,[.int .i32 0],(.int .i32)⟩
def y22:Ti:=⟨false,false,1,24,[.slice none 0 0],(.mu 24)⟩
def y24:Ti:=⟨true,true,4,32,[.int .i64 0,.int .i64 0,.int .i64 0,.int .i64 0],(.cS [(3,0),(3,1),(3,2),(3,3)])⟩
def y26:Ti:=⟨false,false,1,24,[.slice none 0 0],(.mu 51)⟩
def y27:Ti:=⟨false,false,1,24,[.slice none 0 0],(.mu 55)⟩
def y28:Ti:=⟨false,false,1,24,[.slice none 0 0],(.mu 205)⟩
def y30:Ti:=⟨false,true,2,48,[.slice none 0 0,.slice none 0 0],(.cS [(28,0),(28,1)])⟩
def y32:Ti:=⟨false,true,4,96,[.slice none 0 0,.slice none 0 0,.slice none 0 0,.slice none 0 0],(.cS [(26,0),(27,1),(30,2)])⟩
def y34:Ti:=⟨false,false,1,24,[.slice none 0 0],(.mu 59)⟩
def y35:Ti:=⟨false,false,1,8,[.int .i64 0],(.int .i64)⟩
def y38:Ti:=⟨false,false,1,24,[.slice none 0 0],(.mu 165)⟩
def y40:Ti:=⟨false,true,4,56,[.string ⟨#[]⟩,.slice none 0 0,.int .i64 0,.bool false],(.cS [(9,0),(38,1),(3,2),(4,3)])⟩
def y42:Ti:=⟨false,false,1,24,[.slice none 0 0],(.mu 325)⟩
def y43:Ti:=⟨false,false,1,24,[.slice none 0 0],(.mu 9)⟩
def y44:Ti:=⟨false,false,1,24,[.slice none 0 0],(.mu 42)⟩
def y45:Ti:=⟨false,false,1,24,[.slice none 0 0],(.mu 276)⟩
def y47:Ti:=⟨false,true,17,280,[.int .i64 0,.string ⟨#[]⟩,.slice none 0 0,.int .i64 0,.bool false,.string ⟨#[]⟩,.string ⟨#[]⟩,.slice none 0 0,.slice none 0 0,.slice none 0 0,.slice none 0 0,.slice none 0 0,.string ⟨#[]⟩,.string ⟨#[]⟩,.bool false,.int .i64 0,.string ⟨#[]⟩],(.cS [(3,0),(40,1),(9,5),(9,6),(42,7),(43,8),(44,9),(45,10),(42,11),(9,12),(9,13),(4,14),(3,15),(9,16)])⟩
def y51:Ti:=⟨false,true,5,80,[.string ⟨#[]⟩,.slice none 0 0,.int .i64 0,.bool false,.slice none 0 0],(.cS [(40,0),(34,4)])⟩
def y52:Ti:=⟨false,false,1,24,[.slice none 0 0],(.mu 148)⟩
def y53:Ti:=⟨false,false,1,24,[.slice none 0 0],(.mu 161)⟩
def y55:Ti:=⟨false,true,3,56,[.int .i64 0,.slice none 0 0,.slice none 0 0],(.cS [(3,0),(52,1),(53,2)])⟩
def y59:Ti:=⟨false,false,1,24,[.slice none 0 0],(.mu 61)⟩
def y61:Ti:=⟨true,true,3,32,[.int .i64 0,.int .i64 0,.string ⟨#[]⟩],(.cS [(3,0),(3,1),(9,2)])⟩
def y64:Ti:=⟨false,false,1,24,[.slice none 0 0],(.mu 156)⟩
def y65:Ti:=⟨false,false,1,24,[.slice none 0 0],(.mu 145)⟩
def y66:Ti:=⟨false,false,1,24,[.slice none 0 0],(.mu 235)⟩
def y68:Ti:=⟨false,true,2,48,[.slice none 0 0,.slice none 0 0],(.cS [(66,0),(66,1)])⟩
def y70:Ti:=⟨false,true,4,96,[.slice none 0 0,.slice none 0 0,.slice none 0 0,.slice none 0 0],(.cS [(64,0),(65,1),(68,2)])⟩
def y77:Ti:=⟨false,false,1,24,[.slice none 0 0],(.mu 35)⟩
def y80:Ti:=⟨false,false,1,24,[.slice none 0 0],(.mu 4)⟩
def y99:Ti:=⟨false,false,1,8,[.pointer none],(.ptr 101)⟩
def y101:Ti:=⟨false,true,22,384,[.slice none 0 0,.slice none 0 0,.slice none 0 0,.slice none 0 0,.int .i64 0,.int .i64 0,.string ⟨#[]⟩,.slice none 0 0,.int .i64 0,.bool false,.string ⟨#[]⟩,.string ⟨#[]⟩,.slice none 0 0,.slice none 0 0,.slice none 0 0,.slice none 0 0,.slice none 0 0,.string ⟨#[]⟩,.string ⟨#[]⟩,.bool false,.int .i64 0,.string ⟨#[]⟩],(.cS [(32,0),(3,4),(47,5)])⟩
def y102:Ti:=⟨false,false,1,8,[.nilFunc],.fn⟩
def y104:Ti:=⟨false,false,1,8,[.map none],(.mp 3 102)⟩
def y109:Ti:=⟨false,false,1,8,[.pointer none],(.ptr 128)⟩
def y116:Ti:=⟨true,true,0,0,[],(.cS [])⟩
def y117:Ti:=⟨true,true,0,0,[],(.cS [])⟩
def y118:Ti:=⟨false,false,1,4,[.int .u32 0],(.int .u32)⟩
def y120:Ti:=⟨false,true,1,4,[.int .u32 0],(.cS [(117,0),(118,0)])⟩
def y122:Ti:=⟨true,true,2,8,[.int .i32 0,.int .u32 0],(.cS [(21,0),(118,1)])⟩
def y124:Ti:=⟨false,true,2,8,[.int .i32 0,.int .u32 0],(.cS [(116,0),(122,0)])⟩
def y126:Ti:=⟨false,true,3,12,[.int .u32 0,.int .i32 0,.int .u32 0],(.cS [(116,0),(120,0),(124,1)])⟩
def y128:Ti:=⟨false,true,8,120,[.slice none 0 0,.slice none 0 0,.slice none 0 0,.slice none 0 0,.int .u32 0,.int .i32 0,.int .u32 0,.int .i64 0],(.cS [(32,0),(126,4),(35,7)])⟩
def y130:Ti:=⟨false,false,1,8,[.int .u64 0],(.int .u64)⟩
def y131:Ti:=⟨false,false,1,24,[.slice none 0 0],(.mu 139)⟩
def y134:Ti:=⟨false,false,1,8,[.pointer none],(.ptr 136)⟩
def y136:Ti:=⟨false,true,4,64,[.slice none 0 0,.int .i64 0,.int .i64 0,.slice none 0 0],(.cS [(131,0),(3,1),(3,2),(42,3)])⟩
def y139:Ti:=⟨true,true,3,32,[.int .i64 0,.int .i64 0,.string ⟨#[]⟩],(.cS [(3,0),(3,1),(9,2)])⟩
def y143:Ti:=⟨false,false,1,24,[.slice none 0 0],(.mu 162)⟩
def y145:Ti:=⟨false,true,3,56,[.int .i64 0,.slice none 0 0,.slice none 0 0],(.cS [(3,0),(52,1),(143,2)])⟩
def y148:Ti:=⟨false,true,3,48,[.string ⟨#[]⟩,.int .i64 0,.slice none 0 0],(.cS [(9,0),(3,1),(59,2)])⟩
def y149:Ti:=⟨false,false,1,8,[.nilFunc],.fn⟩
def y156:Ti:=⟨false,true,5,80,[.string ⟨#[]⟩,.slice none 0 0,.int .i64 0,.bool false,.slice none 0 0],(.cS [(40,0),(34,4)])⟩
def y161:Ti:=⟨true,true,2,24,[.string ⟨#[]⟩,.int .i64 0],(.cS [(9,0),(3,1)])⟩
def y162:Ti:=⟨true,true,2,24,[.string ⟨#[]⟩,.int .i64 0],(.cS [(9,0),(3,1)])⟩
def y165:Ti:=⟨true,true,3,32,[.string ⟨#[]⟩,.int .i64 0,.bool false],(.cS [(9,0),(3,1),(4,2)])⟩
def y173:Ti:=⟨false,false,1,8,[.nilFunc],.fn⟩
def y179:Ti:=⟨false,false,1,8,[.nilFunc],.fn⟩
def y180:Ti:=⟨false,false,1,8,[.nilFunc],.fn⟩
def y182:Ti:=⟨false,false,1,8,[.nilFunc],.fn⟩
def y184:Ti:=⟨false,false,1,8,[.nilFunc],.fn⟩
def y186:Ti:=⟨false,false,1,8,[.pointer none],(.ptr 188)⟩
def y188:Ti:=⟨false,true,21,328,[.int .i64 0,.string ⟨#[]⟩,.slice none 0 0,.int .i64 0,.bool false,.string ⟨#[]⟩,.string ⟨#[]⟩,.slice none 0 0,.slice none 0 0,.slice none 0 0,.slice none 0 0,.slice none 0 0,.string ⟨#[]⟩,.string ⟨#[]⟩,.bool false,.int .i64 0,.string ⟨#[]⟩,.slice none 0 0,.int .i64 0,.int .i64 0,.bool false],(.cS [(47,0),(38,17),(3,18),(3,19),(4,20)])⟩
def y194:Ti:=⟨false,false,1,8,[.nilFunc],.fn⟩
def y199:Ti:=⟨false,false,1,8,[.nilFunc],.fn⟩
def y202:Ti:=⟨false,false,1,8,[.nilFunc],.fn⟩
def y205:Ti:=⟨true,true,3,32,[.int .i64 0,.string ⟨#[]⟩,.bool false],(.cS [(3,0),(9,1),(4,2)])⟩
def y208:Ti:=⟨false,false,1,24,[.slice none 0 0],(.mu 5)⟩
def y235:Ti:=⟨true,true,3,32,[.int .i64 0,.string ⟨#[]⟩,.bool false],(.cS [(3,0),(9,1),(4,2)])⟩
def y240:Ti:=⟨false,false,1,24,[.slice none 0 0],(.mu 3)⟩
def y248:Ti:=⟨false,false,1,8,[.map none],(.mp 9 4)⟩
def y250:Ti:=⟨false,true,4,24,[.int .u32 0,.int .i32 0,.int .u32 0,.map none],(.cS [(126,0),(248,3)])⟩
def y252:Ti:=⟨false,false,1,8,[.nilFunc],.fn⟩
def y263:Ti:=⟨false,false,1,8,[.nilFunc],.fn⟩
def y264:Ti:=⟨false,false,1,8,[.nilFunc],.fn⟩
def y272:Ti:=⟨false,false,1,8,[.nilFunc],.fn⟩
def y276:Ti:=⟨false,true,2,32,[.int .i64 0,.slice none 0 0],(.cS [(3,0),(42,1)])⟩
def y277:Ti:=⟨false,false,1,8,[.nilFunc],.fn⟩
def y280:Ti:=⟨false,false,1,24,[.slice none 0 0],(.mu 173)⟩
def y282:Ti:=⟨false,false,1,8,[.nilFunc],.fn⟩
def y284:Ti:=⟨false,false,1,8,[.nilFunc],.fn⟩
def y288:Ti:=⟨false,false,1,8,[.nilFunc],.fn⟩
def y291:Ti:=⟨false,false,1,24,[.slice none 0 0],(.mu 34)⟩
def y298:Ti:=⟨false,false,1,8,[.nilFunc],.fn⟩
def y302:Ti:=⟨false,false,1,8,[.int .u64 0],(.int .u64)⟩
def y325:Ti:=⟨false,true,7,72,[.int .i64 0,.int .i64 0,.int .i64 0,.int .i64 0,.int .i64 0,.string ⟨#[]⟩,.string ⟨#[]⟩],(.cS [(3,0),(3,1),(3,2),(61,3),(9,6)])⟩
def y332:Ti:=⟨false,false,1,8,[.pointer none],(.ptr 250)⟩
def y333:Ti:=⟨false,false,1,8,[.nilFunc],.fn⟩
def y335:Ti:=⟨false,true,5,80,[.string ⟨#[]⟩,.slice none 0 0,.int .i64 0,.bool false,.slice none 0 0],(.cS [(51,0)])⟩
def y351:Ti:=⟨false,false,1,8,[.pointer none],(.ptr 126)⟩
def y366:Ti:=⟨false,false,1,8,[.nilFunc],.fn⟩
def y377:Ti:=⟨false,false,1,8,[.pointer none],(.ptr 120)⟩
def y379:Ti:=⟨false,false,1,8,[.pointer none],(.ptr 118)⟩
def y387:Ti:=⟨false,false,1,8,[.nilFunc],.fn⟩
def y389:Ti:=⟨false,false,1,8,[.pointer none],(.ptr 407)⟩
def y391:Ti:=⟨false,false,1,8,[.map none],(.mp 3 4)⟩
def y397:Ti:=⟨false,false,1,8,[.pointer none],(.ptr 124)⟩
def y401:Ti:=⟨false,false,1,24,[.slice none 0 0],(.mu 28)⟩
def y402:Ti:=⟨false,false,1,8,[.map none],(.mp 3 240)⟩
def y403:Ti:=⟨true,true,0,0,[],(.cS [])⟩
def y405:Ti:=⟨false,true,1,8,[.int .i64 0],(.cS [(117,0),(403,0),(2,0)])⟩
def y407:Ti:=⟨false,true,2,16,[.map none,.int .i64 0],(.cS [(402,0),(405,1)])⟩
def y412:Ti:=⟨false,false,1,8,[.pointer none],(.ptr 122)⟩
def y414:Ti:=⟨false,false,1,8,[.pointer none],(.ptr 21)⟩
def y416:Ti:=⟨false,false,1,8,[.pointer none],.oth⟩
def y419:Ti:=⟨false,false,1,8,[.pointer none],(.ptr 405)⟩
def y421:Ti:=⟨false,false,1,8,[.pointer none],(.ptr 2)⟩
def ty(t:Nat):Ti:=if t<148 then(if t<61 then(if t<34 then(if t<22 then(if t<4 then(if t<2 then(if t=1 then y1 else .none)else(if t<3 then(if t=2 then y2 else .none)else(if t=3 then y3 else .none)))else(if t<9 then(if t<5 then(if t=4 then y4 else .none)else(if t=5 then y5 else .none))else(if t<21 then(if t=9 then y9 else .none)else(if t=21 then y21 else .none))))else(if t<27 then(if t<24 then(if t=22 then y22 else .none)else(if t<26 then(if t=24 then y24 else .none)else(if t=26 then y26 else .none)))else(if t<30 then(if t<28 then(if t=27 then y27 else .none)else(if t=28 then y28 else .none))else(if t<32 then(if t=30 then y30 else .none)else(if t=32 then y32 else .none)))))else(if t<45 then(if t<40 then(if t<35 then(if t=34 then y34 else .none)else(if t<38 then(if t=35 then y35 else .none)else(if t=38 then y38 else .none)))else(if t<43 then(if t<42 then(if t=40 then y40 else .none)else(if t=42 then y42 else .none))else(if t<44 then(if t=43 then y43 else .none)else(if t=44 then y44 else .none))))else(if t<52 then(if t<47 then(if t=45 then y45 else .none)else(if t<51 then(if t=47 then y47 else .none)else(if t=51 then y51 else .none)))else(if t<55 then(if t<53 then(if t=52 then y52 else .none)else(if t=53 then y53 else .none))else(if t<59 then(if t=55 then y55 else .none)else(if t=59 then y59 else .none))))))else(if t<117 then(if t<80 then(if t<66 then(if t<64 then(if t=61 then y61 else .none)else(if t<65 then(if t=64 then y64 else .none)else(if t=65 then y65 else .none)))else(if t<70 then(if t<68 then(if t=66 then y66 else .none)else(if t=68 then y68 else .none))else(if t<77 then(if t=70 then y70 else .none)else(if t=77 then y77 else .none))))else(if t<102 then(if t<99 then(if t=80 then y80 else .none)else(if t<101 then(if t=99 then y99 else .none)else(if t=101 then y101 else .none)))else(if t<109 then(if t<104 then(if t=102 then y102 else .none)else(if t=104 then y104 else .none))else(if t<116 then(if t=109 then y109 else .none)else(if t=116 then y116 else .none)))))else(if t<130 then(if t<122 then(if t<118 then(if t=117 then y117 else .none)else(if t<120 then(if t=118 then y118 else .none)else(if t=120 then y120 else .none)))else(if t<126 then(if t<124 then(if t=122 then y122 else .none)else(if t=124 then y124 else .none))else(if t<128 then(if t=126 then y126 else .none)else(if t=128 then y128 else .none))))else(if t<136 then(if t<131 then(if t=130 then y130 else .none)else(if t<134 then(if t=131 then y131 else .none)else(if t=134 then y134 else .none)))else(if t<143 then(if t<139 then(if t=136 then y136 else .none)else(if t=139 then y139 else .none))else(if t<145 then(if t=143 then y143 else .none)else(if t=145 then y145 else .none)))))))else(if t<280 then(if t<199 then(if t<179 then(if t<161 then(if t<149 then(if t=148 then y148 else .none)else(if t<156 then(if t=149 then y149 else .none)else(if t=156 then y156 else .none)))else(if t<165 then(if t<162 then(if t=161 then y161 else .none)else(if t=162 then y162 else .none))else(if t<173 then(if t=165 then y165 else .none)else(if t=173 then y173 else .none))))else(if t<184 then(if t<180 then(if t=179 then y179 else .none)else(if t<182 then(if t=180 then y180 else .none)else(if t=182 then y182 else .none)))else(if t<188 then(if t<186 then(if t=184 then y184 else .none)else(if t=186 then y186 else .none))else(if t<194 then(if t=188 then y188 else .none)else(if t=194 then y194 else .none)))))else(if t<250 then(if t<208 then(if t<202 then(if t=199 then y199 else .none)else(if t<205 then(if t=202 then y202 else .none)else(if t=205 then y205 else .none)))else(if t<240 then(if t<235 then(if t=208 then y208 else .none)else(if t=235 then y235 else .none))else(if t<248 then(if t=240 then y240 else .none)else(if t=248 then y248 else .none))))else(if t<264 then(if t<252 then(if t=250 then y250 else .none)else(if t<263 then(if t=252 then y252 else .none)else(if t=263 then y263 else .none)))else(if t<276 then(if t<272 then(if t=264 then y264 else .none)else(if t=272 then y272 else .none))else(if t<277 then(if t=276 then y276 else .none)else(if t=277 then y277 else .none))))))else(if t<379 then(if t<325 then(if t<288 then(if t<282 then(if t=280 then y280 else .none)else(if t<284 then(if t=282 then y282 else .none)else(if t=284 then y284 else .none)))else(if t<298 then(if t<291 then(if t=288 then y288 else .none)else(if t=291 then y291 else .none))else(if t<302 then(if t=298 then y298 else .none)else(if t=302 then y302 else .none))))else(if t<335 then(if t<332 then(if t=325 then y325 else .none)else(if t<333 then(if t=332 then y332 else .none)else(if t=333 then y333 else .none)))else(if t<366 then(if t<351 then(if t=335 then y335 else .none)else(if t=351 then y351 else .none))else(if t<377 then(if t=366 then y366 else .none)else(if t=377 then y377 else .none)))))else(if t<403 then(if t<391 then(if t<387 then(if t=379 then y379 else .none)else(if t<389 then(if t=387 then y387 else .none)else(if t=389 then y389 else .none)))else(if t<401 then(if t<397 then(if t=391 then y391 else .none)else(if t=397 then y397 else .none))else(if t<402 then(if t=401 then y401 else .none)else(if t=402 then y402 else .none))))else(if t<414 then(if t<407 then(if t<405 then(if t=403 then y403 else .none)else(if t=405 then y405 else .none))else(if t<412 then(if t=407 then y407 else .none)else(if t=412 then y412 else .none)))else(if t<419 then(if t<416 then(if t=414 then y414 else .none)else(if t=416 then y416 else .none))else(if t<421 then(if t=419 then y419 else .none)else(if t=421 then y421 else .none)))))))
def I1:List Nat:=[1,2,3,4,5,9,21,22,24,26,27,28,30,32,34,35,38,40,42,43,44,45,47,51,52,53,55,59,61,64,65,66,68,70,77,80,99,101,102,104,109,116,117,118,120,122,124,126,128,130,131,134,136,139,143,145,148,149,156,161,162,165,173,179,180,182,184,186,188,194,199,202,205,208,235,240,248,250,252,263,264,272,276,277,280,282,284,288,291,298,302,325,332,333,335,351,366,377,379,387,389,391,397,401,402,403,405,407,412,414,416,419,421]
def RL:List Nat:=[0,1,117,205,292,296,321,335,336,337,338,340,341,344,346,347,348,349,350,351,352,357,358,359,360,361,362,363,364,365,366,367,368,369,370,371,372,373,374]
def fnN:Nat:=375
def aD(f:Nat):Bool:=if f<fnN then !RL.contains f else false
def T7:aU:=⟨ty,aD,fun id=>if id=7 then(.aa 0 (.aa 1 (.aa 2 (.aa 3 (.aa 4 (.aa 5 (.aa 6 (.aa 7 (.aa 8 (.aa 9 (.aa 10 (.aa 11 (.aa 12 (.aa 13 (.aa 14 .done)))))))))))))))else if id=8 then(.aa 0 (.aa 1 (.aa 2 (.aa 3 (.aa 4 (.aa 5 (.aa 6 (.aa 7 (.aa 8 (.aa 9 (.aa 10 (.aa 11 (.aa 12 (.aq 13 [] (.aa 14 (.aq 15 [] .done))))))))))))))))else if id=9 then(.aa 0 (.aa 1 (.aa 2 (.aa 3 (.aa 4 (.aa 5 (.aa 6 (.aa 7 (.aa 8 (.aa 9 (.aa 10 (.aa 11 (.aa 12 (.aa 13 (.aa 14 (.aa 15 (.aa 16 .done)))))))))))))))))else if id=14 then(.aa 0 (.aa 1 (.aa 2 (.aa 3 (.aa 4 (.aa 5 (.aa 6 (.aa 7 (.aa 8 (.aa 9 (.aa 10 (.aa 11 (.aa 12 (.aa 13 (.aa 14 (.aa 15 (.aq 16 [] (.aq 17 [] .done))))))))))))))))))else if id=15 then(.aa 0 (.aa 1 (.aa 2 (.aa 3 (.aa 4 (.aa 5 (.aa 6 (.aa 7 (.aa 8 (.aa 9 (.aa 10 (.aa 11 (.aa 12 (.aa 13 (.aa 14 (.aa 15 (.aa 16 (.aa 17 (.aa 18 (.aa 19 .done))))))))))))))))))))else if id=17 then(.aa 0 (.aa 1 (.aa 2 (.aa 3 (.aa 4 (.aa 5 (.aa 6 (.aa 7 (.aa 8 (.aa 9 (.aa 10 (.aa 11 (.aa 12 (.aa 13 (.aa 14 (.aa 15 (.aa 16 (.aa 17 (.aa 18 (.aa 19 (.aa 20 (.aq 21 [] .done))))))))))))))))))))))else .done,fun _=>false,fun _=>false,[],fun _ _ _=>False⟩
def T17:aU:=⟨ty,aD,fun _=>.done,fun _=>false,fun _=>false,[],fun _ _ _=>False⟩
def T18:aU:=⟨ty,aD,fun id=>if id=6 then(.aa 0 (.aa 1 (.aa 2 (.aa 3 (.aa 4 (.aa 6 (.aa 7 (.aa 8 (.aa 9 (.aa 10 (.aa 11 (.aa 12 (.aa 13 (.aa 14 (.aa 15 (.aa 21 (.aq 5 [15,10] (.aq 16 [] (.aq 17 [] (.aa 18 (.aa 19 (.aa 20 (.aq 22 [] (.aq 23 [] .done))))))))))))))))))))))))else .done,fun _=>false,fun _=>false,[],fun _ _ _=>False⟩
def T19:aU:=⟨ty,aD,fun _=>.done,fun s=>[79].contains s,fun _=>false,[],fun _ _ _=>False⟩
def T21:aU:=⟨ty,aD,fun id=>if id=6 then(.aa 0 (.aa 1 (.aa 2 (.aa 3 (.aa 4 (.aa 5 (.aa 6 (.aa 7 (.aq 8 [] (.aa 9 .done))))))))))else .done,fun _=>false,fun _=>false,[],fun _ _ _=>False⟩
def T22:aU:=⟨ty,aD,fun _=>.done,fun _=>false,fun _=>false,[],fun _ _ _=>False⟩
def T23:aU:=⟨ty,aD,fun _=>.done,fun _=>false,fun _=>false,[],fun _ _ _=>False⟩
def T24:aU:=⟨ty,aD,fun id=>if id=5 then(.aa 0 (.aa 1 (.aq 2 [0] (.aq 3 [] (.aa 4 (.aa 5 (.aa 6 (.aq 7 [] .done))))))))else if id=6 then(.aa 0 (.aa 1 (.aq 2 [0] (.aq 3 [] (.aa 4 (.aa 5 (.aa 6 (.aq 7 [] .done))))))))else if id=7 then(.aa 0 (.aa 1 (.aq 2 [1] (.aq 3 [] .done))))else .done,fun _=>false,fun _=>false,[],fun _ _ _=>False⟩
def T25:aU:=⟨ty,aD,fun _=>.done,fun _=>false,fun _=>false,[],fun _ _ _=>False⟩
def T27:aU:=⟨ty,aD,fun _=>.done,fun _=>false,fun _=>false,[],fun _ _ _=>False⟩
def T28:aU:=⟨ty,aD,fun id=>if id=6 then(.aa 0 (.aa 1 (.aa 2 (.aa 3 (.aa 4 (.aa 5 (.aa 6 (.aa 7 (.aa 8 .done)))))))))else .done,fun _=>false,fun _=>false,[],fun _ _ _=>False⟩
def T30:aU:=⟨ty,aD,fun id=>if id=6 then(.aa 0 (.aa 1 (.aa 2 (.aa 3 (.aa 4 (.aa 5 (.aa 6 (.aa 7 (.aa 8 (.aa 9 (.aa 10 (.aa 11 (.aa 12 (.aa 13 (.aa 14 (.aa 15 (.aa 16 (.aa 17 (.aa 18 .done)))))))))))))))))))else if id=14 then(.aa 0 (.aa 1 (.aa 2 (.aa 3 (.aa 4 (.aq 5 [4] (.aq 6 [] .done)))))))else .done,fun s=>[22].contains s,fun _=>false,[],fun _ _ _=>False⟩
def T37:aU:=⟨ty,aD,fun _=>.done,fun _=>false,fun _=>false,[],fun _ _ _=>False⟩
def T38:aU:=⟨ty,aD,fun _=>.done,fun _=>false,fun _=>false,[],fun _ _ _=>False⟩
def T39:aU:=⟨ty,aD,fun id=>if id=10 then(.aa 0 (.aa 1 (.aa 2 (.aa 3 (.aa 4 (.aa 5 (.aa 6 (.aa 7 (.aa 8 (.aa 9 (.aa 10 (.aa 11 (.aq 12 [4] (.aq 13 [] (.aa 14 (.aa 15 (.aq 16 [] .done)))))))))))))))))else .done,fun _=>false,fun _=>false,[],fun _ _ _=>False⟩
def T40:aU:=⟨ty,aD,fun id=>if id=11 then(.aa 0 (.aa 1 (.aa 2 (.aa 3 (.aa 4 (.aa 5 (.aa 6 (.aa 7 (.aa 8 (.aa 9 (.aa 10 (.aa 11 (.aq 12 [] .done)))))))))))))else .done,fun _=>false,fun _=>false,[],fun _ _ _=>False⟩
def T41:aU:=⟨ty,aD,fun id=>if id=1 then(.aa 0 (.aa 1 (.aa 2 (.aa 3 (.aa 4 (.aa 5 (.aq 6 [] (.aq 7 [] .done))))))))else .done,fun s=>[1].contains s,fun _=>false,[],fun _ _ _=>False⟩
def T42:aU:=⟨ty,aD,fun id=>if id=1 then(.aa 0 (.aa 1 (.aa 2 (.aa 3 (.aa 4 (.aa 5 (.aq 6 [] (.aq 7 [] .done))))))))else if id=4 then(.aa 0 (.aa 1 (.aa 2 (.aa 3 (.aa 4 (.aa 5 (.fork (.aq 6 [] (.aq 7 [] (.aq 8 [] .done))) (.aq 7 [5,1,0] (.aq 6 [] (.aq 8 [] .done))))))))))else .done,fun s=>[1,5].contains s,fun _=>false,[],fun _ _ _=>False⟩
def T44:aU:=⟨ty,aD,fun id=>if id=1 then(.aa 0 (.aa 1 (.aa 2 (.aa 3 (.aa 4 (.aa 5 (.aa 6 (.aa 7 (.aa 8 (.aa 9 (.aa 10 .done)))))))))))else if id=3 then(.aa 0 (.aa 1 (.aa 2 (.aa 3 (.aa 4 (.aa 5 (.aa 6 (.aa 7 (.aa 8 (.aa 9 (.aq 10 [] (.aq 11 [] .done))))))))))))else if id=11 then(.aa 0 (.aa 1 (.aa 2 (.aa 3 (.aa 4 (.aa 5 (.aa 7 (.aq 6 [] (.aq 8 [] .done)))))))))else if id=14 then(.aa 0 (.aa 1 (.aa 2 (.aa 3 (.aa 4 (.aa 5 (.aq 6 [] (.aq 7 [] .done))))))))else if id=15 then(.aa 0 (.aa 1 (.aa 3 (.aq 2 [3] (.aq 4 [] (.aq 5 [] (.aa 6 (.aa 7 (.aq 8 [] .done)))))))))else .done,fun s=>[1,56].contains s,fun _=>false,[],fun _ _ _=>False⟩
def T45:aU:=⟨ty,aD,fun id=>if id=11 then(.aa 0 (.aa 2 (.aa 3 (.aa 4 (.aa 5 (.aq 1 [5] (.aq 6 [5] (.aq 7 [] .done))))))))else if id=12 then(.aa 0 (.aa 1 (.aa 2 (.aa 3 (.aa 4 (.aa 5 (.aa 6 (.aa 7 (.aa 8 (.aq 9 [5] (.aq 10 [5] (.aq 11 [] (.aa 12 (.aa 13 (.aa 14 (.aq 15 [] .done))))))))))))))))else .done,fun _=>false,fun _=>false,[],fun _ _ _=>False⟩
def T46:aU:=⟨ty,aD,fun _=>.done,fun _=>false,fun _=>false,[],fun _ _ _=>False⟩
def T47:aU:=⟨ty,aD,fun id=>if id=11 then(.aa 0 (.aa 1 (.aa 2 (.aa 3 (.aa 4 (.aa 5 (.aa 6 (.aa 7 (.aa 8 (.aa 9 (.aa 10 (.aa 11 (.aa 12 (.aa 13 (.aa 14 (.aq 15 [] (.aa 16 .done)))))))))))))))))else .done,fun _=>false,fun _=>false,[],fun _ _ _=>False⟩
def T48:aU:=⟨ty,aD,fun _=>.done,fun s=>[6].contains s,fun _=>false,[],fun _ _ _=>False⟩
def T49:aU:=⟨ty,aD,fun _=>.done,fun _=>false,fun _=>false,[],fun _ _ _=>False⟩
def T50:aU:=⟨ty,aD,fun id=>if id=1 then(.aa 0 (.aa 1 (.aa 3 (.aa 4 (.aa 6 (.aa 7 (.aa 8 (.aa 10 (.aa 11 (.aa 12 (.aq 2 [12,8,4] (.aq 5 [12,8] (.aq 9 [12] (.aq 13 [] (.aa 14 (.aa 15 (.aq 16 [] .done)))))))))))))))))else .done,fun _=>false,fun _=>false,[],fun _ _ _=>False⟩
def T51:aU:=⟨ty,aD,fun id=>if id=11 then(.aa 0 (.aa 1 (.aa 2 (.aa 3 (.aa 4 (.aa 5 (.aa 6 (.aa 7 (.aq 8 [] .done)))))))))else if id=15 then(.aa 0 (.aa 1 (.aa 2 (.aa 3 (.aa 4 (.aa 5 (.aa 6 (.aa 7 (.aq 8 [] .done)))))))))else .done,fun _=>false,fun _=>false,[],fun _ _ _=>False⟩
def T52:aU:=⟨ty,aD,fun _=>.done,fun _=>false,fun _=>false,[],fun _ _ _=>False⟩
def T54:aU:=⟨ty,aD,fun _=>.done,fun _=>false,fun _=>false,[],fun _ _ _=>False⟩
def T55:aU:=⟨ty,aD,fun _=>.done,fun _=>false,fun _=>false,[],fun _ _ _=>False⟩
def T56:aU:=⟨ty,aD,fun _=>.done,fun _=>false,fun _=>false,[],fun _ _ _=>False⟩
def T57:aU:=⟨ty,aD,fun _=>.done,fun _=>false,fun _=>false,[],fun _ _ _=>False⟩
def T59:aU:=⟨ty,aD,fun _=>.done,fun _=>false,fun _=>false,[],fun _ _ _=>False⟩
def T60:aU:=⟨ty,aD,fun _=>.done,fun _=>false,fun _=>false,[],fun _ _ _=>False⟩
def T61:aU:=⟨ty,aD,fun _=>.done,fun _=>false,fun _=>false,[],fun _ _ _=>False⟩
def T75:aU:=⟨ty,aD,fun _=>.done,fun _=>false,fun _=>false,[],fun _ _ _=>False⟩
def T76:aU:=⟨ty,aD,fun _=>.done,fun _=>false,fun _=>false,[],fun _ _ _=>False⟩
def T77:aU:=⟨ty,aD,fun _=>.done,fun s=>[3].contains s,fun _=>false,[],fun _ _ _=>False⟩
def T78:aU:=⟨ty,aD,fun id=>if id=2 then(.aa 0 (.aa 1 (.aa 2 (.aa 3 (.aa 4 (.aa 5 (.aa 6 (.aa 7 (.aa 8 (.aa 9 (.aa 10 (.aa 11 (.aa 12 (.aq 13 [] .done))))))))))))))else if id=8 then(.aa 0 (.aa 1 (.aa 2 (.aa 3 (.aa 4 (.aa 5 (.aq 6 [] (.aa 7 (.aa 8 (.aa 9 (.aa 10 (.aq 11 [] .done))))))))))))else if id=9 then(.aa 0 (.aa 1 (.aa 2 (.aa 3 (.aa 4 (.aa 5 (.aa 6 (.aa 7 (.aa 8 (.aa 9 (.aa 10 (.aa 11 (.aa 12 (.aa 13 (.aa 14 (.aa 15 (.aa 16 .done)))))))))))))))))else if id=10 then(.aa 0 (.aa 1 (.aa 2 (.aa 3 (.aa 4 (.aa 5 (.aa 6 (.aa 7 (.aa 8 (.aa 9 (.aa 10 (.aa 11 (.aa 12 (.aq 13 [] (.aa 14 (.aa 15 (.aa 16 (.aa 17 (.aa 18 (.aq 19 [] .done))))))))))))))))))))else if id=11 then(.aa 0 (.aa 1 (.aa 2 (.aa 3 (.aa 4 (.aa 5 (.aa 6 (.aa 7 (.aa 8 (.aa 9 (.aa 10 (.aa 11 (.aa 12 (.aa 13 (.aa 14 (.aa 15 (.aq 16 [] .done)))))))))))))))))else .done,fun _=>false,fun _=>false,[],fun _ _ _=>False⟩
def T79:aU:=⟨ty,aD,fun id=>if id=1 then(.aa 0 (.aa 1 (.aa 2 (.aa 3 (.aa 4 (.aa 5 (.aa 6 (.aa 7 (.aa 8 (.aa 9 (.aa 10 (.aq 11 [] (.aa 12 (.aa 13 (.aa 14 (.aa 15 (.aa 16 (.aq 17 [] (.aq 18 [] .done)))))))))))))))))))else .done,fun _=>false,fun _=>false,[],fun _ _ _=>False⟩
def XT:aU:=⟨ty,aD,fun _=>.done,fun s=>[2,5,6].contains s,fun _=>false,[],fun _ _ _=>False⟩
def T81:aU:=⟨ty,aD,fun id=>if id=3 then(.aa 0 (.aa 1 (.aa 2 (.aa 3 (.aa 4 (.aa 5 (.aa 6 (.aa 7 (.aa 8 (.aa 9 (.aa 10 (.aa 11 (.aa 12 (.aa 13 (.aa 14 (.aq 15 [0] (.aa 16 (.aa 17 (.aa 18 (.aa 19 (.aa 20 (.aq 21 [] (.aq 22 [] .done)))))))))))))))))))))))else .done,fun _=>false,fun _=>false,[],fun _ _ _=>False⟩
def T82:aU:=⟨ty,aD,fun _=>.done,fun s=>[4,5,8].contains s,fun _=>false,[],fun _ _ _=>False⟩
def T83:aU:=⟨ty,aD,fun _=>.done,fun s=>[7].contains s,fun _=>false,[],fun _ _ _=>False⟩
def T84:aU:=⟨ty,aD,fun _=>.done,fun _=>false,fun _=>false,[],fun _ _ _=>False⟩
def T85:aU:=⟨ty,aD,fun _=>.done,fun s=>[4].contains s,fun _=>false,[],fun _ _ _=>False⟩
def T86:aU:=⟨ty,aD,fun id=>if id=6 then(.aa 0 (.aa 1 (.aa 2 (.aa 3 (.aa 4 (.aa 5 (.aa 6 (.aa 7 (.aa 8 (.aa 9 (.aa 10 (.aa 11 (.aa 12 (.aa 13 (.aa 14 (.aa 15 (.aa 16 .done)))))))))))))))))else if id=9 then(.aa 0 (.aa 1 (.aa 2 (.aa 3 (.aa 4 (.aa 5 (.aa 6 (.aa 7 (.aa 8 (.aa 9 (.aa 10 (.aa 11 (.aq 12 [] (.aq 13 [] .done))))))))))))))else .done,fun s=>[3,6].contains s,fun _=>false,[],fun _ _ _=>False⟩
def T87:aU:=⟨ty,aD,fun id=>if id=5 then(.aa 0 (.aa 1 (.aa 2 (.aa 3 (.aa 4 (.aa 5 (.aa 6 (.aa 7 (.aa 8 (.aa 9 (.aa 10 (.aa 11 (.aa 12 (.aa 13 (.aq 14 [] .done)))))))))))))))else .done,fun _=>false,fun _=>false,[],fun _ _ _=>False⟩
def T88:aU:=⟨ty,aD,fun id=>if id=3 then(.aa 0 (.aa 1 (.aa 2 (.aq 3 [1] (.aq 4 [] (.aq 5 [] .done))))))else .done,fun s=>[3,5,6,7,9].contains s,fun _=>false,[],fun _ _ _=>False⟩
def T89:aU:=⟨ty,aD,fun id=>if id=1 then(.aa 0 (.aa 1 (.aa 2 (.aa 3 (.aa 4 (.aa 5 (.aa 6 (.aq 7 [] (.aa 8 (.aa 9 (.aa 10 (.aq 11 [] (.aq 12 [] .done)))))))))))))else if id=6 then(.aa 0 (.aa 1 (.aa 2 (.aa 3 (.aa 4 (.aa 5 (.aa 6 (.aa 7 (.aa 8 (.aa 9 (.aq 10 [] (.aa 11 (.aa 12 (.aa 13 (.aq 14 [] (.aq 15 [] .done))))))))))))))))else .done,fun _=>false,fun _=>false,[],fun _ _ _=>False⟩
def T90:aU:=⟨ty,aD,fun _=>.done,fun _=>false,fun _=>false,[],fun _ _ _=>False⟩
def T91:aU:=⟨ty,aD,fun _=>.done,fun s=>[3].contains s,fun _=>false,[],fun _ _ _=>False⟩
def T92:aU:=⟨ty,aD,fun _=>.done,fun _=>false,fun _=>false,[],fun _ _ _=>False⟩
def T93:aU:=⟨ty,aD,fun id=>if id=1 then(.aa 0 (.aa 1 (.aa 2 (.aa 3 (.aa 4 (.aa 5 (.aa 6 (.aa 7 (.aa 8 (.aa 9 (.aa 10 (.aa 11 (.aa 12 (.aa 13 (.aa 14 (.aa 15 (.aa 16 (.aa 17 (.aa 18 (.aa 19 (.aa 20 (.aq 21 [13,8,4] (.aa 22 (.aa 23 (.aa 24 (.aa 25 (.aq 26 [] (.aa 27 (.aa 28 (.aa 29 (.aa 30 (.aa 31 (.aq 32 [] (.aq 33 [] .done))))))))))))))))))))))))))))))))))else .done,fun _=>false,fun _=>false,[],fun _ _ _=>False⟩
def T94:aU:=⟨ty,aD,fun id=>if id=1 then(.aa 0 (.aa 1 (.aa 2 (.aa 3 (.aa 4 (.aa 5 (.aa 6 (.aa 7 (.aa 8 (.aa 9 (.aa 10 (.aa 11 (.aa 12 (.aa 13 (.aa 14 (.aq 15 [] (.aa 16 (.aa 17 (.aa 18 (.aa 19 (.aa 20 (.aq 21 [] (.aq 22 [] .done)))))))))))))))))))))))else .done,fun _=>false,fun _=>false,[],fun _ _ _=>False⟩
def T96:aU:=⟨ty,aD,fun _=>.done,fun _=>false,fun _=>false,[],fun _ _ _=>False⟩
def T98:aU:=⟨ty,aD,fun _=>.done,fun _=>false,fun _=>false,[],fun _ _ _=>False⟩
def T99:aU:=⟨ty,aD,fun _=>.done,fun _=>false,fun _=>false,[],fun _ _ _=>False⟩
def T100:aU:=⟨ty,aD,fun id=>if id=5 then(.aa 0 (.aa 1 (.aa 2 (.aa 3 (.aa 4 (.aa 5 (.aa 6 (.aa 7 (.aa 8 (.aa 9 (.aa 10 (.aa 11 (.aa 12 (.aq 13 [0] (.aa 14 (.aa 15 (.aa 16 (.aq 17 [] .done))))))))))))))))))else if id=8 then(.aa 0 (.aa 1 (.aa 2 (.aa 3 (.aa 4 (.aa 5 (.aa 6 (.aa 7 (.aa 8 (.aa 9 (.aa 10 (.aa 11 (.aa 12 (.aa 13 (.aa 14 (.aa 15 (.aa 16 (.aa 17 (.aa 18 (.aa 19 (.aa 20 (.aa 21 (.aa 22 (.aa 23 (.aa 24 .done)))))))))))))))))))))))))else if id=10 then(.aa 0 (.aa 1 (.aa 2 (.aa 3 (.aa 4 (.aa 5 (.aa 6 (.aq 7 [] (.aq 8 [] .done)))))))))else .done,fun s=>[1].contains s,fun _=>false,[],fun _ _ _=>False⟩
def T101:aU:=⟨ty,aD,fun _=>.done,fun s=>[3,5,8].contains s,fun _=>false,[],fun _ _ _=>False⟩
def T103:aU:=⟨ty,aD,fun id=>if id=2 then(.aa 0 (.aa 1 (.aa 3 (.aa 4 (.aa 5 (.aa 6 (.aa 7 (.aa 10 (.aq 2 [7,3] (.aq 8 [] (.aa 9 .done)))))))))))else .done,fun s=>[2,8,9].contains s,fun _=>false,[],fun _ _ _=>False⟩
def T104:aU:=⟨ty,aD,fun _=>.done,fun s=>[2,3].contains s,fun _=>false,[],fun _ _ _=>False⟩
def T105:aU:=⟨ty,aD,fun _=>.done,fun _=>false,fun _=>false,[],fun _ _ _=>False⟩
def T106:aU:=⟨ty,aD,fun id=>if id=11 then(.aa 0 (.aa 1 (.aa 2 (.aa 3 (.aa 4 (.aa 5 (.aa 6 (.aa 7 (.aq 8 [] .done)))))))))else if id=15 then(.aa 0 (.aa 1 (.aa 2 (.aa 3 (.aa 4 (.aa 5 (.aa 6 (.aa 7 (.aq 8 [] .done)))))))))else .done,fun _=>false,fun _=>false,[],fun _ _ _=>False⟩
def T107:aU:=⟨ty,aD,fun _=>.done,fun _=>false,fun _=>false,[],fun _ _ _=>False⟩
def T108:aU:=⟨ty,aD,fun id=>if id=8 then(.aa 0 (.aa 1 (.aa 2 (.aa 3 (.aa 4 (.aa 5 (.aa 6 (.aq 7 [] (.aa 8 (.aa 9 (.aa 10 (.aq 11 [] (.aq 12 [] .done)))))))))))))else .done,fun _=>false,fun _=>false,[],fun _ _ _=>False⟩
def T109:aU:=⟨ty,aD,fun _=>.done,fun _=>false,fun _=>false,[],fun _ _ _=>False⟩
def T110:aU:=⟨ty,aD,fun id=>if id=4 then(.aa 0 (.aa 1 (.aa 2 (.aa 3 (.aa 4 (.aa 5 (.aa 6 .done)))))))else if id=5 then(.aa 0 (.aa 1 (.aa 2 (.aa 3 (.aa 4 (.aa 5 (.aa 6 (.aq 7 [] .done))))))))else .done,fun _=>false,fun _=>false,[],fun _ _ _=>False⟩
def T111:aU:=⟨ty,aD,fun _=>.done,fun _=>false,fun _=>false,[],fun _ _ _=>False⟩
def T112:aU:=⟨ty,aD,fun _=>.done,fun _=>false,fun _=>false,[],fun _ _ _=>False⟩
def T113:aU:=⟨ty,aD,fun _=>.done,fun _=>false,fun _=>false,[],fun _ _ _=>False⟩
def Qs:aU:=⟨ty,aD,fun _=>.done,fun _=>false,fun _=>false,[],fun _ _ _=>False⟩
def Qr:aU:=⟨ty,aD,fun id=>if id=1 then(.aa 0 (.aa 1 (.aa 3 (.aa 4 (.aq 2 [4] (.aa 6 (.aq 5 [] (.aq 7 [] (.aa 8 (.aq 9 [] .done))))))))))else .done,fun _=>false,fun _=>false,[],fun _ _ _=>False⟩
def Qq:aU:=⟨ty,aD,fun _=>.done,fun _=>false,fun _=>false,[],fun _ _ _=>False⟩
def T119:aU:=⟨ty,aD,fun _=>.done,fun _=>false,fun _=>false,[],fun _ _ _=>False⟩
def T120:aU:=⟨ty,aD,fun id=>if id=1 then(.aa 0 (.aa 1 (.aa 2 (.aa 3 (.aa 4 (.aa 5 (.aa 6 (.aa 7 (.aa 8 (.aa 9 (.aa 10 (.aq 11 [] .done))))))))))))else .done,fun _=>false,fun _=>false,[],fun _ _ _=>False⟩
def T122:aU:=⟨ty,aD,fun _=>.done,fun _=>false,fun _=>false,[],fun _ _ _=>False⟩
def T123:aU:=⟨ty,aD,fun id=>if id=1 then(.aa 0 (.aa 1 (.aa 2 (.aa 3 (.aa 4 (.aa 5 (.aa 6 (.aa 7 (.aa 8 (.aa 9 (.aa 10 (.aq 11 [] .done))))))))))))else .done,fun _=>false,fun _=>false,[],fun _ _ _=>False⟩
def T124:aU:=⟨ty,aD,fun id=>if id=4 then(.aa 0 (.aa 1 (.aa 2 (.aq 3 [1] (.aq 4 [1] (.aq 5 [] (.aa 6 (.aq 7 [] .done))))))))else if id=6 then(.aa 0 (.aa 1 (.aa 2 (.aq 3 [1] (.aq 4 [1] (.aq 5 [] (.aa 6 (.aq 7 [] .done))))))))else .done,fun _=>false,fun _=>false,[],fun _ _ _=>False⟩
def T125:aU:=⟨ty,aD,fun id=>if id=6 then(.aa 0 (.aa 1 (.aa 2 (.aq 3 [1] (.aq 4 [1] (.aq 5 [] (.aa 6 (.aq 7 [] .done))))))))else if id=8 then(.aa 0 (.aa 1 (.aa 2 (.aq 3 [1] (.aq 4 [1] (.aq 5 [] (.aa 6 (.aq 7 [] .done))))))))else .done,fun _=>false,fun _=>false,[],fun _ _ _=>False⟩
def T126:aU:=⟨ty,aD,fun _=>.done,fun _=>false,fun _=>false,[],fun _ _ _=>False⟩
def T127:aU:=⟨ty,aD,fun id=>if id=6 then(.aa 0 (.aa 1 (.aa 2 (.aq 3 [1] (.aq 4 [1] (.aq 5 [] (.aa 6 (.aq 7 [] .done))))))))else if id=22 then(.aa 0 (.aa 1 (.aa 2 (.aa 3 (.aa 4 (.aa 5 (.aa 6 (.aa 7 (.aa 8 (.aa 9 (.aa 10 (.aq 11 [] .done))))))))))))else .done,fun _=>false,fun _=>false,[],fun _ _ _=>False⟩
def T128:aU:=⟨ty,aD,fun _=>.done,fun _=>false,fun _=>false,[],fun _ _ _=>False⟩
def T129:aU:=⟨ty,aD,fun id=>if id=5 then(.aa 0 (.aa 1 (.aa 2 (.aa 3 (.aa 4 (.aa 5 (.aq 6 [] (.aq 7 [] .done))))))))else .done,fun _=>false,fun _=>false,[],fun _ _ _=>False⟩
def T130:aU:=⟨ty,aD,fun id=>if id=1 then(.aa 0 (.aa 1 (.aa 2 (.aa 4 (.aa 5 (.aa 6 (.aq 3 [5] (.aq 7 [] (.aa 8 (.aq 9 [] .done))))))))))else .done,fun _=>false,fun _=>false,[],fun _ _ _=>False⟩
def T133:aU:=⟨ty,aD,fun _=>.done,fun _=>false,fun _=>false,[],fun _ _ _=>False⟩
def T155:aU:=⟨ty,aD,fun _=>.done,fun _=>false,fun _=>false,[],fun _ _ _=>False⟩
def T156:aU:=⟨ty,aD,fun _=>.done,fun s=>[1].contains s,fun _=>false,[],fun _ _ _=>False⟩
def T157:aU:=⟨ty,aD,fun id=>if id=5 then(.aa 0 (.aa 1 (.aa 2 (.aq 3 [0] (.aq 4 [] (.aa 5 (.aa 6 (.aa 7 (.aq 8 [] (.aq 9 [] .done))))))))))else if id=10 then(.aa 0 (.aa 1 (.aa 2 (.aa 3 (.aa 4 (.aa 5 (.aa 6 (.aa 8 (.aa 9 (.aa 10 (.aa 11 (.aq 7 [9,2,0] (.aq 12 [0] (.aq 13 [] (.aq 14 [] (.aq 15 [] .done))))))))))))))))else .done,fun _=>false,fun _=>false,[],fun _ _ _=>False⟩
def T158:aU:=⟨ty,aD,fun id=>if id=5 then(.aa 0 (.aa 1 (.aa 2 (.aa 3 (.aa 4 (.aa 5 (.aa 6 (.aa 7 (.aa 8 (.aa 9 (.aa 10 (.aa 13 (.aa 14 (.aa 15 (.aa 16 (.aa 17 (.aq 11 [17,14,0] (.aq 12 [17,14] (.aq 18 [] (.aq 19 [] (.aq 20 [] (.aq 21 [] .done))))))))))))))))))))))else .done,fun _=>false,fun _=>false,[],fun _ _ _=>False⟩
def T159:aU:=⟨ty,aD,fun _=>.done,fun _=>false,fun _=>false,[],fun _ _ _=>False⟩
def T160:aU:=⟨ty,aD,fun _=>.done,fun _=>false,fun _=>false,[],fun _ _ _=>False⟩
def T161:aU:=⟨ty,aD,fun _=>.done,fun _=>false,fun _=>false,[],fun _ _ _=>False⟩
def T162:aU:=⟨ty,aD,fun _=>.done,fun _=>false,fun _=>false,[],fun _ _ _=>False⟩
def T163:aU:=⟨ty,aD,fun _=>.done,fun s=>[6,7].contains s,fun _=>false,[],fun _ _ _=>False⟩
def T164:aU:=⟨ty,aD,fun id=>if id=2 then(.aa 0 (.aa 1 (.aa 4 (.aq 2 [0] (.aa 3 (.aq 5 [] (.aq 6 [] (.aq 7 [] .done))))))))else .done,fun _=>false,fun _=>false,[],fun _ _ _=>False⟩
def T165:aU:=⟨ty,aD,fun id=>if id=13 then(.aa 0 (.aa 1 (.aa 2 (.aa 3 (.aa 4 (.aa 5 (.aa 6 (.aa 7 (.aq 8 [] .done)))))))))else if id=14 then(.aa 0 (.aa 1 (.aa 2 (.aa 3 (.aa 4 (.aa 5 (.aq 6 [4] (.aq 7 [] (.aa 8 (.aa 9 (.aq 10 [] .done)))))))))))else .done,fun _=>false,fun _=>false,[],fun _ _ _=>False⟩
def T166:aU:=⟨ty,aD,fun _=>.done,fun _=>false,fun _=>false,[],fun _ _ _=>False⟩
def T167:aU:=⟨ty,aD,fun _=>.done,fun _=>false,fun _=>false,[],fun _ _ _=>False⟩
def T168:aU:=⟨ty,aD,fun _=>.done,fun _=>false,fun _=>false,[],fun _ _ _=>False⟩
def Qp:aU:=⟨ty,aD,fun _=>.done,fun _=>false,fun _=>false,[],fun _ _ _=>False⟩
def T170:aU:=⟨ty,aD,fun id=>if id=1 then(.aa 0 (.aa 1 (.aa 2 (.aa 3 (.aa 4 (.aa 5 (.aa 6 (.aq 7 [] (.aa 8 (.aa 9 (.aa 10 (.aq 11 [] (.aq 12 [] .done)))))))))))))else if id=5 then(.aa 0 (.aa 1 (.aa 4 (.aa 5 (.fork (.aq 2 [4,0] (.fork (.aq 3 [4] (.aq 6 [4] (.aq 7 [] (.aq 8 [] (.aq 9 [] .done))))) (.aq 6 [4,0] (.aq 3 [4] (.aq 7 [] (.aq 8 [] (.aq 9 [] .done))))))) (.aq 6 [4,0] (.aq 2 [4,0] (.aq 3 [4] (.aq 7 [] (.aq 8 [] (.aq 9 [] .done)))))))))))else .done,fun _=>false,fun _=>false,[],fun _ _ _=>False⟩
def T171:aU:=⟨ty,aD,fun _=>.done,fun _=>false,fun _=>false,[],fun _ _ _=>False⟩
def T172:aU:=⟨ty,aD,fun _=>.done,fun _=>false,fun _=>false,[],fun _ _ _=>False⟩
def T173:aU:=⟨ty,aD,fun _=>.done,fun _=>false,fun _=>false,[],fun _ _ _=>False⟩
def T174:aU:=⟨ty,aD,fun _=>.done,fun s=>[7].contains s,fun _=>false,[],fun _ _ _=>False⟩
def T175:aU:=⟨ty,aD,fun id=>if id=1 then(.aa 0 (.aa 1 (.aa 2 (.aa 3 (.aa 4 (.aa 5 (.aa 6 (.aa 7 (.aa 8 (.aq 9 [] (.aq 10 [] .done)))))))))))else .done,fun _=>false,fun _=>false,[],fun _ _ _=>False⟩
def T176:aU:=⟨ty,aD,fun id=>if id=1 then(.aa 0 (.aa 1 (.aa 2 (.aa 3 (.aa 4 (.aa 5 (.aa 6 (.aa 7 (.aa 8 (.aq 9 [] (.aq 10 [] .done)))))))))))else .done,fun _=>false,fun _=>false,[],fun _ _ _=>False⟩
def T177:aU:=⟨ty,aD,fun id=>if id=1 then(.aa 0 (.aa 1 (.aa 2 (.aa 3 (.aa 4 (.aa 5 (.aa 6 (.aq 7 [] (.aq 8 [] .done)))))))))else .done,fun _=>false,fun _=>false,[],fun _ _ _=>False⟩
def HZ:aU:=⟨ty,aD,fun _=>.done,fun _=>false,fun _=>false,[],fun _ _ _=>False⟩
def T179:aU:=⟨ty,aD,fun id=>if id=4 then(.aa 0 (.aa 1 (.aa 2 (.aa 3 (.aa 4 (.aa 5 (.aq 6 [] (.aq 7 [] .done))))))))else if id=5 then(.aa 0 (.aa 1 (.aa 2 (.aa 3 (.aa 4 (.aa 5 (.aq 6 [] (.aa 7 (.aa 8 (.aa 9 (.aq 10 [] (.aq 11 [] .done))))))))))))else .done,fun _=>false,fun _=>false,[],fun _ _ _=>False⟩
def T180:aU:=⟨ty,aD,fun id=>if id=1 then(.aa 0 (.aa 1 (.aa 2 (.aa 3 (.aa 4 (.aa 5 (.aa 6 (.aq 7 [0] (.aa 8 (.aa 9 (.aa 10 (.aa 11 (.aa 12 (.aq 13 [] (.aq 14 [] .done)))))))))))))))else .done,fun _=>false,fun _=>false,[],fun _ _ _=>False⟩
def T181:aU:=⟨ty,aD,fun _=>.done,fun _=>false,fun _=>false,[],fun _ _ _=>False⟩
def T182:aU:=⟨ty,aD,fun id=>if id=1 then(.aa 0 (.aa 1 (.aa 2 (.aa 3 (.aa 4 (.aa 5 (.aa 6 (.aq 7 [0] (.aa 8 (.aa 9 (.aa 10 (.aa 11 (.aa 12 (.aq 13 [] (.aq 14 [] .done)))))))))))))))else .done,fun _=>false,fun _=>false,[],fun _ _ _=>False⟩
def T183:aU:=⟨ty,aD,fun _=>.done,fun _=>false,fun _=>false,[],fun _ _ _=>False⟩
def xK:aU:=⟨ty,aD,fun _=>.done,fun _=>false,fun _=>false,[],fun _ _ _=>False⟩
def T185:aU:=⟨ty,aD,fun _=>.done,fun _=>false,fun _=>false,[],fun _ _ _=>False⟩
def T186:aU:=⟨ty,aD,fun _=>.done,fun _=>false,fun _=>false,[],fun _ _ _=>False⟩
def T187:aU:=⟨ty,aD,fun id=>if id=5 then(.aa 0 (.aa 1 (.aa 2 (.aa 3 (.aa 4 (.aa 5 (.aa 6 (.aa 7 (.aa 8 (.aq 9 [] (.aa 10 (.aa 11 (.aa 12 (.aq 13 [] (.aq 14 [] .done)))))))))))))))else .done,fun _=>false,fun _=>false,[],fun _ _ _=>False⟩
def T188:aU:=⟨ty,aD,fun _=>.done,fun s=>[4].contains s,fun _=>false,[],fun _ _ _=>False⟩
def T189:aU:=⟨ty,aD,fun id=>if id=2 then(.aa 0 (.aa 1 (.aa 2 (.aa 3 (.aa 4 (.aa 5 (.aa 6 (.aa 7 (.aa 8 (.aa 9 (.aq 10 [] (.aa 11 (.aa 12 (.aa 13 (.aq 14 [] (.aq 15 [] .done))))))))))))))))else if id=5 then(.aa 0 (.aa 1 (.aa 2 (.aa 3 (.aa 4 (.aa 5 (.aa 6 (.aa 7 (.aa 8 (.aa 9 (.aq 10 [] (.aa 11 (.aa 12 (.aa 13 (.aq 14 [] (.aq 15 [] .done))))))))))))))))else .done,fun _=>false,fun _=>false,[],fun _ _ _=>False⟩
def T190:aU:=⟨ty,aD,fun _=>.done,fun _=>false,fun _=>false,[],fun _ _ _=>False⟩
def T195:aU:=⟨ty,aD,fun _=>.done,fun _=>false,fun _=>false,[],fun _ _ _=>False⟩
def T196:aU:=⟨ty,aD,fun _=>.done,fun _=>false,fun _=>false,[],fun _ _ _=>False⟩
def T197:aU:=⟨ty,aD,fun id=>if id=9 then(.aa 0 (.aa 1 (.aa 2 (.aa 3 (.aa 4 (.aa 5 (.aa 6 (.aa 7 (.aa 8 (.aa 9 (.aa 10 (.aa 11 (.aa 12 (.aa 13 (.aa 14 (.aa 15 (.aa 16 .done)))))))))))))))))else .done,fun s=>[2,5].contains s,fun _=>false,[],fun _ _ _=>False⟩
def T198:aU:=⟨ty,aD,fun _=>.done,fun _=>false,fun _=>false,[],fun _ _ _=>False⟩
def T199:aU:=⟨ty,aD,fun id=>if id=5 then(.aa 0 (.aa 1 (.aa 2 (.aa 3 (.aa 4 (.aa 5 (.aa 6 (.aa 7 (.aa 8 (.aq 9 [] (.aq 10 [] .done)))))))))))else .done,fun s=>[3,4,6].contains s,fun _=>false,[],fun _ _ _=>False⟩
def CH:aU:=⟨ty,aD,fun _=>.done,fun _=>false,fun _=>false,[],fun _ _ _=>False⟩
def T201:aU:=⟨ty,aD,fun _=>.done,fun _=>false,fun _=>false,[],fun _ _ _=>False⟩
def T202:aU:=⟨ty,aD,fun _=>.done,fun _=>false,fun _=>false,[],fun _ _ _=>False⟩
def T203:aU:=⟨ty,aD,fun _=>.done,fun _=>false,fun _=>false,[],fun _ _ _=>False⟩
def T204:aU:=⟨ty,aD,fun _=>.done,fun _=>false,fun _=>false,[],fun _ _ _=>False⟩
def T207:aU:=⟨ty,aD,fun _=>.done,fun _=>false,fun _=>false,[],fun _ _ _=>False⟩
def Qo:aU:=⟨ty,aD,fun _=>.done,fun _=>false,fun _=>false,[],fun _ _ _=>False⟩
def T210:aU:=⟨ty,aD,fun _=>.done,fun _=>false,fun _=>false,[],fun _ _ _=>False⟩
def T211:aU:=⟨ty,aD,fun _=>.done,fun _=>false,fun _=>false,[],fun _ _ _=>False⟩
def T212:aU:=⟨ty,aD,fun _=>.done,fun _=>false,fun _=>false,[],fun _ _ _=>False⟩
def T213:aU:=⟨ty,aD,fun _=>.done,fun _=>false,fun _=>false,[],fun _ _ _=>False⟩
def T214:aU:=⟨ty,aD,fun _=>.done,fun _=>false,fun _=>false,[],fun _ _ _=>False⟩
def T215:aU:=⟨ty,aD,fun _=>.done,fun _=>false,fun _=>false,[],fun _ _ _=>False⟩
def T217:aU:=⟨ty,aD,fun _=>.done,fun _=>false,fun _=>false,[],fun _ _ _=>False⟩
def T218:aU:=⟨ty,aD,fun _=>.done,fun _=>false,fun _=>false,[],fun _ _ _=>False⟩
def T219:aU:=⟨ty,aD,fun _=>.done,fun _=>false,fun _=>false,[],fun _ _ _=>False⟩
def T220:aU:=⟨ty,aD,fun _=>.done,fun _=>false,fun _=>false,[],fun _ _ _=>False⟩
def T221:aU:=⟨ty,aD,fun _=>.done,fun _=>false,fun _=>false,[],fun _ _ _=>False⟩
def T226:aU:=⟨ty,aD,fun _=>.done,fun _=>false,fun _=>false,[],fun _ _ _=>False⟩
def T238:aU:=⟨ty,aD,fun _=>.done,fun _=>false,fun _=>false,[],fun _ _ _=>False⟩
def T239:aU:=⟨ty,aD,fun _=>.done,fun _=>false,fun _=>false,[],fun _ _ _=>False⟩
def T240:aU:=⟨ty,aD,fun _=>.done,fun _=>false,fun _=>false,[],fun _ _ _=>False⟩
def T241:aU:=⟨ty,aD,fun id=>if id=3 then(.aa 0 (.aa 1 (.aq 2 [0] (.aq 3 [0] (.aa 4 (.aq 5 [] .done))))))else .done,fun _=>false,fun _=>false,[],fun _ _ _=>False⟩
def T242:aU:=⟨ty,aD,fun _=>.done,fun s=>[2].contains s,fun _=>false,[],fun _ _ _=>False⟩
def T243:aU:=⟨ty,aD,fun _=>.done,fun _=>false,fun _=>false,[],fun _ _ _=>False⟩
def T244:aU:=⟨ty,aD,fun id=>if id=9 then(.aa 0 (.aa 1 (.aa 2 (.aa 3 (.aa 4 (.aa 5 (.aq 6 [] (.aa 7 (.aa 8 (.aa 9 (.aq 10 [] (.aq 11 [] .done))))))))))))else .done,fun s=>[4,5,6,7].contains s,fun _=>false,[],fun _ _ _=>False⟩
def T245:aU:=⟨ty,aD,fun _=>.done,fun _=>false,fun _=>false,[],fun _ _ _=>False⟩
def Qn:aU:=⟨ty,aD,fun _=>.done,fun _=>false,fun _=>false,[],fun _ _ _=>False⟩
def T247:aU:=⟨ty,aD,fun id=>if id=10 then(.aa 0 (.aa 1 (.aa 2 (.aa 3 (.aa 4 (.aa 5 (.aa 6 (.aa 7 (.aa 8 (.aa 9 (.aa 10 (.aa 11 (.aq 12 [] (.aq 13 [] .done))))))))))))))else if id=11 then(.aa 0 (.aa 1 (.aa 2 (.aa 3 (.aa 4 (.aa 5 (.aa 6 (.aa 7 (.aa 8 (.aa 9 (.aa 10 (.aa 11 (.aq 12 [] (.aq 13 [] .done))))))))))))))else .done,fun _=>false,fun _=>false,[],fun _ _ _=>False⟩
def T248:aU:=⟨ty,aD,fun _=>.done,fun _=>false,fun _=>false,[],fun _ _ _=>False⟩
def T249:aU:=⟨ty,aD,fun _=>.done,fun _=>false,fun _=>false,[],fun _ _ _=>False⟩
def T250:aU:=⟨ty,aD,fun id=>if id=1 then(.aa 0 (.aa 2 (.aa 3 (.fork (.aq 1 [] (.fork (.aq 4 [] (.aq 5 [] (.aq 6 [] .done))) (.aq 5 [] (.aq 4 [] (.aq 6 [] .done))))) (.aq 4 [] (.aq 1 [] (.aq 5 [] (.aq 6 [] .done))))))))else .done,fun _=>false,fun _=>false,[],fun _ _ _=>False⟩
def T251:aU:=⟨ty,aD,fun _=>.done,fun _=>false,fun _=>false,[],fun _ _ _=>False⟩
def T252:aU:=⟨ty,aD,fun _=>.done,fun _=>false,fun _=>false,[],fun _ _ _=>False⟩
def T254:aU:=⟨ty,aD,fun id=>if id=1 then(.aa 0 (.aa 1 (.aa 2 (.aa 3 (.aa 5 (.aa 6 (.aa 7 (.aa 8 (.aa 10 (.aa 11 (.aa 12 (.aa 13 (.aq 4 [13,11,8,6] (.aq 9 [13,11] (.aq 14 [] (.aq 15 [] (.aq 16 [] (.aq 17 [] .done))))))))))))))))))else .done,fun _=>false,fun _=>false,[],fun _ _ _=>False⟩
def T258:aU:=⟨ty,aD,fun _=>.done,fun _=>false,fun _=>false,[],fun _ _ _=>False⟩
def Qm:aU:=⟨ty,aD,fun _=>.done,fun _=>false,fun _=>false,[],fun _ _ _=>False⟩
def T260:aU:=⟨ty,aD,fun _=>.done,fun _=>false,fun _=>false,[],fun _ _ _=>False⟩
def T263:aU:=⟨ty,aD,fun _=>.done,fun _=>false,fun _=>false,[],fun _ _ _=>False⟩
def T264:aU:=⟨ty,aD,fun id=>if id=6 then(.aa 0 (.aa 1 (.aa 2 (.aa 3 (.aa 4 (.aa 5 (.aq 6 [4] (.aq 7 [] (.aa 8 (.aa 9 (.aq 10 [] .done)))))))))))else .done,fun _=>false,fun _=>false,[],fun _ _ _=>False⟩
def T274:aU:=⟨ty,aD,fun _=>.done,fun _=>false,fun _=>false,[],fun _ _ _=>False⟩
def T275:aU:=⟨ty,aD,fun id=>if id=3 then(.aa 0 (.aa 1 (.aq 2 [0] (.aa 3 (.aa 4 (.aa 5 (.aa 6 (.aa 7 (.aa 8 (.aa 9 (.aa 10 (.aa 11 (.aa 12 (.aa 13 (.aa 14 (.aa 15 (.aa 16 (.aa 17 (.aa 18 (.aq 19 [] .done))))))))))))))))))))else .done,fun _=>false,fun _=>false,[],fun _ _ _=>False⟩
def T276:aU:=⟨ty,aD,fun _=>.done,fun _=>false,fun _=>false,[],fun _ _ _=>False⟩
def T277:aU:=⟨ty,aD,fun _=>.done,fun _=>false,fun _=>false,[],fun _ _ _=>False⟩
def T278:aU:=⟨ty,aD,fun id=>if id=5 then(.aa 0 (.aa 1 (.aa 2 (.aa 3 (.aa 4 (.aa 5 (.aq 6 [] (.aa 7 .done))))))))else if id=8 then(.aa 0 (.aa 1 (.aa 2 (.aa 3 (.aa 4 (.aa 5 (.aa 6 (.aa 7 (.aa 8 (.aa 9 (.aa 10 (.aq 11 [] (.aa 12 (.aa 13 (.aq 14 [] (.aq 15 [] .done))))))))))))))))else .done,fun _=>false,fun _=>false,[],fun _ _ _=>False⟩
def T279:aU:=⟨ty,aD,fun id=>if id=1 then(.aa 0 (.aa 1 (.aa 3 (.aq 2 [3] (.aq 4 [] (.aq 5 [] .done))))))else .done,fun _=>false,fun _=>false,[],fun _ _ _=>False⟩
def T280:aU:=⟨ty,aD,fun id=>if id=1 then(.aa 0 (.aa 1 (.aa 2 (.aa 3 (.aa 4 (.aa 5 (.aa 6 (.aa 7 (.aa 8 (.aa 9 (.aq 10 [0] (.aa 11 (.aa 12 (.aa 13 (.aa 14 (.aa 15 (.aa 16 (.aq 17 [] (.aq 18 [] .done)))))))))))))))))))else .done,fun _=>false,fun _=>false,[],fun _ _ _=>False⟩
def T281:aU:=⟨ty,aD,fun id=>if id=2 then(.aa 0 (.aa 1 (.aa 2 (.aa 3 (.aa 4 (.aa 5 (.aa 6 (.aa 7 (.aa 8 (.aa 9 (.aa 10 (.aa 11 (.aa 12 (.aa 13 (.aa 14 (.aa 15 (.aa 16 (.aa 17 (.aa 18 (.aq 19 [] .done))))))))))))))))))))else if id=4 then(.aa 0 (.aa 1 (.aa 3 (.aa 4 (.aa 5 (.aa 6 (.aa 9 (.aq 2 [6,4] (.aq 7 [] (.aa 8 (.aq 10 [] .done)))))))))))else .done,fun _=>false,fun _=>false,[],fun _ _ _=>False⟩
def T282:aU:=⟨ty,aD,fun _=>.done,fun _=>false,fun _=>false,[],fun _ _ _=>False⟩
def T283:aU:=⟨ty,aD,fun id=>if id=5 then(.aa 0 (.aa 1 (.aa 2 (.aa 3 (.aa 4 (.aq 5 [2] (.aq 6 [] (.aq 7 [] .done))))))))else if id=12 then(.aa 0 (.aa 1 (.aa 2 (.aa 3 (.aa 4 (.aa 5 (.aa 6 (.aa 7 (.aa 8 (.aa 9 (.aa 10 (.aa 11 (.aq 12 [] (.aa 13 (.aa 14 (.aq 15 [] (.aq 16 [] .done)))))))))))))))))else if id=13 then(.aa 0 (.aa 1 (.aa 2 (.aa 3 (.aa 4 (.aa 5 (.aa 6 (.aa 7 (.aa 8 (.aa 9 (.aa 10 (.aa 11 (.aq 12 [] (.aa 13 (.aa 14 (.aq 15 [] (.aq 16 [] .done)))))))))))))))))else .done,fun _=>false,fun _=>false,[],fun _ _ _=>False⟩
def T284:aU:=⟨ty,aD,fun _=>.done,fun _=>false,fun _=>false,[],fun _ _ _=>False⟩
def T285:aU:=⟨ty,aD,fun _=>.done,fun _=>false,fun _=>false,[],fun _ _ _=>False⟩
def T286:aU:=⟨ty,aD,fun _=>.done,fun _=>false,fun _=>false,[],fun _ _ _=>False⟩
def T287:aU:=⟨ty,aD,fun _=>.done,fun _=>false,fun _=>false,[],fun _ _ _=>False⟩
def T290:aU:=⟨ty,aD,fun _=>.done,fun _=>false,fun _=>false,[],fun _ _ _=>False⟩
def T291:aU:=⟨ty,aD,fun _=>.done,fun _=>false,fun _=>false,[],fun _ _ _=>False⟩
def T293:aU:=⟨ty,aD,fun _=>.done,fun _=>false,fun _=>false,[],fun _ _ _=>False⟩
def T294:aU:=⟨ty,aD,fun _=>.done,fun _=>false,fun _=>false,[],fun _ _ _=>False⟩
def T295:aU:=⟨ty,aD,fun id=>if id=0 then(.aa 0 (.aa 1 (.aa 2 (.aa 3 (.aq 4 [] (.aq 5 [] .done))))))else .done,fun _=>false,fun _=>false,[],fun _ _ _=>False⟩
def T298:aU:=⟨ty,aD,fun _=>.done,fun _=>false,fun _=>false,[],fun _ _ _=>False⟩
def T303:aU:=⟨ty,aD,fun _=>.done,fun _=>false,fun _=>false,[],fun _ _ _=>False⟩
def T304:aU:=⟨ty,aD,fun _=>.done,fun _=>false,fun _=>false,[],fun _ _ _=>False⟩
def T305:aU:=⟨ty,aD,fun _=>.done,fun s=>[3].contains s,fun _=>false,[],fun _ _ _=>False⟩
def T306:aU:=⟨ty,aD,fun _=>.done,fun _=>false,fun _=>false,[],fun _ _ _=>False⟩
def T307:aU:=⟨ty,aD,fun _=>.done,fun _=>false,fun _=>false,[],fun _ _ _=>False⟩
def T308:aU:=⟨ty,aD,fun _=>.done,fun _=>false,fun _=>false,[],fun _ _ _=>False⟩
def T309:aU:=⟨ty,aD,fun id=>if id=9 then(.aa 0 (.aa 1 (.aa 2 (.aa 3 (.aa 4 (.aa 5 (.aa 6 (.aa 7 (.aa 8 (.aa 9 (.aa 10 (.aa 11 (.aa 13 (.aa 14 (.fork (.aq 12 [14,5,3] (.aq 15 [5,3] (.aq 16 [5,3] (.aq 17 [] .done)))) (.aq 15 [11,9,5,3] (.aq 12 [5,3] (.aq 16 [5,3] (.aq 17 [] .done)))))))))))))))))))else .done,fun s=>[10].contains s,fun _=>false,[],fun _ _ _=>False⟩
def T310:aU:=⟨ty,aD,fun id=>if id=6 then(.aa 0 (.aa 1 (.aa 2 (.aa 3 (.aa 4 (.aa 5 (.aa 6 (.aa 9 (.aq 7 [] (.aa 8 .done))))))))))else .done,fun _=>false,fun _=>false,[],fun _ _ _=>False⟩
def T311:aU:=⟨ty,aD,fun _=>.done,fun _=>false,fun _=>false,[],fun _ _ _=>False⟩
def T312:aU:=⟨ty,aD,fun _=>.done,fun _=>false,fun _=>false,[],fun _ _ _=>False⟩
def T313:aU:=⟨ty,aD,fun _=>.done,fun _=>false,fun _=>false,[],fun _ _ _=>False⟩
def T314:aU:=⟨ty,aD,fun _=>.done,fun _=>false,fun _=>false,[],fun _ _ _=>False⟩
def T315:aU:=⟨ty,aD,fun id=>if id=5 then(.aa 0 (.aa 1 (.aq 2 [0] (.aa 3 .done))))else .done,fun _=>false,fun _=>false,[],fun _ _ _=>False⟩
def T316:aU:=⟨ty,aD,fun _=>.done,fun _=>false,fun _=>false,[],fun _ _ _=>False⟩
def T318:aU:=⟨ty,aD,fun _=>.done,fun _=>false,fun _=>false,[],fun _ _ _=>False⟩
def T319:aU:=⟨ty,aD,fun _=>.done,fun _=>false,fun _=>false,[],fun _ _ _=>False⟩
def T320:aU:=⟨ty,aD,fun _=>.done,fun _=>false,fun _=>false,[],fun _ _ _=>False⟩
def T322:aU:=⟨ty,aD,fun _=>.done,fun _=>false,fun _=>false,[],fun _ _ _=>False⟩
def T323:aU:=⟨ty,aD,fun _=>.done,fun _=>false,fun _=>false,[],fun _ _ _=>False⟩
def Ql:aU:=⟨ty,aD,fun _=>.done,fun _=>false,fun _=>false,[],fun _ _ _=>False⟩
def T325:aU:=⟨ty,aD,fun _=>.done,fun _=>false,fun _=>false,[],fun _ _ _=>False⟩
def T326:aU:=⟨ty,aD,fun _=>.done,fun _=>false,fun _=>false,[],fun _ _ _=>False⟩
def T327:aU:=⟨ty,aD,fun _=>.done,fun _=>false,fun _=>false,[],fun _ _ _=>False⟩
def T328:aU:=⟨ty,aD,fun _=>.done,fun _=>false,fun _=>false,[],fun _ _ _=>False⟩
def T329:aU:=⟨ty,aD,fun _=>.done,fun _=>false,fun _=>false,[],fun _ _ _=>False⟩
def T330:aU:=⟨ty,aD,fun _=>.done,fun _=>false,fun _=>false,[],fun _ _ _=>False⟩
def T331:aU:=⟨ty,aD,fun _=>.done,fun _=>false,fun _=>false,[],fun _ _ _=>False⟩
def T332:aU:=⟨ty,aD,fun _=>.done,fun _=>false,fun _=>false,[],fun _ _ _=>False⟩
def T333:aU:=⟨ty,aD,fun _=>.done,fun _=>false,fun _=>false,[],fun _ _ _=>False⟩
def T343:aU:=⟨ty,aD,fun _=>.done,fun _=>false,fun _=>false,[],fun _ _ _=>False⟩
def T345:aU:=⟨ty,aD,fun _=>.done,fun _=>false,fun _=>false,[],fun _ _ _=>False⟩
def T353:aU:=⟨ty,aD,fun _=>.done,fun _=>false,fun _=>false,[],fun _ _ _=>False⟩
def T354:aU:=⟨ty,aD,fun _=>.done,fun _=>false,fun _=>false,[],fun _ _ _=>False⟩
def T355:aU:=⟨ty,aD,fun _=>.done,fun _=>false,fun _=>false,[],fun _ _ _=>False⟩
def T356:aU:=⟨ty,aD,fun id=>if id=1 then(.aa 0 (.aa 1 (.aa 2 (.aa 3 (.aa 4 (.aa 5 (.aa 6 (.aa 7 (.aa 8 (.aa 9 (.aa 10 (.aq 11 [] .done))))))))))))else .done,fun _=>false,fun _=>false,[],fun _ _ _=>False⟩
theorem S5{c:Prop}[Decidable c]{a b:Ti}{q:Prop}(ha:c->a=.none\/q)(hb:¬c->b=.none\/q):(if c then a else b)=.none\/q:=by
 by_cases h:c
 ·rw[if_pos h];exact ha h
 ·rw[if_neg h];exact hb h
theorem Se(t:Nat):ty t=.none\/t∈I1:=by
 unfold ty;repeat' (first
  |exact .inl rfl
  | (refine S5 (fun e=>?_) (fun e=>?_)))
 all_goals (right;rw[e];decide)
theorem Sf:I1.map ty=I1.map (Ts Tryz.prog):=by kernel_rfl
theorem VS:((List.range fnN).all fun f=>RL.contains f||(match Tryz.prog.funcs[f]? with
 |some fn=>fn.body.isSome&&decide (fn.name≠ "runtime.NumGoroutine")
 |none=>false))=true:=by kernel_rfl
theorem mixed:Tryz.prog.follows .mixedOrders=true:=by kernel_rfl
theorem lQ(pl:Nat->pF)(pb pn:Nat->Bool)(rs:List Nat)(kp:List PanicEntry->List SV->ad->Prop):dU Tryz.prog ⟨ty,aD,pl,pb,pn,rs,kp⟩where
 ty t:=by
  rcases Se t with h|h
  ·exact .inr h
  ·exact .inl (List.map_inj_left.1 Sf t h)
 fn f h:=by
  have h:aD f=true:=h;unfold aD at h;split at h
  ·rename_i aK;have h1:=List.all_eq_true.1 VS f (by simpa using aK);simp only[Bool.or_eq_true]at h1;rcases h1 with h1|h1
   ·rw[h1]at h;cases h
   ·split at h1
    ·rename_i fn ZN;simp only[Bool.and_eq_true,decide_eq_true_eq]at h1;exact⟨fn,ZN,h1.1,h1.2⟩
    ·cases h1
  ·cases h
 mixed:=mixed
theorem ar(pl:Nat->pF)(pb:Nat->Bool):dU Tryz.prog ⟨ty,aD,pl,pb,fun _=>false,[],fun _ _ _=>False⟩:=lQ pl pb _ _ _
end Go.S
