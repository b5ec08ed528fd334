import Derived.Test.YtekoaiendgjkdaaGreatProg
import Derived.Test.YtekoaiendgjkdaaGreatSxB
import Derived.KernelRfl
set_option linter.unusedVariables false
set_option linter.unusedSimpArgs false
set_option linter.unusedSectionVars false
namespace Go.S
open Go.Sx Go.Proofs
def y1:Ti:=⟨false,false,1,8,[.nilFunc],.fn⟩
def y2:Ti:=⟨false,false,1,8,[.int .i64 0],(.int .i64)⟩
def y3:Ti:=⟨false,false,1,8,[.int .i64 0],(.int .i64)⟩
def y4:Ti:=⟨false,false,1,1,[.bool false],.bool⟩
def y5:Ti:=⟨false,false,1,1,[.int .u8 0],(.int .u8)⟩
def y9:Ti:=⟨false,false,1,16,[.string ⟨#[]⟩],.str⟩
def y21:Ti:=⟨false,false,1,4,[.int .i32 0],(.int .i32)⟩
def y22:Ti:=⟨false,false,1,24,[.slice none 0 0],(.lP 24)⟩
def y24:Ti:=⟨true,true,4,32,[.int .i64 0,.int .i64 0,.int .i64 0,.int .i64 0],(.cF [(3,0),(3,1),(3,2),(3,3)])⟩
def y26:Ti:=⟨false,false,1,24,[.slice none 0 0],(.lP 51)⟩
def y27:Ti:=⟨false,false,1,24,[.slice none 0 0],(.lP 55)⟩
def y28:Ti:=⟨false,false,1,24,[.slice none 0 0],(.lP 205)⟩
def y30:Ti:=⟨false,true,2,48,[.slice none 0 0,.slice none 0 0],(.cF [(28,0),(28,1)])⟩
def y32:Ti:=⟨false,true,4,96,[.slice none 0 0,.slice none 0 0,.slice none 0 0,.slice none 0 0],(.cF [(26,0),(27,1),(30,2)])⟩
def y34:Ti:=⟨false,false,1,24,[.slice none 0 0],(.lP 59)⟩
def y35:Ti:=⟨false,false,1,8,[.int .i64 0],(.int .i64)⟩
def y38:Ti:=⟨false,false,1,24,[.slice none 0 0],(.lP 165)⟩
def y40:Ti:=⟨false,true,4,56,[.string ⟨#[]⟩,.slice none 0 0,.int .i64 0,.bool false],(.cF [(9,0),(38,1),(3,2),(4,3)])⟩
def y42:Ti:=⟨false,false,1,24,[.slice none 0 0],(.lP 325)⟩
def y43:Ti:=⟨false,false,1,24,[.slice none 0 0],(.lP 9)⟩
def y44:Ti:=⟨false,false,1,24,[.slice none 0 0],(.lP 42)⟩
def y45:Ti:=⟨false,false,1,24,[.slice none 0 0],(.lP 276)⟩
def y47:Ti:=⟨false,true,17,280,[.int .i64 0,.string ⟨#[]⟩,.slice none 0 0,.int .i64 0,.bool false,.string ⟨#[]⟩,.string ⟨#[]⟩,.slice none 0 0,.slice none 0 0,.slice none 0 0,.slice none 0 0,.slice none 0 0,.string ⟨#[]⟩,.string ⟨#[]⟩,.bool false,.int .i64 0,.string ⟨#[]⟩],(.cF [(3,0),(40,1),(9,5),(9,6),(42,7),(43,8),(44,9),(45,10),(42,11),(9,12),(9,13),(4,14),(3,15),(9,16)])⟩
def y51:Ti:=⟨false,true,5,80,[.string ⟨#[]⟩,.slice none 0 0,.int .i64 0,.bool false,.slice none 0 0],(.cF [(40,0),(34,4)])⟩
def y52:Ti:=⟨false,false,1,24,[.slice none 0 0],(.lP 148)⟩
def y53:Ti:=⟨false,false,1,24,[.slice none 0 0],(.lP 161)⟩
def y55:Ti:=⟨false,true,3,56,[.int .i64 0,.slice none 0 0,.slice none 0 0],(.cF [(3,0),(52,1),(53,2)])⟩
def y59:Ti:=⟨false,false,1,24,[.slice none 0 0],(.lP 61)⟩
def y61:Ti:=⟨true,true,3,32,[.int .i64 0,.int .i64 0,.string ⟨#[]⟩],(.cF [(3,0),(3,1),(9,2)])⟩
def y64:Ti:=⟨false,false,1,24,[.slice none 0 0],(.lP 156)⟩
def y65:Ti:=⟨false,false,1,24,[.slice none 0 0],(.lP 145)⟩
def y66:Ti:=⟨false,false,1,24,[.slice none 0 0],(.lP 235)⟩
def y68:Ti:=⟨false,true,2,48,[.slice none 0 0,.slice none 0 0],(.cF [(66,0),(66,1)])⟩
def y70:Ti:=⟨false,true,4,96,[.slice none 0 0,.slice none 0 0,.slice none 0 0,.slice none 0 0],(.cF [(64,0),(65,1),(68,2)])⟩
def y77:Ti:=⟨false,false,1,24,[.slice none 0 0],(.lP 35)⟩
def y80:Ti:=⟨false,false,1,24,[.slice none 0 0],(.lP 4)⟩
def y99:Ti:=⟨false,false,1,8,[.pointer none],(.ptr 101)⟩
def y101:Ti:=⟨false,true,22,384,[.slice none 0 0,.slice none 0 0,.slice none 0 0,.slice none 0 0,.int .i64 0,.int .i64 0,.string ⟨#[]⟩,.slice none 0 0,.int .i64 0,.bool false,.string ⟨#[]⟩,.string ⟨#[]⟩,.slice none 0 0,.slice none 0 0,.slice none 0 0,.slice none 0 0,.slice none 0 0,.string ⟨#[]⟩,.string ⟨#[]⟩,.bool false,.int .i64 0,.string ⟨#[]⟩],(.cF [(32,0),(3,4),(47,5)])⟩
def y102:Ti:=⟨false,false,1,8,[.nilFunc],.fn⟩
def y104:Ti:=⟨false,false,1,8,[.map none],(.mp 3 102)⟩
def y109:Ti:=⟨false,false,1,8,[.pointer none],(.ptr 128)⟩
def y116:Ti:=⟨true,true,0,0,[],(.cF [])⟩
def y117:Ti:=⟨true,true,0,0,[],(.cF [])⟩
def y118:Ti:=⟨false,false,1,4,[.int .u32 0],(.int .u32)⟩
def y120:Ti:=⟨false,true,1,4,[.int .u32 0],(.cF [(117,0),(118,0)])⟩
def y122:Ti:=⟨true,true,2,8,[.int .i32 0,.int .u32 0],(.cF [(21,0),(118,1)])⟩
def y124:Ti:=⟨false,true,2,8,[.int .i32 0,.int .u32 0],(.cF [(116,0),(122,0)])⟩
def y126:Ti:=⟨false,true,3,12,[.int .u32 0,.int .i32 0,.int .u32 0],(.cF [(116,0),(120,0),(124,1)])⟩
def y128:Ti:=⟨false,true,8,120,[.slice none 0 0,.slice none 0 0,.slice none 0 0,.slice none 0 0,.int .u32 0,.int .i32 0,.int .u32 0,.int .i64 0],(.cF [(32,0),(126,4),(35,7)])⟩
def y130:Ti:=⟨false,false,1,8,[.int .u64 0],(.int .u64)⟩
def y131:Ti:=⟨false,false,1,24,[.slice none 0 0],(.lP 139)⟩
def y134:Ti:=⟨false,false,1,8,[.pointer none],(.ptr 136)⟩
def y136:Ti:=⟨false,true,4,64,[.slice none 0 0,.int .i64 0,.int .i64 0,.slice none 0 0],(.cF [(131,0),(3,1),(3,2),(42,3)])⟩
def y139:Ti:=⟨true,true,3,32,[.int .i64 0,.int .i64 0,.string ⟨#[]⟩],(.cF [(3,0),(3,1),(9,2)])⟩
def y143:Ti:=⟨false,false,1,24,[.slice none 0 0],(.lP 162)⟩
def y145:Ti:=⟨false,true,3,56,[.int .i64 0,.slice none 0 0,.slice none 0 0],(.cF [(3,0),(52,1),(143,2)])⟩
def y148:Ti:=⟨false,true,3,48,[.string ⟨#[]⟩,.int .i64 0,.slice none 0 0],(.cF [(9,0),(3,1),(59,2)])⟩
def y149:Ti:=⟨false,false,1,8,[.nilFunc],.fn⟩
def y156:Ti:=⟨false,true,5,80,[.string ⟨#[]⟩,.slice none 0 0,.int .i64 0,.bool false,.slice none 0 0],(.cF [(40,0),(34,4)])⟩
def y161:Ti:=⟨true,true,2,24,[.string ⟨#[]⟩,.int .i64 0],(.cF [(9,0),(3,1)])⟩
def y162:Ti:=⟨true,true,2,24,[.string ⟨#[]⟩,.int .i64 0],(.cF [(9,0),(3,1)])⟩
def y165:Ti:=⟨true,true,3,32,[.string ⟨#[]⟩,.int .i64 0,.bool false],(.cF [(9,0),(3,1),(4,2)])⟩
def y173:Ti:=⟨false,false,1,8,[.nilFunc],.fn⟩
def y179:Ti:=⟨false,false,1,8,[.nilFunc],.fn⟩
def y180:Ti:=⟨false,false,1,8,[.nilFunc],.fn⟩
def y182:Ti:=⟨false,false,1,8,[.nilFunc],.fn⟩
def y184:Ti:=⟨false,false,1,8,[.nilFunc],.fn⟩
def y186:Ti:=⟨false,false,1,8,[.pointer none],(.ptr 188)⟩
def y188:Ti:=⟨false,true,21,328,[.int .i64 0,.string ⟨#[]⟩,.slice none 0 0,.int .i64 0,.bool false,.string ⟨#[]⟩,.string ⟨#[]⟩,.slice none 0 0,.slice none 0 0,.slice none 0 0,.slice none 0 0,.slice none 0 0,.string ⟨#[]⟩,.string ⟨#[]⟩,.bool false,.int .i64 0,.string ⟨#[]⟩,.slice none 0 0,.int .i64 0,.int .i64 0,.bool false],(.cF [(47,0),(38,17),(3,18),(3,19),(4,20)])⟩
def y194:Ti:=⟨false,false,1,8,[.nilFunc],.fn⟩
def y199:Ti:=⟨false,false,1,8,[.nilFunc],.fn⟩
def y202:Ti:=⟨false,false,1,8,[.nilFunc],.fn⟩
def y205:Ti:=⟨true,true,3,32,[.int .i64 0,.string ⟨#[]⟩,.bool false],(.cF [(3,0),(9,1),(4,2)])⟩
def y208:Ti:=⟨false,false,1,24,[.slice none 0 0],(.lP 5)⟩
def y235:Ti:=⟨true,true,3,32,[.int .i64 0,.string ⟨#[]⟩,.bool false],(.cF [(3,0),(9,1),(4,2)])⟩
def y240:Ti:=⟨false,false,1,24,[.slice none 0 0],(.lP 3)⟩
def y248:Ti:=⟨false,false,1,8,[.map none],(.mp 9 4)⟩
def y250:Ti:=⟨false,true,4,24,[.int .u32 0,.int .i32 0,.int .u32 0,.map none],(.cF [(126,0),(248,3)])⟩
def y252:Ti:=⟨false,false,1,8,[.nilFunc],.fn⟩
def y263:Ti:=⟨false,false,1,8,[.nilFunc],.fn⟩
def y264:Ti:=⟨false,false,1,8,[.nilFunc],.fn⟩
def y272:Ti:=⟨false,false,1,8,[.nilFunc],.fn⟩
def y276:Ti:=⟨false,true,2,32,[.int .i64 0,.slice none 0 0],(.cF [(3,0),(42,1)])⟩
def y277:Ti:=⟨false,false,1,8,[.nilFunc],.fn⟩
def y280:Ti:=⟨false,false,1,24,[.slice none 0 0],(.lP 173)⟩
def y282:Ti:=⟨false,false,1,8,[.nilFunc],.fn⟩
def y284:Ti:=⟨false,false,1,8,[.nilFunc],.fn⟩
def y288:Ti:=⟨false,false,1,8,[.nilFunc],.fn⟩
def y291:Ti:=⟨false,false,1,24,[.slice none 0 0],(.lP 34)⟩
def y298:Ti:=⟨false,false,1,8,[.nilFunc],.fn⟩
def y302:Ti:=⟨false,false,1,8,[.int .u64 0],(.int .u64)⟩
def y325:Ti:=⟨false,true,7,72,[.int .i64 0,.int .i64 0,.int .i64 0,.int .i64 0,.int .i64 0,.string ⟨#[]⟩,.string ⟨#[]⟩],(.cF [(3,0),(3,1),(3,2),(61,3),(9,6)])⟩
def y332:Ti:=⟨false,false,1,8,[.pointer none],(.ptr 250)⟩
def y333:Ti:=⟨false,false,1,8,[.nilFunc],.fn⟩
def y335:Ti:=⟨false,true,5,80,[.string ⟨#[]⟩,.slice none 0 0,.int .i64 0,.bool false,.slice none 0 0],(.cF [(51,0)])⟩
def y351:Ti:=⟨false,false,1,8,[.pointer none],(.ptr 126)⟩
def y366:Ti:=⟨false,false,1,8,[.nilFunc],.fn⟩
def y377:Ti:=⟨false,false,1,8,[.pointer none],(.ptr 120)⟩
def y379:Ti:=⟨false,false,1,8,[.pointer none],(.ptr 118)⟩
def y387:Ti:=⟨false,false,1,8,[.nilFunc],.fn⟩
def y389:Ti:=⟨false,false,1,8,[.pointer none],(.ptr 407)⟩
def y391:Ti:=⟨false,false,1,8,[.map none],(.mp 3 4)⟩
def y397:Ti:=⟨false,false,1,8,[.pointer none],(.ptr 124)⟩
def y401:Ti:=⟨false,false,1,24,[.slice none 0 0],(.lP 28)⟩
def y402:Ti:=⟨false,false,1,8,[.map none],(.mp 3 240)⟩
def y403:Ti:=⟨true,true,0,0,[],(.cF [])⟩
def y405:Ti:=⟨false,true,1,8,[.int .i64 0],(.cF [(117,0),(403,0),(2,0)])⟩
def y407:Ti:=⟨false,true,2,16,[.map none,.int .i64 0],(.cF [(402,0),(405,1)])⟩
def y412:Ti:=⟨false,false,1,8,[.pointer none],(.ptr 122)⟩
def y414:Ti:=⟨false,false,1,8,[.pointer none],(.ptr 21)⟩
def y416:Ti:=⟨false,false,1,8,[.pointer none],.oth⟩
def y419:Ti:=⟨false,false,1,8,[.pointer none],(.ptr 405)⟩
def y421:Ti:=⟨false,false,1,8,[.pointer none],(.ptr 2)⟩
def ty(t:Nat):Ti:=if t<148 then(if t<61 then(if t<34 then(if t<22 then(if t<4 then(if t<2 then(if t=1 then y1 else .none)else(if t<3 then(if t=2 then y2 else .none)else(if t=3 then y3 else .none)))else(if t<9 then(if t<5 then(if t=4 then y4 else .none)else(if t=5 then y5 else .none))else(if t<21 then(if t=9 then y9 else .none)else(if t=21 then y21 else .none))))else(if t<27 then(if t<24 then(if t=22 then y22 else .none)else(if t<26 then(if t=24 then y24 else .none)else(if t=26 then y26 else .none)))else(if t<30 then(if t<28 then(if t=27 then y27 else .none)else(if t=28 then y28 else .none))else(if t<32 then(if t=30 then y30 else .none)else(if t=32 then y32 else .none)))))else(if t<45 then(if t<40 then(if t<35 then(if t=34 then y34 else .none)else(if t<38 then(if t=35 then y35 else .none)else(if t=38 then y38 else .none)))else(if t<43 then(if t<42 then(if t=40 then y40 else .none)else(if t=42 then y42 else .none))else(if t<44 then(if t=43 then y43 else .none)else(if t=44 then y44 else .none))))else(if t<52 then(if t<47 then(if t=45 then y45 else .none)else(if t<51 then(if t=47 then y47 else .none)else(if t=51 then y51 else .none)))else(if t<55 then(if t<53 then(if t=52 then y52 else .none)else(if t=53 then y53 else .none))else(if t<59 then(if t=55 then y55 else .none)else(if t=59 then y59 else .none))))))else(if t<117 then(if t<80 then(if t<66 then(if t<64 then(if t=61 then y61 else .none)else(if t<65 then(if t=64 then y64 else .none)else(if t=65 then y65 else .none)))else(if t<70 then(if t<68 then(if t=66 then y66 else .none)else(if t=68 then y68 else .none))else(if t<77 then(if t=70 then y70 else .none)else(if t=77 then y77 else .none))))else(if t<102 then(if t<99 then(if t=80 then y80 else .none)else(if t<101 then(if t=99 then y99 else .none)else(if t=101 then y101 else .none)))else(if t<109 then(if t<104 then(if t=102 then y102 else .none)else(if t=104 then y104 else .none))else(if t<116 then(if t=109 then y109 else .none)else(if t=116 then y116 else .none)))))else(if t<130 then(if t<122 then(if t<118 then(if t=117 then y117 else .none)else(if t<120 then(if t=118 then y118 else .none)else(if t=120 then y120 else .none)))else(if t<126 then(if t<124 then(if t=122 then y122 else .none)else(if t=124 then y124 else .none))else(if t<128 then(if t=126 then y126 else .none)else(if t=128 then y128 else .none))))else(if t<136 then(if t<131 then(if t=130 then y130 else .none)else(if t<134 then(if t=131 then y131 else .none)else(if t=134 then y134 else .none)))else(if t<143 then(if t<139 then(if t=136 then y136 else .none)else(if t=139 then y139 else .none))else(if t<145 then(if t=143 then y143 else .none)else(if t=145 then y145 else .none)))))))else(if t<280 then(if t<199 then(if t<179 then(if t<161 then(if t<149 then(if t=148 then y148 else .none)else(if t<156 then(if t=149 then y149 else .none)else(if t=156 then y156 else .none)))else(if t<165 then(if t<162 then(if t=161 then y161 else .none)else(if t=162 then y162 else .none))else(if t<173 then(if t=165 then y165 else .none)else(if t=173 then y173 else .none))))else(if t<184 then(if t<180 then(if t=179 then y179 else .none)else(if t<182 then(if t=180 then y180 else .none)else(if t=182 then y182 else .none)))else(if t<188 then(if t<186 then(if t=184 then y184 else .none)else(if t=186 then y186 else .none))else(if t<194 then(if t=188 then y188 else .none)else(if t=194 then y194 else .none)))))else(if t<250 then(if t<208 then(if t<202 then(if t=199 then y199 else .none)else(if t<205 then(if t=202 then y202 else .none)else(if t=205 then y205 else .none)))else(if t<240 then(if t<235 then(if t=208 then y208 else .none)else(if t=235 then y235 else .none))else(if t<248 then(if t=240 then y240 else .none)else(if t=248 then y248 else .none))))else(if t<264 then(if t<252 then(if t=250 then y250 else .none)else(if t<263 then(if t=252 then y252 else .none)else(if t=263 then y263 else .none)))else(if t<276 then(if t<272 then(if t=264 then y264 else .none)else(if t=272 then y272 else .none))else(if t<277 then(if t=276 then y276 else .none)else(if t=277 then y277 else .none))))))else(if t<379 then(if t<325 then(if t<288 then(if t<282 then(if t=280 then y280 else .none)else(if t<284 then(if t=282 then y282 else .none)else(if t=284 then y284 else .none)))else(if t<298 then(if t<291 then(if t=288 then y288 else .none)else(if t=291 then y291 else .none))else(if t<302 then(if t=298 then y298 else .none)else(if t=302 then y302 else .none))))else(if t<335 then(if t<332 then(if t=325 then y325 else .none)else(if t<333 then(if t=332 then y332 else .none)else(if t=333 then y333 else .none)))else(if t<366 then(if t<351 then(if t=335 then y335 else .none)else(if t=351 then y351 else .none))else(if t<377 then(if t=366 then y366 else .none)else(if t=377 then y377 else .none)))))else(if t<403 then(if t<391 then(if t<387 then(if t=379 then y379 else .none)else(if t<389 then(if t=387 then y387 else .none)else(if t=389 then y389 else .none)))else(if t<401 then(if t<397 then(if t=391 then y391 else .none)else(if t=397 then y397 else .none))else(if t<402 then(if t=401 then y401 else .none)else(if t=402 then y402 else .none))))else(if t<414 then(if t<407 then(if t<405 then(if t=403 then y403 else .none)else(if t=405 then y405 else .none))else(if t<412 then(if t=407 then y407 else .none)else(if t=412 then y412 else .none)))else(if t<419 then(if t<416 then(if t=414 then y414 else .none)else(if t=416 then y416 else .none))else(if t<421 then(if t=419 then y419 else .none)else(if t=421 then y421 else .none)))))))
def Ha:List Nat:=[1,2,3,4,5,9,21,22,24,26,27,28,30,32,34,35,38,40,42,43,44,45,47,51,52,53,55,59,61,64,65,66,68,70,77,80,99,101,102,104,109,116,117,118,120,122,124,126,128,130,131,134,136,139,143,145,148,149,156,161,162,165,173,179,180,182,184,186,188,194,199,202,205,208,235,240,248,250,252,263,264,272,276,277,280,282,284,288,291,298,302,325,332,333,335,351,366,377,379,387,389,391,397,401,402,403,405,407,412,414,416,419,421]
def Pw:List Nat:=[0,1,117,205,292,296,321,335,336,337,338,340,341,344,346,347,348,349,350,351,352,357,358,359,360,361,362,363,364,365,366,367,368,369,370,371,372,373,374]
def fnN:Nat:=375
def aA(f:Nat):Bool:=if f<fnN then !Pw.contains f else false
def T12:aS:=⟨ty,aA,fun _=>.done,fun _=>false,fun _=>false,[],fun _ _ _=>False⟩
def T17:aS:=⟨ty,aA,fun _=>.done,fun _=>false,fun _=>false,[],fun _ _ _=>False⟩
def T19:aS:=⟨ty,aA,fun _=>.done,fun s=>[79].contains s,fun _=>false,[],fun _ _ _=>False⟩
def T22:aS:=⟨ty,aA,fun _=>.done,fun _=>false,fun _=>false,[],fun _ _ _=>False⟩
def T23:aS:=⟨ty,aA,fun _=>.done,fun _=>false,fun _=>false,[],fun _ _ _=>False⟩
def T24:aS:=⟨ty,aA,fun id=>if id=5 then(.aa 0 (.aa 1 (.ao 2 [0] (.ao 3 [] (.aa 4 (.aa 5 (.aa 6 (.ao 7 [] .done))))))))else if id=6 then(.aa 0 (.aa 1 (.ao 2 [0] (.ao 3 [] (.aa 4 (.aa 5 (.aa 6 (.ao 7 [] .done))))))))else if id=7 then(.aa 0 (.aa 1 (.ao 2 [1] (.ao 3 [] .done))))else .done,fun _=>false,fun _=>false,[],fun _ _ _=>False⟩
def T25:aS:=⟨ty,aA,fun _=>.done,fun _=>false,fun _=>false,[],fun _ _ _=>False⟩
def T30:aS:=⟨ty,aA,fun id=>if id=6 then(.aa 0 (.aa 1 (.aa 2 (.aa 3 (.aa 4 (.aa 5 (.aa 6 (.aa 7 (.aa 8 (.aa 9 (.aa 10 (.aa 11 (.aa 12 (.aa 13 (.aa 14 (.aa 15 (.aa 16 (.aa 17 (.aa 18 .done)))))))))))))))))))else if id=14 then(.aa 0 (.aa 1 (.aa 2 (.aa 3 (.aa 4 (.ao 5 [4] (.ao 6 [] .done)))))))else .done,fun s=>[22].contains s,fun _=>false,[],fun _ _ _=>False⟩
def T38:aS:=⟨ty,aA,fun _=>.done,fun _=>false,fun _=>false,[],fun _ _ _=>False⟩
def T39:aS:=⟨ty,aA,fun id=>if id=10 then(.aa 0 (.aa 1 (.aa 2 (.aa 3 (.aa 4 (.aa 5 (.aa 6 (.aa 7 (.aa 8 (.aa 9 (.aa 10 (.aa 11 (.ao 12 [4] (.ao 13 [] (.aa 14 (.aa 15 (.ao 16 [] .done)))))))))))))))))else .done,fun _=>false,fun _=>false,[],fun _ _ _=>False⟩
def T40:aS:=⟨ty,aA,fun id=>if id=11 then(.aa 0 (.aa 1 (.aa 2 (.aa 3 (.aa 4 (.aa 5 (.aa 6 (.aa 7 (.aa 8 (.aa 9 (.aa 10 (.aa 11 (.ao 12 [] .done)))))))))))))else .done,fun _=>false,fun _=>false,[],fun _ _ _=>False⟩
def T41:aS:=⟨ty,aA,fun id=>if id=1 then(.aa 0 (.aa 1 (.aa 2 (.aa 3 (.aa 4 (.aa 5 (.ao 6 [] (.ao 7 [] .done))))))))else .done,fun s=>[1].contains s,fun _=>false,[],fun _ _ _=>False⟩
def T42:aS:=⟨ty,aA,fun id=>if id=1 then(.aa 0 (.aa 1 (.aa 2 (.aa 3 (.aa 4 (.aa 5 (.ao 6 [] (.ao 7 [] .done))))))))else if id=4 then(.aa 0 (.aa 1 (.aa 2 (.aa 3 (.aa 4 (.aa 5 (.fork (.ao 6 [] (.ao 7 [] (.ao 8 [] .done))) (.ao 7 [5,1,0] (.ao 6 [] (.ao 8 [] .done))))))))))else .done,fun s=>[1,5].contains s,fun _=>false,[],fun _ _ _=>False⟩
def T43:aS:=⟨ty,aA,fun id=>if id=1 then(.aa 0 (.aa 1 (.aa 2 (.aa 3 (.aa 4 (.aa 5 (.ao 6 [] (.ao 7 [] .done))))))))else if id=4 then(.aa 0 (.aa 1 (.aa 2 (.aa 3 (.aa 4 (.aa 5 (.fork (.ao 6 [] (.ao 7 [] (.ao 8 [] .done))) (.ao 7 [5,1,0] (.ao 6 [] (.ao 8 [] .done))))))))))else .done,fun s=>[1,5].contains s,fun _=>false,[],fun _ _ _=>False⟩
def T44:aS:=⟨ty,aA,fun id=>if id=1 then(.aa 0 (.aa 1 (.aa 2 (.aa 3 (.aa 4 (.aa 5 (.aa 6 (.aa 7 (.aa 8 (.aa 9 (.aa 10 .done)))))))))))else if id=3 then(.aa 0 (.aa 1 (.aa 2 (.aa 3 (.aa 4 (.aa 5 (.aa 6 (.aa 7 (.aa 8 (.aa 9 (.ao 10 [] (.ao 11 [] .done))))))))))))else if id=11 then(.aa 0 (.aa 1 (.aa 2 (.aa 3 (.aa 4 (.aa 5 (.aa 7 (.ao 6 [] (.ao 8 [] .done)))))))))else if id=14 then(.aa 0 (.aa 1 (.aa 2 (.aa 3 (.aa 4 (.aa 5 (.ao 6 [] (.ao 7 [] .done))))))))else if id=15 then(.aa 0 (.aa 1 (.aa 3 (.ao 2 [3] (.ao 4 [] (.ao 5 [] (.aa 6 (.aa 7 (.ao 8 [] .done)))))))))else .done,fun s=>[1,56].contains s,fun _=>false,[],fun _ _ _=>False⟩
def T45:aS:=⟨ty,aA,fun id=>if id=11 then(.aa 0 (.aa 2 (.aa 3 (.aa 4 (.aa 5 (.ao 1 [5] (.ao 6 [5] (.ao 7 [] .done))))))))else if id=12 then(.aa 0 (.aa 1 (.aa 2 (.aa 3 (.aa 4 (.aa 5 (.aa 6 (.aa 7 (.aa 8 (.ao 9 [5] (.ao 10 [5] (.ao 11 [] (.aa 12 (.aa 13 (.aa 14 (.ao 15 [] .done))))))))))))))))else .done,fun _=>false,fun _=>false,[],fun _ _ _=>False⟩
def T46:aS:=⟨ty,aA,fun _=>.done,fun _=>false,fun _=>false,[],fun _ _ _=>False⟩
def T47:aS:=⟨ty,aA,fun id=>if id=11 then(.aa 0 (.aa 1 (.aa 2 (.aa 3 (.aa 4 (.aa 5 (.aa 6 (.aa 7 (.aa 8 (.aa 9 (.aa 10 (.aa 11 (.aa 12 (.aa 13 (.aa 14 (.ao 15 [] (.aa 16 .done)))))))))))))))))else .done,fun _=>false,fun _=>false,[],fun _ _ _=>False⟩
def T48:aS:=⟨ty,aA,fun _=>.done,fun s=>[6].contains s,fun _=>false,[],fun _ _ _=>False⟩
def T49:aS:=⟨ty,aA,fun _=>.done,fun _=>false,fun _=>false,[],fun _ _ _=>False⟩
def T50:aS:=⟨ty,aA,fun id=>if id=1 then(.aa 0 (.aa 1 (.aa 3 (.aa 4 (.aa 6 (.aa 7 (.aa 8 (.aa 10 (.aa 11 (.aa 12 (.ao 2 [12,8,4] (.ao 5 [12,8] (.ao 9 [12] (.ao 13 [] (.aa 14 (.aa 15 (.ao 16 [] .done)))))))))))))))))else .done,fun _=>false,fun _=>false,[],fun _ _ _=>False⟩
def T51:aS:=⟨ty,aA,fun id=>if id=11 then(.aa 0 (.aa 1 (.aa 2 (.aa 3 (.aa 4 (.aa 5 (.aa 6 (.aa 7 (.ao 8 [] .done)))))))))else if id=15 then(.aa 0 (.aa 1 (.aa 2 (.aa 3 (.aa 4 (.aa 5 (.aa 6 (.aa 7 (.ao 8 [] .done)))))))))else .done,fun _=>false,fun _=>false,[],fun _ _ _=>False⟩
def T54:aS:=⟨ty,aA,fun _=>.done,fun _=>false,fun _=>false,[],fun _ _ _=>False⟩
def T55:aS:=⟨ty,aA,fun _=>.done,fun _=>false,fun _=>false,[],fun _ _ _=>False⟩
def T56:aS:=⟨ty,aA,fun _=>.done,fun _=>false,fun _=>false,[],fun _ _ _=>False⟩
def T57:aS:=⟨ty,aA,fun _=>.done,fun _=>false,fun _=>false,[],fun _ _ _=>False⟩
def T59:aS:=⟨ty,aA,fun _=>.done,fun _=>false,fun _=>false,[],fun _ _ _=>False⟩
def T60:aS:=⟨ty,aA,fun _=>.done,fun _=>false,fun _=>false,[],fun _ _ _=>False⟩
def T61:aS:=⟨ty,aA,fun _=>.done,fun _=>false,fun _=>false,[],fun _ _ _=>False⟩
def T76:aS:=⟨ty,aA,fun _=>.done,fun _=>false,fun _=>false,[],fun _ _ _=>False⟩
def T77:aS:=⟨ty,aA,fun _=>.done,fun s=>[3].contains s,fun _=>false,[],fun _ _ _=>False⟩
def T78:aS:=⟨ty,aA,fun id=>if id=2 then(.aa 0 (.aa 1 (.aa 2 (.aa 3 (.aa 4 (.aa 5 (.aa 6 (.aa 7 (.aa 8 (.aa 9 (.aa 10 (.aa 11 (.aa 12 (.ao 13 [] .done))))))))))))))else if id=8 then(.aa 0 (.aa 1 (.aa 2 (.aa 3 (.aa 4 (.aa 5 (.ao 6 [] (.aa 7 (.aa 8 (.aa 9 (.aa 10 (.ao 11 [] .done))))))))))))else if id=9 then(.aa 0 (.aa 1 (.aa 2 (.aa 3 (.aa 4 (.aa 5 (.aa 6 (.aa 7 (.aa 8 (.aa 9 (.aa 10 (.aa 11 (.aa 12 (.aa 13 (.aa 14 (.aa 15 (.aa 16 .done)))))))))))))))))else if id=10 then(.aa 0 (.aa 1 (.aa 2 (.aa 3 (.aa 4 (.aa 5 (.aa 6 (.aa 7 (.aa 8 (.aa 9 (.aa 10 (.aa 11 (.aa 12 (.ao 13 [] (.aa 14 (.aa 15 (.aa 16 (.aa 17 (.aa 18 (.ao 19 [] .done))))))))))))))))))))else if id=11 then(.aa 0 (.aa 1 (.aa 2 (.aa 3 (.aa 4 (.aa 5 (.aa 6 (.aa 7 (.aa 8 (.aa 9 (.aa 10 (.aa 11 (.aa 12 (.aa 13 (.aa 14 (.aa 15 (.ao 16 [] .done)))))))))))))))))else .done,fun _=>false,fun _=>false,[],fun _ _ _=>False⟩
def T79:aS:=⟨ty,aA,fun id=>if id=1 then(.aa 0 (.aa 1 (.aa 2 (.aa 3 (.aa 4 (.aa 5 (.aa 6 (.aa 7 (.aa 8 (.aa 9 (.aa 10 (.ao 11 [] (.aa 12 (.aa 13 (.aa 14 (.aa 15 (.aa 16 (.ao 17 [] (.ao 18 [] .done)))))))))))))))))))else .done,fun _=>false,fun _=>false,[],fun _ _ _=>False⟩
def UC:aS:=⟨ty,aA,fun _=>.done,fun s=>[2,5,6].contains s,fun _=>false,[],fun _ _ _=>False⟩
def T81:aS:=⟨ty,aA,fun id=>if id=3 then(.aa 0 (.aa 1 (.aa 2 (.aa 3 (.aa 4 (.aa 5 (.aa 6 (.aa 7 (.aa 8 (.aa 9 (.aa 10 (.aa 11 (.aa 12 (.aa 13 (.aa 14 (.ao 15 [0] (.aa 16 (.aa 17 (.aa 18 (.aa 19 (.aa 20 (.ao 21 [] (.ao 22 [] .done)))))))))))))))))))))))else .done,fun _=>false,fun _=>false,[],fun _ _ _=>False⟩
def T82:aS:=⟨ty,aA,fun _=>.done,fun s=>[4,5,8].contains s,fun _=>false,[],fun _ _ _=>False⟩
def T83:aS:=⟨ty,aA,fun _=>.done,fun s=>[7].contains s,fun _=>false,[],fun _ _ _=>False⟩
def T84:aS:=⟨ty,aA,fun _=>.done,fun _=>false,fun _=>false,[],fun _ _ _=>False⟩
def T85:aS:=⟨ty,aA,fun _=>.done,fun s=>[4].contains s,fun _=>false,[],fun _ _ _=>False⟩
def T86:aS:=⟨ty,aA,fun id=>if id=6 then(.aa 0 (.aa 1 (.aa 2 (.aa 3 (.aa 4 (.aa 5 (.aa 6 (.aa 7 (.aa 8 (.aa 9 (.aa 10 (.aa 11 (.aa 12 (.aa 13 (.aa 14 (.aa 15 (.aa 16 .done)))))))))))))))))else if id=9 then(.aa 0 (.aa 1 (.aa 2 (.aa 3 (.aa 4 (.aa 5 (.aa 6 (.aa 7 (.aa 8 (.aa 9 (.aa 10 (.aa 11 (.ao 12 [] (.ao 13 [] .done))))))))))))))else .done,fun s=>[3,6].contains s,fun _=>false,[],fun _ _ _=>False⟩
def T87:aS:=⟨ty,aA,fun id=>if id=5 then(.aa 0 (.aa 1 (.aa 2 (.aa 3 (.aa 4 (.aa 5 (.aa 6 (.aa 7 (.aa 8 (.aa 9 (.aa 10 (.aa 11 (.aa 12 (.aa 13 (.ao 14 [] .done)))))))))))))))else .done,fun _=>false,fun _=>false,[],fun _ _ _=>False⟩
def T88:aS:=⟨ty,aA,fun id=>if id=3 then(.aa 0 (.aa 1 (.aa 2 (.ao 3 [1] (.ao 4 [] (.ao 5 [] .done))))))else .done,fun s=>[3,5,6,7,9].contains s,fun _=>false,[],fun _ _ _=>False⟩
def T89:aS:=⟨ty,aA,fun id=>if id=1 then(.aa 0 (.aa 1 (.aa 2 (.aa 3 (.aa 4 (.aa 5 (.aa 6 (.ao 7 [] (.aa 8 (.aa 9 (.aa 10 (.ao 11 [] (.ao 12 [] .done)))))))))))))else if id=6 then(.aa 0 (.aa 1 (.aa 2 (.aa 3 (.aa 4 (.aa 5 (.aa 6 (.aa 7 (.aa 8 (.aa 9 (.ao 10 [] (.aa 11 (.aa 12 (.aa 13 (.ao 14 [] (.ao 15 [] .done))))))))))))))))else .done,fun _=>false,fun _=>false,[],fun _ _ _=>False⟩
def T90:aS:=⟨ty,aA,fun _=>.done,fun _=>false,fun _=>false,[],fun _ _ _=>False⟩
def T91:aS:=⟨ty,aA,fun _=>.done,fun s=>[3].contains s,fun _=>false,[],fun _ _ _=>False⟩
def Lk:aS:=⟨ty,aA,fun _=>.done,fun _=>false,fun _=>false,[],fun _ _ _=>False⟩
def T93:aS:=⟨ty,aA,fun id=>if id=1 then(.aa 0 (.aa 1 (.aa 2 (.aa 3 (.aa 4 (.aa 5 (.aa 6 (.aa 7 (.aa 8 (.aa 9 (.aa 10 (.aa 11 (.aa 12 (.aa 13 (.aa 14 (.aa 15 (.aa 16 (.aa 17 (.aa 18 (.aa 19 (.aa 20 (.ao 21 [13,8,4] (.aa 22 (.aa 23 (.aa 24 (.aa 25 (.ao 26 [] (.aa 27 (.aa 28 (.aa 29 (.aa 30 (.aa 31 (.ao 32 [] (.ao 33 [] .done))))))))))))))))))))))))))))))))))else .done,fun _=>false,fun _=>false,[],fun _ _ _=>False⟩
def T94:aS:=⟨ty,aA,fun id=>if id=1 then(.aa 0 (.aa 1 (.aa 2 (.aa 3 (.aa 4 (.aa 5 (.aa 6 (.aa 7 (.aa 8 (.aa 9 (.aa 10 (.aa 11 (.aa 12 (.aa 13 (.aa 14 (.ao 15 [] (.aa 16 (.aa 17 (.aa 18 (.aa 19 (.aa 20 (.ao 21 [] (.ao 22 [] .done)))))))))))))))))))))))else .done,fun _=>false,fun _=>false,[],fun _ _ _=>False⟩
def T95:aS:=⟨ty,aA,fun id=>if id=1 then(.aa 0 (.aa 1 (.aa 2 (.aa 3 (.aa 4 (.aa 5 (.ao 6 [4,0] (.ao 7 [] (.ao 8 [] .done)))))))))else .done,fun _=>false,fun _=>false,[],fun _ _ _=>False⟩
def T96:aS:=⟨ty,aA,fun _=>.done,fun _=>false,fun _=>false,[],fun _ _ _=>False⟩
def T97:aS:=⟨ty,aA,fun _=>.done,fun _=>false,fun _=>false,[],fun _ _ _=>False⟩
def T98:aS:=⟨ty,aA,fun _=>.done,fun _=>false,fun _=>false,[],fun _ _ _=>False⟩
def T99:aS:=⟨ty,aA,fun _=>.done,fun _=>false,fun _=>false,[],fun _ _ _=>False⟩
def T100:aS:=⟨ty,aA,fun id=>if id=5 then(.aa 0 (.aa 1 (.aa 2 (.aa 3 (.aa 4 (.aa 5 (.aa 6 (.aa 7 (.aa 8 (.aa 9 (.aa 10 (.aa 11 (.aa 12 (.ao 13 [0] (.aa 14 (.aa 15 (.aa 16 (.ao 17 [] .done))))))))))))))))))else if id=8 then(.aa 0 (.aa 1 (.aa 2 (.aa 3 (.aa 4 (.aa 5 (.aa 6 (.aa 7 (.aa 8 (.aa 9 (.aa 10 (.aa 11 (.aa 12 (.aa 13 (.aa 14 (.aa 15 (.aa 16 (.aa 17 (.aa 18 (.aa 19 (.aa 20 (.aa 21 (.aa 22 (.aa 23 (.aa 24 .done)))))))))))))))))))))))))else if id=10 then(.aa 0 (.aa 1 (.aa 2 (.aa 3 (.aa 4 (.aa 5 (.aa 6 (.ao 7 [] (.ao 8 [] .done)))))))))else .done,fun s=>[1].contains s,fun _=>false,[],fun _ _ _=>False⟩
def T101:aS:=⟨ty,aA,fun _=>.done,fun s=>[3,5,8].contains s,fun _=>false,[],fun _ _ _=>False⟩
def T102:aS:=⟨ty,aA,fun _=>.done,fun s=>[2,6].contains s,fun _=>false,[],fun _ _ _=>False⟩
def Z9:aS:=⟨ty,aA,fun id=>if id=2 then(.aa 0 (.aa 1 (.aa 3 (.aa 4 (.aa 5 (.aa 6 (.aa 7 (.aa 10 (.ao 2 [7,3] (.ao 8 [] (.aa 9 .done)))))))))))else .done,fun s=>[2,8,9].contains s,fun _=>false,[],fun _ _ _=>False⟩
def Z8:aS:=⟨ty,aA,fun _=>.done,fun s=>[2,3].contains s,fun _=>false,[],fun _ _ _=>False⟩
def Z7:aS:=⟨ty,aA,fun _=>.done,fun _=>false,fun _=>false,[],fun _ _ _=>False⟩
def Z6:aS:=⟨ty,aA,fun id=>if id=11 then(.aa 0 (.aa 1 (.aa 2 (.aa 3 (.aa 4 (.aa 5 (.aa 6 (.aa 7 (.ao 8 [] .done)))))))))else if id=15 then(.aa 0 (.aa 1 (.aa 2 (.aa 3 (.aa 4 (.aa 5 (.aa 6 (.aa 7 (.ao 8 [] .done)))))))))else .done,fun _=>false,fun _=>false,[],fun _ _ _=>False⟩
def Z5:aS:=⟨ty,aA,fun _=>.done,fun _=>false,fun _=>false,[],fun _ _ _=>False⟩
def Z4:aS:=⟨ty,aA,fun id=>if id=8 then(.aa 0 (.aa 1 (.aa 2 (.aa 3 (.aa 4 (.aa 5 (.aa 6 (.ao 7 [] (.aa 8 (.aa 9 (.aa 10 (.ao 11 [] (.ao 12 [] .done)))))))))))))else .done,fun _=>false,fun _=>false,[],fun _ _ _=>False⟩
def Z3:aS:=⟨ty,aA,fun _=>.done,fun _=>false,fun _=>false,[],fun _ _ _=>False⟩
def Z2:aS:=⟨ty,aA,fun id=>if id=4 then(.aa 0 (.aa 1 (.aa 2 (.aa 3 (.aa 4 (.aa 5 (.aa 6 .done)))))))else if id=5 then(.aa 0 (.aa 1 (.aa 2 (.aa 3 (.aa 4 (.aa 5 (.aa 6 (.ao 7 [] .done))))))))else .done,fun _=>false,fun _=>false,[],fun _ _ _=>False⟩
def Z1:aS:=⟨ty,aA,fun _=>.done,fun _=>false,fun _=>false,[],fun _ _ _=>False⟩
def Z0:aS:=⟨ty,aA,fun _=>.done,fun _=>false,fun _=>false,[],fun _ _ _=>False⟩
def ZZ:aS:=⟨ty,aA,fun _=>.done,fun _=>false,fun _=>false,[],fun _ _ _=>False⟩
def Oq:aS:=⟨ty,aA,fun _=>.done,fun _=>false,fun _=>false,[],fun _ _ _=>False⟩
def Oo:aS:=⟨ty,aA,fun id=>if id=1 then(.aa 0 (.aa 1 (.aa 3 (.aa 4 (.ao 2 [4] (.aa 6 (.ao 5 [] (.ao 7 [] (.aa 8 (.ao 9 [] .done))))))))))else .done,fun _=>false,fun _=>false,[],fun _ _ _=>False⟩
def On:aS:=⟨ty,aA,fun _=>.done,fun _=>false,fun _=>false,[],fun _ _ _=>False⟩
def ZY:aS:=⟨ty,aA,fun _=>.done,fun _=>false,fun _=>false,[],fun _ _ _=>False⟩
def ZX:aS:=⟨ty,aA,fun id=>if id=1 then(.aa 0 (.aa 1 (.aa 2 (.aa 3 (.aa 4 (.aa 5 (.aa 6 (.aa 7 (.aa 8 (.aa 9 (.aa 10 (.ao 11 [] .done))))))))))))else .done,fun _=>false,fun _=>false,[],fun _ _ _=>False⟩
def ZW:aS:=⟨ty,aA,fun _=>.done,fun _=>false,fun _=>false,[],fun _ _ _=>False⟩
def ZV:aS:=⟨ty,aA,fun id=>if id=1 then(.aa 0 (.aa 1 (.aa 2 (.aa 3 (.aa 4 (.aa 5 (.aa 6 (.aa 7 (.aa 8 (.aa 9 (.aa 10 (.ao 11 [] .done))))))))))))else .done,fun _=>false,fun _=>false,[],fun _ _ _=>False⟩
def ZU:aS:=⟨ty,aA,fun id=>if id=4 then(.aa 0 (.aa 1 (.aa 2 (.ao 3 [1] (.ao 4 [1] (.ao 5 [] (.aa 6 (.ao 7 [] .done))))))))else if id=6 then(.aa 0 (.aa 1 (.aa 2 (.ao 3 [1] (.ao 4 [1] (.ao 5 [] (.aa 6 (.ao 7 [] .done))))))))else .done,fun _=>false,fun _=>false,[],fun _ _ _=>False⟩
def ZT:aS:=⟨ty,aA,fun id=>if id=6 then(.aa 0 (.aa 1 (.aa 2 (.ao 3 [1] (.ao 4 [1] (.ao 5 [] (.aa 6 (.ao 7 [] .done))))))))else if id=8 then(.aa 0 (.aa 1 (.aa 2 (.ao 3 [1] (.ao 4 [1] (.ao 5 [] (.aa 6 (.ao 7 [] .done))))))))else .done,fun _=>false,fun _=>false,[],fun _ _ _=>False⟩
def ZS:aS:=⟨ty,aA,fun _=>.done,fun _=>false,fun _=>false,[],fun _ _ _=>False⟩
def ZR:aS:=⟨ty,aA,fun id=>if id=6 then(.aa 0 (.aa 1 (.aa 2 (.ao 3 [1] (.ao 4 [1] (.ao 5 [] (.aa 6 (.ao 7 [] .done))))))))else if id=22 then(.aa 0 (.aa 1 (.aa 2 (.aa 3 (.aa 4 (.aa 5 (.aa 6 (.aa 7 (.aa 8 (.aa 9 (.aa 10 (.ao 11 [] .done))))))))))))else .done,fun _=>false,fun _=>false,[],fun _ _ _=>False⟩
def ZQ:aS:=⟨ty,aA,fun _=>.done,fun _=>false,fun _=>false,[],fun _ _ _=>False⟩
def ZP:aS:=⟨ty,aA,fun id=>if id=5 then(.aa 0 (.aa 1 (.aa 2 (.aa 3 (.aa 4 (.aa 5 (.ao 6 [] (.ao 7 [] .done))))))))else .done,fun _=>false,fun _=>false,[],fun _ _ _=>False⟩
def ZO:aS:=⟨ty,aA,fun id=>if id=1 then(.aa 0 (.aa 1 (.aa 2 (.aa 4 (.aa 5 (.aa 6 (.ao 3 [5] (.ao 7 [] (.aa 8 (.ao 9 [] .done))))))))))else .done,fun _=>false,fun _=>false,[],fun _ _ _=>False⟩
def ZN:aS:=⟨ty,aA,fun _=>.done,fun _=>false,fun _=>false,[],fun _ _ _=>False⟩
def ZM:aS:=⟨ty,aA,fun _=>.done,fun _=>false,fun _=>false,[],fun _ _ _=>False⟩
def ZL:aS:=⟨ty,aA,fun _=>.done,fun s=>[1].contains s,fun _=>false,[],fun _ _ _=>False⟩
def ZK:aS:=⟨ty,aA,fun id=>if id=5 then(.aa 0 (.aa 1 (.aa 2 (.ao 3 [0] (.ao 4 [] (.aa 5 (.aa 6 (.aa 7 (.ao 8 [] (.ao 9 [] .done))))))))))else if id=10 then(.aa 0 (.aa 1 (.aa 2 (.aa 3 (.aa 4 (.aa 5 (.aa 6 (.aa 8 (.aa 9 (.aa 10 (.aa 11 (.ao 7 [9,2,0] (.ao 12 [0] (.ao 13 [] (.ao 14 [] (.ao 15 [] .done))))))))))))))))else .done,fun _=>false,fun _=>false,[],fun _ _ _=>False⟩
def ZJ:aS:=⟨ty,aA,fun id=>if id=5 then(.aa 0 (.aa 1 (.aa 2 (.aa 3 (.aa 4 (.aa 5 (.aa 6 (.aa 7 (.aa 8 (.aa 9 (.aa 10 (.aa 13 (.aa 14 (.aa 15 (.aa 16 (.aa 17 (.ao 11 [17,14,0] (.ao 12 [17,14] (.ao 18 [] (.ao 19 [] (.ao 20 [] (.ao 21 [] .done))))))))))))))))))))))else .done,fun _=>false,fun _=>false,[],fun _ _ _=>False⟩
def ZI:aS:=⟨ty,aA,fun _=>.done,fun _=>false,fun _=>false,[],fun _ _ _=>False⟩
def ZH:aS:=⟨ty,aA,fun _=>.done,fun _=>false,fun _=>false,[],fun _ _ _=>False⟩
def ZG:aS:=⟨ty,aA,fun _=>.done,fun _=>false,fun _=>false,[],fun _ _ _=>False⟩
def ZF:aS:=⟨ty,aA,fun _=>.done,fun _=>false,fun _=>false,[],fun _ _ _=>False⟩
def ZE:aS:=⟨ty,aA,fun _=>.done,fun s=>[6,7].contains s,fun _=>false,[],fun _ _ _=>False⟩
def ZD:aS:=⟨ty,aA,fun id=>if id=2 then(.aa 0 (.aa 1 (.aa 4 (.ao 2 [0] (.aa 3 (.ao 5 [] (.ao 6 [] (.ao 7 [] .done))))))))else .done,fun _=>false,fun _=>false,[],fun _ _ _=>False⟩
def Om:aS:=⟨ty,aA,fun id=>if id=13 then(.aa 0 (.aa 1 (.aa 2 (.aa 3 (.aa 4 (.aa 5 (.aa 6 (.aa 7 (.ao 8 [] .done)))))))))else if id=14 then(.aa 0 (.aa 1 (.aa 2 (.aa 3 (.aa 4 (.aa 5 (.ao 6 [4] (.ao 7 [] (.aa 8 (.aa 9 (.ao 10 [] .done)))))))))))else .done,fun _=>false,fun _=>false,[],fun _ _ _=>False⟩
def ZC:aS:=⟨ty,aA,fun _=>.done,fun _=>false,fun _=>false,[],fun _ _ _=>False⟩
def ZB:aS:=⟨ty,aA,fun _=>.done,fun _=>false,fun _=>false,[],fun _ _ _=>False⟩
def ZA:aS:=⟨ty,aA,fun _=>.done,fun _=>false,fun _=>false,[],fun _ _ _=>False⟩
def Ol:aS:=⟨ty,aA,fun _=>.done,fun _=>false,fun _=>false,[],fun _ _ _=>False⟩
def Ok:aS:=⟨ty,aA,fun id=>if id=1 then(.aa 0 (.aa 1 (.aa 2 (.aa 3 (.aa 4 (.aa 5 (.aa 6 (.ao 7 [] (.aa 8 (.aa 9 (.aa 10 (.ao 11 [] (.ao 12 [] .done)))))))))))))else if id=5 then(.aa 0 (.aa 1 (.aa 4 (.aa 5 (.fork (.ao 2 [4,0] (.fork (.ao 3 [4] (.ao 6 [4] (.ao 7 [] (.ao 8 [] (.ao 9 [] .done))))) (.ao 6 [4,0] (.ao 3 [4] (.ao 7 [] (.ao 8 [] (.ao 9 [] .done))))))) (.ao 6 [4,0] (.ao 2 [4,0] (.ao 3 [4] (.ao 7 [] (.ao 8 [] (.ao 9 [] .done)))))))))))else .done,fun _=>false,fun _=>false,[],fun _ _ _=>False⟩
def Zz:aS:=⟨ty,aA,fun _=>.done,fun _=>false,fun _=>false,[],fun _ _ _=>False⟩
def Zy:aS:=⟨ty,aA,fun _=>.done,fun _=>false,fun _=>false,[],fun _ _ _=>False⟩
def Zx:aS:=⟨ty,aA,fun _=>.done,fun _=>false,fun _=>false,[],fun _ _ _=>False⟩
def Zw:aS:=⟨ty,aA,fun _=>.done,fun s=>[7].contains s,fun _=>false,[],fun _ _ _=>False⟩
def Zv:aS:=⟨ty,aA,fun id=>if id=1 then(.aa 0 (.aa 1 (.aa 2 (.aa 3 (.aa 4 (.aa 5 (.aa 6 (.aa 7 (.aa 8 (.ao 9 [] (.ao 10 [] .done)))))))))))else .done,fun _=>false,fun _=>false,[],fun _ _ _=>False⟩
def Zu:aS:=⟨ty,aA,fun id=>if id=1 then(.aa 0 (.aa 1 (.aa 2 (.aa 3 (.aa 4 (.aa 5 (.aa 6 (.aa 7 (.aa 8 (.ao 9 [] (.ao 10 [] .done)))))))))))else .done,fun _=>false,fun _=>false,[],fun _ _ _=>False⟩
def Zt:aS:=⟨ty,aA,fun id=>if id=1 then(.aa 0 (.aa 1 (.aa 2 (.aa 3 (.aa 4 (.aa 5 (.aa 6 (.ao 7 [] (.ao 8 [] .done)))))))))else .done,fun _=>false,fun _=>false,[],fun _ _ _=>False⟩
def Ge:aS:=⟨ty,aA,fun _=>.done,fun _=>false,fun _=>false,[],fun _ _ _=>False⟩
def Zs:aS:=⟨ty,aA,fun id=>if id=4 then(.aa 0 (.aa 1 (.aa 2 (.aa 3 (.aa 4 (.aa 5 (.ao 6 [] (.ao 7 [] .done))))))))else if id=5 then(.aa 0 (.aa 1 (.aa 2 (.aa 3 (.aa 4 (.aa 5 (.ao 6 [] (.aa 7 (.aa 8 (.aa 9 (.ao 10 [] (.ao 11 [] .done))))))))))))else .done,fun _=>false,fun _=>false,[],fun _ _ _=>False⟩
def Zr:aS:=⟨ty,aA,fun id=>if id=1 then(.aa 0 (.aa 1 (.aa 2 (.aa 3 (.aa 4 (.aa 5 (.aa 6 (.ao 7 [0] (.aa 8 (.aa 9 (.aa 10 (.aa 11 (.aa 12 (.ao 13 [] (.ao 14 [] .done)))))))))))))))else .done,fun _=>false,fun _=>false,[],fun _ _ _=>False⟩
def Zq:aS:=⟨ty,aA,fun _=>.done,fun _=>false,fun _=>false,[],fun _ _ _=>False⟩
def Zp:aS:=⟨ty,aA,fun id=>if id=1 then(.aa 0 (.aa 1 (.aa 2 (.aa 3 (.aa 4 (.aa 5 (.aa 6 (.ao 7 [0] (.aa 8 (.aa 9 (.aa 10 (.aa 11 (.aa 12 (.ao 13 [] (.ao 14 [] .done)))))))))))))))else .done,fun _=>false,fun _=>false,[],fun _ _ _=>False⟩
def Zo:aS:=⟨ty,aA,fun _=>.done,fun _=>false,fun _=>false,[],fun _ _ _=>False⟩
def wQ:aS:=⟨ty,aA,fun _=>.done,fun _=>false,fun _=>false,[],fun _ _ _=>False⟩
def Zn:aS:=⟨ty,aA,fun _=>.done,fun _=>false,fun _=>false,[],fun _ _ _=>False⟩
def Zm:aS:=⟨ty,aA,fun _=>.done,fun _=>false,fun _=>false,[],fun _ _ _=>False⟩
def Zl:aS:=⟨ty,aA,fun id=>if id=5 then(.aa 0 (.aa 1 (.aa 2 (.aa 3 (.aa 4 (.aa 5 (.aa 6 (.aa 7 (.aa 8 (.ao 9 [] (.aa 10 (.aa 11 (.aa 12 (.ao 13 [] (.ao 14 [] .done)))))))))))))))else .done,fun _=>false,fun _=>false,[],fun _ _ _=>False⟩
def Zk:aS:=⟨ty,aA,fun _=>.done,fun s=>[4].contains s,fun _=>false,[],fun _ _ _=>False⟩
def Zj:aS:=⟨ty,aA,fun id=>if id=2 then(.aa 0 (.aa 1 (.aa 2 (.aa 3 (.aa 4 (.aa 5 (.aa 6 (.aa 7 (.aa 8 (.aa 9 (.ao 10 [] (.aa 11 (.aa 12 (.aa 13 (.ao 14 [] (.ao 15 [] .done))))))))))))))))else if id=5 then(.aa 0 (.aa 1 (.aa 2 (.aa 3 (.aa 4 (.aa 5 (.aa 6 (.aa 7 (.aa 8 (.aa 9 (.ao 10 [] (.aa 11 (.aa 12 (.aa 13 (.ao 14 [] (.ao 15 [] .done))))))))))))))))else .done,fun _=>false,fun _=>false,[],fun _ _ _=>False⟩
def Zi:aS:=⟨ty,aA,fun _=>.done,fun _=>false,fun _=>false,[],fun _ _ _=>False⟩
def Zh:aS:=⟨ty,aA,fun _=>.done,fun _=>false,fun _=>false,[],fun _ _ _=>False⟩
def Zg:aS:=⟨ty,aA,fun _=>.done,fun _=>false,fun _=>false,[],fun _ _ _=>False⟩
def Zf:aS:=⟨ty,aA,fun _=>.done,fun _=>false,fun _=>false,[],fun _ _ _=>False⟩
def Ze:aS:=⟨ty,aA,fun id=>if id=9 then(.aa 0 (.aa 1 (.aa 2 (.aa 3 (.aa 4 (.aa 5 (.aa 6 (.aa 7 (.aa 8 (.aa 9 (.aa 10 (.aa 11 (.aa 12 (.aa 13 (.aa 14 (.aa 15 (.aa 16 .done)))))))))))))))))else .done,fun s=>[2,5].contains s,fun _=>false,[],fun _ _ _=>False⟩
def Zd:aS:=⟨ty,aA,fun _=>.done,fun _=>false,fun _=>false,[],fun _ _ _=>False⟩
def Zc:aS:=⟨ty,aA,fun id=>if id=5 then(.aa 0 (.aa 1 (.aa 2 (.aa 3 (.aa 4 (.aa 5 (.aa 6 (.aa 7 (.aa 8 (.ao 9 [] (.ao 10 [] .done)))))))))))else .done,fun s=>[3,4,6].contains s,fun _=>false,[],fun _ _ _=>False⟩
def Bf:aS:=⟨ty,aA,fun _=>.done,fun _=>false,fun _=>false,[],fun _ _ _=>False⟩
def Zb:aS:=⟨ty,aA,fun _=>.done,fun _=>false,fun _=>false,[],fun _ _ _=>False⟩
def Za:aS:=⟨ty,aA,fun _=>.done,fun _=>false,fun _=>false,[],fun _ _ _=>False⟩
def Y9:aS:=⟨ty,aA,fun _=>.done,fun _=>false,fun _=>false,[],fun _ _ _=>False⟩
def Y8:aS:=⟨ty,aA,fun _=>.done,fun _=>false,fun _=>false,[],fun _ _ _=>False⟩
def Y7:aS:=⟨ty,aA,fun _=>.done,fun _=>false,fun _=>false,[],fun _ _ _=>False⟩
def Oj:aS:=⟨ty,aA,fun _=>.done,fun _=>false,fun _=>false,[],fun _ _ _=>False⟩
def Y6:aS:=⟨ty,aA,fun _=>.done,fun _=>false,fun _=>false,[],fun _ _ _=>False⟩
def Y5:aS:=⟨ty,aA,fun _=>.done,fun _=>false,fun _=>false,[],fun _ _ _=>False⟩
def Y4:aS:=⟨ty,aA,fun _=>.done,fun _=>false,fun _=>false,[],fun _ _ _=>False⟩
def Y3:aS:=⟨ty,aA,fun _=>.done,fun _=>false,fun _=>false,[],fun _ _ _=>False⟩
def Y2:aS:=⟨ty,aA,fun _=>.done,fun _=>false,fun _=>false,[],fun _ _ _=>False⟩
def Y1:aS:=⟨ty,aA,fun _=>.done,fun _=>false,fun _=>false,[],fun _ _ _=>False⟩
def Y0:aS:=⟨ty,aA,fun _=>.done,fun _=>false,fun _=>false,[],fun _ _ _=>False⟩
def YZ:aS:=⟨ty,aA,fun _=>.done,fun _=>false,fun _=>false,[],fun _ _ _=>False⟩
def YY:aS:=⟨ty,aA,fun _=>.done,fun _=>false,fun _=>false,[],fun _ _ _=>False⟩
def YX:aS:=⟨ty,aA,fun _=>.done,fun _=>false,fun _=>false,[],fun _ _ _=>False⟩
def YW:aS:=⟨ty,aA,fun _=>.done,fun _=>false,fun _=>false,[],fun _ _ _=>False⟩
def YV:aS:=⟨ty,aA,fun _=>.done,fun _=>false,fun _=>false,[],fun _ _ _=>False⟩
def YU:aS:=⟨ty,aA,fun _=>.done,fun _=>false,fun _=>false,[],fun _ _ _=>False⟩
def YT:aS:=⟨ty,aA,fun _=>.done,fun _=>false,fun _=>false,[],fun _ _ _=>False⟩
def YS:aS:=⟨ty,aA,fun _=>.done,fun _=>false,fun _=>false,[],fun _ _ _=>False⟩
def YR:aS:=⟨ty,aA,fun id=>if id=3 then(.aa 0 (.aa 1 (.ao 2 [0] (.ao 3 [0] (.aa 4 (.ao 5 [] .done))))))else .done,fun _=>false,fun _=>false,[],fun _ _ _=>False⟩
def YQ:aS:=⟨ty,aA,fun _=>.done,fun s=>[2].contains s,fun _=>false,[],fun _ _ _=>False⟩
def YP:aS:=⟨ty,aA,fun _=>.done,fun _=>false,fun _=>false,[],fun _ _ _=>False⟩
def YO:aS:=⟨ty,aA,fun id=>if id=9 then(.aa 0 (.aa 1 (.aa 2 (.aa 3 (.aa 4 (.aa 5 (.ao 6 [] (.aa 7 (.aa 8 (.aa 9 (.ao 10 [] (.ao 11 [] .done))))))))))))else .done,fun s=>[4,5,6,7].contains s,fun _=>false,[],fun _ _ _=>False⟩
def YN:aS:=⟨ty,aA,fun _=>.done,fun _=>false,fun _=>false,[],fun _ _ _=>False⟩
def Oi:aS:=⟨ty,aA,fun _=>.done,fun _=>false,fun _=>false,[],fun _ _ _=>False⟩
def YM:aS:=⟨ty,aA,fun id=>if id=10 then(.aa 0 (.aa 1 (.aa 2 (.aa 3 (.aa 4 (.aa 5 (.aa 6 (.aa 7 (.aa 8 (.aa 9 (.aa 10 (.aa 11 (.ao 12 [] (.ao 13 [] .done))))))))))))))else if id=11 then(.aa 0 (.aa 1 (.aa 2 (.aa 3 (.aa 4 (.aa 5 (.aa 6 (.aa 7 (.aa 8 (.aa 9 (.aa 10 (.aa 11 (.ao 12 [] (.ao 13 [] .done))))))))))))))else .done,fun _=>false,fun _=>false,[],fun _ _ _=>False⟩
def YL:aS:=⟨ty,aA,fun _=>.done,fun _=>false,fun _=>false,[],fun _ _ _=>False⟩
def YK:aS:=⟨ty,aA,fun _=>.done,fun _=>false,fun _=>false,[],fun _ _ _=>False⟩
def YJ:aS:=⟨ty,aA,fun id=>if id=1 then(.aa 0 (.aa 2 (.aa 3 (.fork (.ao 1 [] (.fork (.ao 4 [] (.ao 5 [] (.ao 6 [] .done))) (.ao 5 [] (.ao 4 [] (.ao 6 [] .done))))) (.ao 4 [] (.ao 1 [] (.ao 5 [] (.ao 6 [] .done))))))))else .done,fun _=>false,fun _=>false,[],fun _ _ _=>False⟩
def YI:aS:=⟨ty,aA,fun _=>.done,fun _=>false,fun _=>false,[],fun _ _ _=>False⟩
def YH:aS:=⟨ty,aA,fun _=>.done,fun _=>false,fun _=>false,[],fun _ _ _=>False⟩
def YG:aS:=⟨ty,aA,fun id=>if id=1 then(.aa 0 (.aa 1 (.aa 2 (.aa 3 (.aa 5 (.aa 6 (.aa 7 (.aa 8 (.aa 10 (.aa 11 (.aa 12 (.aa 13 (.ao 4 [13,11,8,6] (.ao 9 [13,11] (.ao 14 [] (.ao 15 [] (.ao 16 [] (.ao 17 [] .done))))))))))))))))))else .done,fun _=>false,fun _=>false,[],fun _ _ _=>False⟩
def YF:aS:=⟨ty,aA,fun _=>.done,fun _=>false,fun _=>false,[],fun _ _ _=>False⟩
def Oh:aS:=⟨ty,aA,fun _=>.done,fun _=>false,fun _=>false,[],fun _ _ _=>False⟩
def YE:aS:=⟨ty,aA,fun _=>.done,fun _=>false,fun _=>false,[],fun _ _ _=>False⟩
def YD:aS:=⟨ty,aA,fun _=>.done,fun _=>false,fun _=>false,[],fun _ _ _=>False⟩
def YC:aS:=⟨ty,aA,fun id=>if id=6 then(.aa 0 (.aa 1 (.aa 2 (.aa 3 (.aa 4 (.aa 5 (.ao 6 [4] (.ao 7 [] (.aa 8 (.aa 9 (.ao 10 [] .done)))))))))))else .done,fun _=>false,fun _=>false,[],fun _ _ _=>False⟩
def YB:aS:=⟨ty,aA,fun _=>.done,fun _=>false,fun _=>false,[],fun _ _ _=>False⟩
def YA:aS:=⟨ty,aA,fun id=>if id=3 then(.aa 0 (.aa 1 (.ao 2 [0] (.aa 3 (.aa 4 (.aa 5 (.aa 6 (.aa 7 (.aa 8 (.aa 9 (.aa 10 (.aa 11 (.aa 12 (.aa 13 (.aa 14 (.aa 15 (.aa 16 (.aa 17 (.aa 18 (.ao 19 [] .done))))))))))))))))))))else .done,fun _=>false,fun _=>false,[],fun _ _ _=>False⟩
def Yz:aS:=⟨ty,aA,fun _=>.done,fun _=>false,fun _=>false,[],fun _ _ _=>False⟩
def Yy:aS:=⟨ty,aA,fun _=>.done,fun _=>false,fun _=>false,[],fun _ _ _=>False⟩
def Yx:aS:=⟨ty,aA,fun id=>if id=5 then(.aa 0 (.aa 1 (.aa 2 (.aa 3 (.aa 4 (.aa 5 (.ao 6 [] (.aa 7 .done))))))))else if id=8 then(.aa 0 (.aa 1 (.aa 2 (.aa 3 (.aa 4 (.aa 5 (.aa 6 (.aa 7 (.aa 8 (.aa 9 (.aa 10 (.ao 11 [] (.aa 12 (.aa 13 (.ao 14 [] (.ao 15 [] .done))))))))))))))))else .done,fun _=>false,fun _=>false,[],fun _ _ _=>False⟩
def Yw:aS:=⟨ty,aA,fun id=>if id=1 then(.aa 0 (.aa 1 (.aa 3 (.ao 2 [3] (.ao 4 [] (.ao 5 [] .done))))))else .done,fun _=>false,fun _=>false,[],fun _ _ _=>False⟩
def Yv:aS:=⟨ty,aA,fun id=>if id=1 then(.aa 0 (.aa 1 (.aa 2 (.aa 3 (.aa 4 (.aa 5 (.aa 6 (.aa 7 (.aa 8 (.aa 9 (.ao 10 [0] (.aa 11 (.aa 12 (.aa 13 (.aa 14 (.aa 15 (.aa 16 (.ao 17 [] (.ao 18 [] .done)))))))))))))))))))else .done,fun _=>false,fun _=>false,[],fun _ _ _=>False⟩
def Yu:aS:=⟨ty,aA,fun id=>if id=2 then(.aa 0 (.aa 1 (.aa 2 (.aa 3 (.aa 4 (.aa 5 (.aa 6 (.aa 7 (.aa 8 (.aa 9 (.aa 10 (.aa 11 (.aa 12 (.aa 13 (.aa 14 (.aa 15 (.aa 16 (.aa 17 (.aa 18 (.ao 19 [] .done))))))))))))))))))))else if id=4 then(.aa 0 (.aa 1 (.aa 3 (.aa 4 (.aa 5 (.aa 6 (.aa 9 (.ao 2 [6,4] (.ao 7 [] (.aa 8 (.ao 10 [] .done)))))))))))else .done,fun _=>false,fun _=>false,[],fun _ _ _=>False⟩
def Yt:aS:=⟨ty,aA,fun _=>.done,fun _=>false,fun _=>false,[],fun _ _ _=>False⟩
def Ys:aS:=⟨ty,aA,fun id=>if id=5 then(.aa 0 (.aa 1 (.aa 2 (.aa 3 (.aa 4 (.ao 5 [2] (.ao 6 [] (.ao 7 [] .done))))))))else if id=12 then(.aa 0 (.aa 1 (.aa 2 (.aa 3 (.aa 4 (.aa 5 (.aa 6 (.aa 7 (.aa 8 (.aa 9 (.aa 10 (.aa 11 (.ao 12 [] (.aa 13 (.aa 14 (.ao 15 [] (.ao 16 [] .done)))))))))))))))))else if id=13 then(.aa 0 (.aa 1 (.aa 2 (.aa 3 (.aa 4 (.aa 5 (.aa 6 (.aa 7 (.aa 8 (.aa 9 (.aa 10 (.aa 11 (.ao 12 [] (.aa 13 (.aa 14 (.ao 15 [] (.ao 16 [] .done)))))))))))))))))else .done,fun _=>false,fun _=>false,[],fun _ _ _=>False⟩
def Yr:aS:=⟨ty,aA,fun _=>.done,fun _=>false,fun _=>false,[],fun _ _ _=>False⟩
def Yq:aS:=⟨ty,aA,fun _=>.done,fun _=>false,fun _=>false,[],fun _ _ _=>False⟩
def Yp:aS:=⟨ty,aA,fun _=>.done,fun _=>false,fun _=>false,[],fun _ _ _=>False⟩
def Yo:aS:=⟨ty,aA,fun _=>.done,fun _=>false,fun _=>false,[],fun _ _ _=>False⟩
def Yn:aS:=⟨ty,aA,fun _=>.done,fun _=>false,fun _=>false,[],fun _ _ _=>False⟩
def Ym:aS:=⟨ty,aA,fun _=>.done,fun _=>false,fun _=>false,[],fun _ _ _=>False⟩
def Yl:aS:=⟨ty,aA,fun _=>.done,fun _=>false,fun _=>false,[],fun _ _ _=>False⟩
def Yk:aS:=⟨ty,aA,fun _=>.done,fun _=>false,fun _=>false,[],fun _ _ _=>False⟩
def Yj:aS:=⟨ty,aA,fun id=>if id=0 then(.aa 0 (.aa 1 (.aa 2 (.aa 3 (.ao 4 [] (.ao 5 [] .done))))))else .done,fun _=>false,fun _=>false,[],fun _ _ _=>False⟩
def Yi:aS:=⟨ty,aA,fun _=>.done,fun _=>false,fun _=>false,[],fun _ _ _=>False⟩
def Yh:aS:=⟨ty,aA,fun _=>.done,fun _=>false,fun _=>false,[],fun _ _ _=>False⟩
def Yg:aS:=⟨ty,aA,fun _=>.done,fun _=>false,fun _=>false,[],fun _ _ _=>False⟩
def Yf:aS:=⟨ty,aA,fun _=>.done,fun s=>[3].contains s,fun _=>false,[],fun _ _ _=>False⟩
def Ye:aS:=⟨ty,aA,fun _=>.done,fun _=>false,fun _=>false,[],fun _ _ _=>False⟩
def Yc:aS:=⟨ty,aA,fun _=>.done,fun _=>false,fun _=>false,[],fun _ _ _=>False⟩
def Yb:aS:=⟨ty,aA,fun _=>.done,fun _=>false,fun _=>false,[],fun _ _ _=>False⟩
def Ya:aS:=⟨ty,aA,fun id=>if id=9 then(.aa 0 (.aa 1 (.aa 2 (.aa 3 (.aa 4 (.aa 5 (.aa 6 (.aa 7 (.aa 8 (.aa 9 (.aa 10 (.aa 11 (.aa 13 (.aa 14 (.fork (.ao 12 [14,5,3] (.ao 15 [5,3] (.ao 16 [5,3] (.ao 17 [] .done)))) (.ao 15 [11,9,5,3] (.ao 12 [5,3] (.ao 16 [5,3] (.ao 17 [] .done)))))))))))))))))))else .done,fun s=>[10].contains s,fun _=>false,[],fun _ _ _=>False⟩
def X9:aS:=⟨ty,aA,fun id=>if id=6 then(.aa 0 (.aa 1 (.aa 2 (.aa 3 (.aa 4 (.aa 5 (.aa 6 (.aa 9 (.ao 7 [] (.aa 8 .done))))))))))else .done,fun _=>false,fun _=>false,[],fun _ _ _=>False⟩
def X8:aS:=⟨ty,aA,fun _=>.done,fun _=>false,fun _=>false,[],fun _ _ _=>False⟩
def X7:aS:=⟨ty,aA,fun _=>.done,fun _=>false,fun _=>false,[],fun _ _ _=>False⟩
def X6:aS:=⟨ty,aA,fun _=>.done,fun _=>false,fun _=>false,[],fun _ _ _=>False⟩
def X5:aS:=⟨ty,aA,fun _=>.done,fun _=>false,fun _=>false,[],fun _ _ _=>False⟩
def X4:aS:=⟨ty,aA,fun id=>if id=5 then(.aa 0 (.aa 1 (.ao 2 [0] (.aa 3 .done))))else .done,fun _=>false,fun _=>false,[],fun _ _ _=>False⟩
def X3:aS:=⟨ty,aA,fun _=>.done,fun _=>false,fun _=>false,[],fun _ _ _=>False⟩
def X2:aS:=⟨ty,aA,fun _=>.done,fun _=>false,fun _=>false,[],fun _ _ _=>False⟩
def X1:aS:=⟨ty,aA,fun _=>.done,fun _=>false,fun _=>false,[],fun _ _ _=>False⟩
def X0:aS:=⟨ty,aA,fun _=>.done,fun _=>false,fun _=>false,[],fun _ _ _=>False⟩
def XZ:aS:=⟨ty,aA,fun _=>.done,fun _=>false,fun _=>false,[],fun _ _ _=>False⟩
def XY:aS:=⟨ty,aA,fun _=>.done,fun _=>false,fun _=>false,[],fun _ _ _=>False⟩
def Og:aS:=⟨ty,aA,fun _=>.done,fun _=>false,fun _=>false,[],fun _ _ _=>False⟩
def XX:aS:=⟨ty,aA,fun _=>.done,fun _=>false,fun _=>false,[],fun _ _ _=>False⟩
def XW:aS:=⟨ty,aA,fun _=>.done,fun _=>false,fun _=>false,[],fun _ _ _=>False⟩
def XV:aS:=⟨ty,aA,fun _=>.done,fun _=>false,fun _=>false,[],fun _ _ _=>False⟩
def XU:aS:=⟨ty,aA,fun _=>.done,fun _=>false,fun _=>false,[],fun _ _ _=>False⟩
def XT:aS:=⟨ty,aA,fun _=>.done,fun _=>false,fun _=>false,[],fun _ _ _=>False⟩
def XS:aS:=⟨ty,aA,fun _=>.done,fun _=>false,fun _=>false,[],fun _ _ _=>False⟩
def XR:aS:=⟨ty,aA,fun _=>.done,fun _=>false,fun _=>false,[],fun _ _ _=>False⟩
def XQ:aS:=⟨ty,aA,fun _=>.done,fun _=>false,fun _=>false,[],fun _ _ _=>False⟩
def XP:aS:=⟨ty,aA,fun _=>.done,fun _=>false,fun _=>false,[],fun _ _ _=>False⟩
def XO:aS:=⟨ty,aA,fun _=>.done,fun _=>false,fun _=>false,[],fun _ _ _=>False⟩
def XN:aS:=⟨ty,aA,fun _=>.done,fun _=>false,fun _=>false,[],fun _ _ _=>False⟩
def XM:aS:=⟨ty,aA,fun _=>.done,fun _=>false,fun _=>false,[],fun _ _ _=>False⟩
def XL:aS:=⟨ty,aA,fun _=>.done,fun _=>false,fun _=>false,[],fun _ _ _=>False⟩
def XK:aS:=⟨ty,aA,fun _=>.done,fun _=>false,fun _=>false,[],fun _ _ _=>False⟩
def XJ:aS:=⟨ty,aA,fun id=>if id=1 then(.aa 0 (.aa 1 (.aa 2 (.aa 3 (.aa 4 (.aa 5 (.aa 6 (.aa 7 (.aa 8 (.aa 9 (.aa 10 (.ao 11 [] .done))))))))))))else .done,fun _=>false,fun _=>false,[],fun _ _ _=>False⟩
theorem Qt{c:Prop}[Decidable c]{a b:Ti}{q:Prop}(ha:c->a=.none\/q)(hb:¬c->b=.none\/q):(if c then a else b)=.none\/q:=by
 by_cases h:c
 ·rw[if_pos h];exact ha h
 ·rw[if_neg h];exact hb h
theorem PV(t:Nat):ty t=.none\/t∈Ha:=by
 unfold ty;repeat' (first
  |exact .inl rfl
  | (refine Qt (fun e=>?_) (fun e=>?_)))
 all_goals (right;rw[e];decide)
theorem PW:Ha.map ty=Ha.map (QN Tryz.prog):=by kernel_rfl
theorem Sz:((List.range fnN).all fun f=>Pw.contains f||(match Tryz.prog.funcs[f]? with
 |some fn=>fn.body.isSome&&decide (fn.name≠ "runtime.NumGoroutine")
 |none=>false))=true:=by kernel_rfl
theorem mixed:Tryz.prog.follows .mixedOrders=true:=by kernel_rfl
theorem ly(pl:Nat->oU)(pb pn:Nat->Bool)(rs:List Nat)(kp:List PanicEntry->List SV->ad->Prop):dE Tryz.prog ⟨ty,aA,pl,pb,pn,rs,kp⟩where
 ty t:=by
  rcases PV t with h|h
  ·exact .inr h
  ·exact .inl (List.map_inj_left.1 PW t h)
 fn f h:=by
  have h:aA f=true:=h;unfold aA at h;split at h
  ·rename_i aI;have h1:=List.all_eq_true.1 Sz f (by simpa using aI);simp only[Bool.or_eq_true]at h1;rcases h1 with h1|h1
   ·rw[h1]at h;cases h
   ·split at h1
    ·rename_i fn WH;simp only[Bool.and_eq_true,decide_eq_true_eq]at h1;exact⟨fn,WH,h1.1,h1.2⟩
    ·cases h1
  ·cases h
 mixed:=mixed
theorem aq(pl:Nat->oU)(pb:Nat->Bool):dE Tryz.prog ⟨ty,aA,pl,pb,fun _=>false,[],fun _ _ _=>False⟩:=ly pl pb _ _ _
end Go.S
