import Derived.Test.YtekoaiendgjkdaaGreatProg
import Derived.Test.YtekoaiendgjkdaaGreatSxB
import Derived.KernelRfl
set_option linter.unusedVariables false
set_option linter.unusedSimpArgs false
set_option linter.unusedSectionVars false
namespace Go.S
open Go.Sx Go.Proofs
def y1:Ti:=⟨false,false,1,8,[.nilFunc],.fn⟩
def y2:Ti:=⟨false,false,1,8,[.int .i64 0],(.int .i64)⟩
def y3:Ti:=⟨false,false,1,8,[.int .i64 0],(.int .i64)⟩
def y4:Ti:=⟨false,false,1,1,[.bool false],.bool⟩
def y5:Ti:=⟨false,false,1,1,[.int .u8 0],(.int .u8)⟩
def y9:Ti:=⟨false,false,1,16,[.string ⟨#[]⟩],.str⟩
def y21:Ti:=⟨false,false,1,4,[.int .i32 0],(.int .i32)⟩
def y22:Ti:=⟨false,false,1,24,[.slice none 0 0],(.lk 24)⟩
def y24:Ti:=⟨true,true,4,32,[.int .i64 0,.int .i64 0,.int .i64 0,.int .i64 0],(.cE [(3,0),(3,1),(3,2),(3,3)])⟩
def y26:Ti:=⟨false,false,1,24,[.slice none 0 0],(.lk 51)⟩
def y27:Ti:=⟨false,false,1,24,[.slice none 0 0],(.lk 55)⟩
def y28:Ti:=⟨false,false,1,24,[.slice none 0 0],(.lk 205)⟩
def y30:Ti:=⟨false,true,2,48,[.slice none 0 0,.slice none 0 0],(.cE [(28,0),(28,1)])⟩
def y32:Ti:=⟨false,true,4,96,[.slice none 0 0,.slice none 0 0,.slice none 0 0,.slice none 0 0],(.cE [(26,0),(27,1),(30,2)])⟩
def y34:Ti:=⟨false,false,1,24,[.slice none 0 0],(.lk 59)⟩
def y35:Ti:=⟨false,false,1,8,[.int .i64 0],(.int .i64)⟩
def y38:Ti:=⟨false,false,1,24,[.slice none 0 0],(.lk 165)⟩
def y40:Ti:=⟨false,true,4,56,[.string ⟨#[]⟩,.slice none 0 0,.int .i64 0,.bool false],(.cE [(9,0),(38,1),(3,2),(4,3)])⟩
def y42:Ti:=⟨false,false,1,24,[.slice none 0 0],(.lk 325)⟩
def y43:Ti:=⟨false,false,1,24,[.slice none 0 0],(.lk 9)⟩
def y44:Ti:=⟨false,false,1,24,[.slice none 0 0],(.lk 42)⟩
def y45:Ti:=⟨false,false,1,24,[.slice none 0 0],(.lk 276)⟩
def y47:Ti:=⟨false,true,17,280,[.int .i64 0,.string ⟨#[]⟩,.slice none 0 0,.int .i64 0,.bool false,.string ⟨#[]⟩,.string ⟨#[]⟩,.slice none 0 0,.slice none 0 0,.slice none 0 0,.slice none 0 0,.slice none 0 0,.string ⟨#[]⟩,.string ⟨#[]⟩,.bool false,.int .i64 0,.string ⟨#[]⟩],(.cE [(3,0),(40,1),(9,5),(9,6),(42,7),(43,8),(44,9),(45,10),(42,11),(9,12),(9,13),(4,14),(3,15),(9,16)])⟩
def y51:Ti:=⟨false,true,5,80,[.string ⟨#[]⟩,.slice none 0 0,.int .i64 0,.bool false,.slice none 0 0],(.cE [(40,0),(34,4)])⟩
def y52:Ti:=⟨false,false,1,24,[.slice none 0 0],(.lk 148)⟩
def y53:Ti:=⟨false,false,1,24,[.slice none 0 0],(.lk 161)⟩
def y55:Ti:=⟨false,true,3,56,[.int .i64 0,.slice none 0 0,.slice none 0 0],(.cE [(3,0),(52,1),(53,2)])⟩
def y59:Ti:=⟨false,false,1,24,[.slice none 0 0],(.lk 61)⟩
def y61:Ti:=⟨true,true,3,32,[.int .i64 0,.int .i64 0,.string ⟨#[]⟩],(.cE [(3,0),(3,1),(9,2)])⟩
def y64:Ti:=⟨false,false,1,24,[.slice none 0 0],(.lk 156)⟩
def y65:Ti:=⟨false,false,1,24,[.slice none 0 0],(.lk 145)⟩
def y66:Ti:=⟨false,false,1,24,[.slice none 0 0],(.lk 235)⟩
def y68:Ti:=⟨false,true,2,48,[.slice none 0 0,.slice none 0 0],(.cE [(66,0),(66,1)])⟩
def y70:Ti:=⟨false,true,4,96,[.slice none 0 0,.slice none 0 0,.slice none 0 0,.slice none 0 0],(.cE [(64,0),(65,1),(68,2)])⟩
def y77:Ti:=⟨false,false,1,24,[.slice none 0 0],(.lk 35)⟩
def y80:Ti:=⟨false,false,1,24,[.slice none 0 0],(.lk 4)⟩
def y99:Ti:=⟨false,false,1,8,[.pointer none],(.ptr 101)⟩
def y101:Ti:=⟨false,true,22,384,[.slice none 0 0,.slice none 0 0,.slice none 0 0,.slice none 0 0,.int .i64 0,.int .i64 0,.string ⟨#[]⟩,.slice none 0 0,.int .i64 0,.bool false,.string ⟨#[]⟩,.string ⟨#[]⟩,.slice none 0 0,.slice none 0 0,.slice none 0 0,.slice none 0 0,.slice none 0 0,.string ⟨#[]⟩,.string ⟨#[]⟩,.bool false,.int .i64 0,.string ⟨#[]⟩],(.cE [(32,0),(3,4),(47,5)])⟩
def y102:Ti:=⟨false,false,1,8,[.nilFunc],.fn⟩
def y104:Ti:=⟨false,false,1,8,[.map none],(.mp 3 102)⟩
def y109:Ti:=⟨false,false,1,8,[.pointer none],(.ptr 128)⟩
def y116:Ti:=⟨true,true,0,0,[],(.cE [])⟩
def y117:Ti:=⟨true,true,0,0,[],(.cE [])⟩
def y118:Ti:=⟨false,false,1,4,[.int .u32 0],(.int .u32)⟩
def y120:Ti:=⟨false,true,1,4,[.int .u32 0],(.cE [(117,0),(118,0)])⟩
def y122:Ti:=⟨true,true,2,8,[.int .i32 0,.int .u32 0],(.cE [(21,0),(118,1)])⟩
def y124:Ti:=⟨false,true,2,8,[.int .i32 0,.int .u32 0],(.cE [(116,0),(122,0)])⟩
def y126:Ti:=⟨false,true,3,12,[.int .u32 0,.int .i32 0,.int .u32 0],(.cE [(116,0),(120,0),(124,1)])⟩
def y128:Ti:=⟨false,true,8,120,[.slice none 0 0,.slice none 0 0,.slice none 0 0,.slice none 0 0,.int .u32 0,.int .i32 0,.int .u32 0,.int .i64 0],(.cE [(32,0),(126,4),(35,7)])⟩
def y130:Ti:=⟨false,false,1,8,[.int .u64 0],(.int .u64)⟩
def y131:Ti:=⟨false,false,1,24,[.slice none 0 0],(.lk 139)⟩
def y134:Ti:=⟨false,false,1,8,[.pointer none],(.ptr 136)⟩
def y136:Ti:=⟨false,true,4,64,[.slice none 0 0,.int .i64 0,.int .i64 0,.slice none 0 0],(.cE [(131,0),(3,1),(3,2),(42,3)])⟩
def y139:Ti:=⟨true,true,3,32,[.int .i64 0,.int .i64 0,.string ⟨#[]⟩],(.cE [(3,0),(3,1),(9,2)])⟩
def y143:Ti:=⟨false,false,1,24,[.slice none 0 0],(.lk 162)⟩
def y145:Ti:=⟨false,true,3,56,[.int .i64 0,.slice none 0 0,.slice none 0 0],(.cE [(3,0),(52,1),(143,2)])⟩
def y148:Ti:=⟨false,true,3,48,[.string ⟨#[]⟩,.int .i64 0,.slice none 0 0],(.cE [(9,0),(3,1),(59,2)])⟩
def y149:Ti:=⟨false,false,1,8,[.nilFunc],.fn⟩
def y156:Ti:=⟨false,true,5,80,[.string ⟨#[]⟩,.slice none 0 0,.int .i64 0,.bool false,.slice none 0 0],(.cE [(40,0),(34,4)])⟩
def y161:Ti:=⟨true,true,2,24,[.string ⟨#[]⟩,.int .i64 0],(.cE [(9,0),(3,1)])⟩
def y162:Ti:=⟨true,true,2,24,[.string ⟨#[]⟩,.int .i64 0],(.cE [(9,0),(3,1)])⟩
def y165:Ti:=⟨true,true,3,32,[.string ⟨#[]⟩,.int .i64 0,.bool false],(.cE [(9,0),(3,1),(4,2)])⟩
def y173:Ti:=⟨false,false,1,8,[.nilFunc],.fn⟩
def y179:Ti:=⟨false,false,1,8,[.nilFunc],.fn⟩
def y180:Ti:=⟨false,false,1,8,[.nilFunc],.fn⟩
def y182:Ti:=⟨false,false,1,8,[.nilFunc],.fn⟩
def y184:Ti:=⟨false,false,1,8,[.nilFunc],.fn⟩
def Z9:Ti:=⟨false,false,1,8,[.pointer none],(.ptr 188)⟩
def Z8:Ti:=⟨false,true,21,328,[.int .i64 0,.string ⟨#[]⟩,.slice none 0 0,.int .i64 0,.bool false,.string ⟨#[]⟩,.string ⟨#[]⟩,.slice none 0 0,.slice none 0 0,.slice none 0 0,.slice none 0 0,.slice none 0 0,.string ⟨#[]⟩,.string ⟨#[]⟩,.bool false,.int .i64 0,.string ⟨#[]⟩,.slice none 0 0,.int .i64 0,.int .i64 0,.bool false],(.cE [(47,0),(38,17),(3,18),(3,19),(4,20)])⟩
def Z7:Ti:=⟨false,false,1,8,[.nilFunc],.fn⟩
def Z6:Ti:=⟨false,false,1,8,[.nilFunc],.fn⟩
def Z5:Ti:=⟨false,false,1,8,[.nilFunc],.fn⟩
def Z4:Ti:=⟨true,true,3,32,[.int .i64 0,.string ⟨#[]⟩,.bool false],(.cE [(3,0),(9,1),(4,2)])⟩
def Z3:Ti:=⟨false,false,1,24,[.slice none 0 0],(.lk 5)⟩
def Z2:Ti:=⟨true,true,3,32,[.int .i64 0,.string ⟨#[]⟩,.bool false],(.cE [(3,0),(9,1),(4,2)])⟩
def Z1:Ti:=⟨false,false,1,24,[.slice none 0 0],(.lk 3)⟩
def Z0:Ti:=⟨false,false,1,8,[.map none],(.mp 9 4)⟩
def ZZ:Ti:=⟨false,true,4,24,[.int .u32 0,.int .i32 0,.int .u32 0,.map none],(.cE [(126,0),(248,3)])⟩
def ZY:Ti:=⟨false,false,1,8,[.nilFunc],.fn⟩
def ZX:Ti:=⟨false,false,1,8,[.nilFunc],.fn⟩
def ZW:Ti:=⟨false,false,1,8,[.nilFunc],.fn⟩
def ZV:Ti:=⟨false,false,1,8,[.nilFunc],.fn⟩
def ZU:Ti:=⟨false,true,2,32,[.int .i64 0,.slice none 0 0],(.cE [(3,0),(42,1)])⟩
def ZT:Ti:=⟨false,false,1,8,[.nilFunc],.fn⟩
def ZS:Ti:=⟨false,false,1,24,[.slice none 0 0],(.lk 173)⟩
def ZR:Ti:=⟨false,false,1,8,[.nilFunc],.fn⟩
def ZQ:Ti:=⟨false,false,1,8,[.nilFunc],.fn⟩
def ZP:Ti:=⟨false,false,1,8,[.nilFunc],.fn⟩
def ZO:Ti:=⟨false,false,1,24,[.slice none 0 0],(.lk 34)⟩
def ZN:Ti:=⟨false,false,1,8,[.nilFunc],.fn⟩
def ZM:Ti:=⟨false,false,1,8,[.int .u64 0],(.int .u64)⟩
def ZL:Ti:=⟨false,true,7,72,[.int .i64 0,.int .i64 0,.int .i64 0,.int .i64 0,.int .i64 0,.string ⟨#[]⟩,.string ⟨#[]⟩],(.cE [(3,0),(3,1),(3,2),(61,3),(9,6)])⟩
def ZK:Ti:=⟨false,false,1,8,[.pointer none],(.ptr 250)⟩
def ZJ:Ti:=⟨false,false,1,8,[.nilFunc],.fn⟩
def ZI:Ti:=⟨false,true,5,80,[.string ⟨#[]⟩,.slice none 0 0,.int .i64 0,.bool false,.slice none 0 0],(.cE [(51,0)])⟩
def ZH:Ti:=⟨false,false,1,8,[.pointer none],(.ptr 126)⟩
def ZG:Ti:=⟨false,false,1,8,[.nilFunc],.fn⟩
def ZF:Ti:=⟨false,false,1,8,[.pointer none],(.ptr 120)⟩
def ZE:Ti:=⟨false,false,1,8,[.pointer none],(.ptr 118)⟩
def ZD:Ti:=⟨false,false,1,8,[.nilFunc],.fn⟩
def ZC:Ti:=⟨false,false,1,8,[.pointer none],(.ptr 407)⟩
def ZB:Ti:=⟨false,false,1,8,[.map none],(.mp 3 4)⟩
def ZA:Ti:=⟨false,false,1,8,[.pointer none],(.ptr 124)⟩
def Zz:Ti:=⟨false,false,1,24,[.slice none 0 0],(.lk 28)⟩
def Zy:Ti:=⟨false,false,1,8,[.map none],(.mp 3 240)⟩
def Zx:Ti:=⟨true,true,0,0,[],(.cE [])⟩
def Zw:Ti:=⟨false,true,1,8,[.int .i64 0],(.cE [(117,0),(403,0),(2,0)])⟩
def Zv:Ti:=⟨false,true,2,16,[.map none,.int .i64 0],(.cE [(402,0),(405,1)])⟩
def Zu:Ti:=⟨false,false,1,8,[.pointer none],(.ptr 122)⟩
def Zt:Ti:=⟨false,false,1,8,[.pointer none],(.ptr 21)⟩
def Zs:Ti:=⟨false,false,1,8,[.pointer none],.oth⟩
def Zr:Ti:=⟨false,false,1,8,[.pointer none],(.ptr 405)⟩
def Zq:Ti:=⟨false,false,1,8,[.pointer none],(.ptr 2)⟩
def ty(t:Nat):Ti:=if t<148 then(if t<61 then(if t<34 then(if t<22 then(if t<4 then(if t<2 then(if t=1 then y1 else .none)else(if t<3 then(if t=2 then y2 else .none)else(if t=3 then y3 else .none)))else(if t<9 then(if t<5 then(if t=4 then y4 else .none)else(if t=5 then y5 else .none))else(if t<21 then(if t=9 then y9 else .none)else(if t=21 then y21 else .none))))else(if t<27 then(if t<24 then(if t=22 then y22 else .none)else(if t<26 then(if t=24 then y24 else .none)else(if t=26 then y26 else .none)))else(if t<30 then(if t<28 then(if t=27 then y27 else .none)else(if t=28 then y28 else .none))else(if t<32 then(if t=30 then y30 else .none)else(if t=32 then y32 else .none)))))else(if t<45 then(if t<40 then(if t<35 then(if t=34 then y34 else .none)else(if t<38 then(if t=35 then y35 else .none)else(if t=38 then y38 else .none)))else(if t<43 then(if t<42 then(if t=40 then y40 else .none)else(if t=42 then y42 else .none))else(if t<44 then(if t=43 then y43 else .none)else(if t=44 then y44 else .none))))else(if t<52 then(if t<47 then(if t=45 then y45 else .none)else(if t<51 then(if t=47 then y47 else .none)else(if t=51 then y51 else .none)))else(if t<55 then(if t<53 then(if t=52 then y52 else .none)else(if t=53 then y53 else .none))else(if t<59 then(if t=55 then y55 else .none)else(if t=59 then y59 else .none))))))else(if t<117 then(if t<80 then(if t<66 then(if t<64 then(if t=61 then y61 else .none)else(if t<65 then(if t=64 then y64 else .none)else(if t=65 then y65 else .none)))else(if t<70 then(if t<68 then(if t=66 then y66 else .none)else(if t=68 then y68 else .none))else(if t<77 then(if t=70 then y70 else .none)else(if t=77 then y77 else .none))))else(if t<102 then(if t<99 then(if t=80 then y80 else .none)else(if t<101 then(if t=99 then y99 else .none)else(if t=101 then y101 else .none)))else(if t<109 then(if t<104 then(if t=102 then y102 else .none)else(if t=104 then y104 else .none))else(if t<116 then(if t=109 then y109 else .none)else(if t=116 then y116 else .none)))))else(if t<130 then(if t<122 then(if t<118 then(if t=117 then y117 else .none)else(if t<120 then(if t=118 then y118 else .none)else(if t=120 then y120 else .none)))else(if t<126 then(if t<124 then(if t=122 then y122 else .none)else(if t=124 then y124 else .none))else(if t<128 then(if t=126 then y126 else .none)else(if t=128 then y128 else .none))))else(if t<136 then(if t<131 then(if t=130 then y130 else .none)else(if t<134 then(if t=131 then y131 else .none)else(if t=134 then y134 else .none)))else(if t<143 then(if t<139 then(if t=136 then y136 else .none)else(if t=139 then y139 else .none))else(if t<145 then(if t=143 then y143 else .none)else(if t=145 then y145 else .none)))))))else(if t<280 then(if t<199 then(if t<179 then(if t<161 then(if t<149 then(if t=148 then y148 else .none)else(if t<156 then(if t=149 then y149 else .none)else(if t=156 then y156 else .none)))else(if t<165 then(if t<162 then(if t=161 then y161 else .none)else(if t=162 then y162 else .none))else(if t<173 then(if t=165 then y165 else .none)else(if t=173 then y173 else .none))))else(if t<184 then(if t<180 then(if t=179 then y179 else .none)else(if t<182 then(if t=180 then y180 else .none)else(if t=182 then y182 else .none)))else(if t<188 then(if t<186 then(if t=184 then y184 else .none)else(if t=186 then Z9 else .none))else(if t<194 then(if t=188 then Z8 else .none)else(if t=194 then Z7 else .none)))))else(if t<250 then(if t<208 then(if t<202 then(if t=199 then Z6 else .none)else(if t<205 then(if t=202 then Z5 else .none)else(if t=205 then Z4 else .none)))else(if t<240 then(if t<235 then(if t=208 then Z3 else .none)else(if t=235 then Z2 else .none))else(if t<248 then(if t=240 then Z1 else .none)else(if t=248 then Z0 else .none))))else(if t<264 then(if t<252 then(if t=250 then ZZ else .none)else(if t<263 then(if t=252 then ZY else .none)else(if t=263 then ZX else .none)))else(if t<276 then(if t<272 then(if t=264 then ZW else .none)else(if t=272 then ZV else .none))else(if t<277 then(if t=276 then ZU else .none)else(if t=277 then ZT else .none))))))else(if t<379 then(if t<325 then(if t<288 then(if t<282 then(if t=280 then ZS else .none)else(if t<284 then(if t=282 then ZR else .none)else(if t=284 then ZQ else .none)))else(if t<298 then(if t<291 then(if t=288 then ZP else .none)else(if t=291 then ZO else .none))else(if t<302 then(if t=298 then ZN else .none)else(if t=302 then ZM else .none))))else(if t<335 then(if t<332 then(if t=325 then ZL else .none)else(if t<333 then(if t=332 then ZK else .none)else(if t=333 then ZJ else .none)))else(if t<366 then(if t<351 then(if t=335 then ZI else .none)else(if t=351 then ZH else .none))else(if t<377 then(if t=366 then ZG else .none)else(if t=377 then ZF else .none)))))else(if t<403 then(if t<391 then(if t<387 then(if t=379 then ZE else .none)else(if t<389 then(if t=387 then ZD else .none)else(if t=389 then ZC else .none)))else(if t<401 then(if t<397 then(if t=391 then ZB else .none)else(if t=397 then ZA else .none))else(if t<402 then(if t=401 then Zz else .none)else(if t=402 then Zy else .none))))else(if t<414 then(if t<407 then(if t<405 then(if t=403 then Zx else .none)else(if t=405 then Zw else .none))else(if t<412 then(if t=407 then Zv else .none)else(if t=412 then Zu else .none)))else(if t<419 then(if t<416 then(if t=414 then Zt else .none)else(if t=416 then Zs else .none))else(if t<421 then(if t=419 then Zr else .none)else(if t=421 then Zq else .none)))))))
def Ft:List Nat:=[1,2,3,4,5,9,21,22,24,26,27,28,30,32,34,35,38,40,42,43,44,45,47,51,52,53,55,59,61,64,65,66,68,70,77,80,99,101,102,104,109,116,117,118,120,122,124,126,128,130,131,134,136,139,143,145,148,149,156,161,162,165,173,179,180,182,184,186,188,194,199,202,205,208,235,240,248,250,252,263,264,272,276,277,280,282,284,288,291,298,302,325,332,333,335,351,366,377,379,387,389,391,397,401,402,403,405,407,412,414,416,419,421]
def NL:List Nat:=[0,1,117,205,292,296,321,335,336,337,338,340,341,344,346,347,348,349,350,351,352,357,358,359,360,361,362,363,364,365,366,367,368,369,370,371,372,373,374]
def fnN:Nat:=375
def az(f:Nat):Bool:=if f<fnN then !NL.contains f else false
def T8:aQ:=⟨ty,az,fun _=>.done,fun _=>false,fun _=>false,[],fun _ _ _=>False⟩
def T17:aQ:=⟨ty,az,fun _=>.done,fun _=>false,fun _=>false,[],fun _ _ _=>False⟩
def T19:aQ:=⟨ty,az,fun _=>.done,fun s=>[79].contains s,fun _=>false,[],fun _ _ _=>False⟩
def T22:aQ:=⟨ty,az,fun _=>.done,fun _=>false,fun _=>false,[],fun _ _ _=>False⟩
def T23:aQ:=⟨ty,az,fun _=>.done,fun _=>false,fun _=>false,[],fun _ _ _=>False⟩
def T24:aQ:=⟨ty,az,fun id=>if id=5 then(.aa 0 (.aa 1 (.ao 2 [0] (.ao 3 [] (.aa 4 (.aa 5 (.aa 6 (.ao 7 [] .done))))))))else if id=6 then(.aa 0 (.aa 1 (.ao 2 [0] (.ao 3 [] (.aa 4 (.aa 5 (.aa 6 (.ao 7 [] .done))))))))else if id=7 then(.aa 0 (.aa 1 (.ao 2 [1] (.ao 3 [] .done))))else .done,fun _=>false,fun _=>false,[],fun _ _ _=>False⟩
def T25:aQ:=⟨ty,az,fun _=>.done,fun _=>false,fun _=>false,[],fun _ _ _=>False⟩
def T26:aQ:=⟨ty,az,fun _=>.done,fun _=>false,fun _=>false,[],fun _ _ _=>False⟩
def T27:aQ:=⟨ty,az,fun _=>.done,fun _=>false,fun _=>false,[],fun _ _ _=>False⟩
def T28:aQ:=⟨ty,az,fun id=>if id=6 then(.aa 0 (.aa 1 (.aa 2 (.aa 3 (.aa 4 (.aa 5 (.aa 6 (.aa 7 (.aa 8 .done)))))))))else .done,fun _=>false,fun _=>false,[],fun _ _ _=>False⟩
def T30:aQ:=⟨ty,az,fun id=>if id=6 then(.aa 0 (.aa 1 (.aa 2 (.aa 3 (.aa 4 (.aa 5 (.aa 6 (.aa 7 (.aa 8 (.aa 9 (.aa 10 (.aa 11 (.aa 12 (.aa 13 (.aa 14 (.aa 15 (.aa 16 (.aa 17 (.aa 18 .done)))))))))))))))))))else if id=14 then(.aa 0 (.aa 1 (.aa 2 (.aa 3 (.aa 4 (.ao 5 [4] (.ao 6 [] .done)))))))else .done,fun s=>[22].contains s,fun _=>false,[],fun _ _ _=>False⟩
def T38:aQ:=⟨ty,az,fun _=>.done,fun _=>false,fun _=>false,[],fun _ _ _=>False⟩
def T39:aQ:=⟨ty,az,fun id=>if id=10 then(.aa 0 (.aa 1 (.aa 2 (.aa 3 (.aa 4 (.aa 5 (.aa 6 (.aa 7 (.aa 8 (.aa 9 (.aa 10 (.aa 11 (.ao 12 [4] (.ao 13 [] (.aa 14 (.aa 15 (.ao 16 [] .done)))))))))))))))))else .done,fun _=>false,fun _=>false,[],fun _ _ _=>False⟩
def T40:aQ:=⟨ty,az,fun id=>if id=11 then(.aa 0 (.aa 1 (.aa 2 (.aa 3 (.aa 4 (.aa 5 (.aa 6 (.aa 7 (.aa 8 (.aa 9 (.aa 10 (.aa 11 (.ao 12 [] .done)))))))))))))else .done,fun _=>false,fun _=>false,[],fun _ _ _=>False⟩
def T41:aQ:=⟨ty,az,fun id=>if id=1 then(.aa 0 (.aa 1 (.aa 2 (.aa 3 (.aa 4 (.aa 5 (.ao 6 [] (.ao 7 [] .done))))))))else .done,fun s=>[1].contains s,fun _=>false,[],fun _ _ _=>False⟩
def T44:aQ:=⟨ty,az,fun id=>if id=1 then(.aa 0 (.aa 1 (.aa 2 (.aa 3 (.aa 4 (.aa 5 (.aa 6 (.aa 7 (.aa 8 (.aa 9 (.aa 10 .done)))))))))))else if id=3 then(.aa 0 (.aa 1 (.aa 2 (.aa 3 (.aa 4 (.aa 5 (.aa 6 (.aa 7 (.aa 8 (.aa 9 (.ao 10 [] (.ao 11 [] .done))))))))))))else if id=11 then(.aa 0 (.aa 1 (.aa 2 (.aa 3 (.aa 4 (.aa 5 (.aa 7 (.ao 6 [] (.ao 8 [] .done)))))))))else if id=14 then(.aa 0 (.aa 1 (.aa 2 (.aa 3 (.aa 4 (.aa 5 (.ao 6 [] (.ao 7 [] .done))))))))else if id=15 then(.aa 0 (.aa 1 (.aa 3 (.ao 2 [3] (.ao 4 [] (.ao 5 [] (.aa 6 (.aa 7 (.ao 8 [] .done)))))))))else .done,fun s=>[1,56].contains s,fun _=>false,[],fun _ _ _=>False⟩
def T45:aQ:=⟨ty,az,fun id=>if id=11 then(.aa 0 (.aa 2 (.aa 3 (.aa 4 (.aa 5 (.ao 1 [5] (.ao 6 [5] (.ao 7 [] .done))))))))else if id=12 then(.aa 0 (.aa 1 (.aa 2 (.aa 3 (.aa 4 (.aa 5 (.aa 6 (.aa 7 (.aa 8 (.ao 9 [5] (.ao 10 [5] (.ao 11 [] (.aa 12 (.aa 13 (.aa 14 (.ao 15 [] .done))))))))))))))))else .done,fun _=>false,fun _=>false,[],fun _ _ _=>False⟩
def T46:aQ:=⟨ty,az,fun _=>.done,fun _=>false,fun _=>false,[],fun _ _ _=>False⟩
def T47:aQ:=⟨ty,az,fun id=>if id=11 then(.aa 0 (.aa 1 (.aa 2 (.aa 3 (.aa 4 (.aa 5 (.aa 6 (.aa 7 (.aa 8 (.aa 9 (.aa 10 (.aa 11 (.aa 12 (.aa 13 (.aa 14 (.ao 15 [] (.aa 16 .done)))))))))))))))))else .done,fun _=>false,fun _=>false,[],fun _ _ _=>False⟩
def Zm:aQ:=⟨ty,az,fun _=>.done,fun s=>[6].contains s,fun _=>false,[],fun _ _ _=>False⟩
def T49:aQ:=⟨ty,az,fun _=>.done,fun _=>false,fun _=>false,[],fun _ _ _=>False⟩
def Zl:aQ:=⟨ty,az,fun id=>if id=1 then(.aa 0 (.aa 1 (.aa 3 (.aa 4 (.aa 6 (.aa 7 (.aa 8 (.aa 10 (.aa 11 (.aa 12 (.ao 2 [12,8,4] (.ao 5 [12,8] (.ao 9 [12] (.ao 13 [] (.aa 14 (.aa 15 (.ao 16 [] .done)))))))))))))))))else .done,fun _=>false,fun _=>false,[],fun _ _ _=>False⟩
def T51:aQ:=⟨ty,az,fun id=>if id=11 then(.aa 0 (.aa 1 (.aa 2 (.aa 3 (.aa 4 (.aa 5 (.aa 6 (.aa 7 (.ao 8 [] .done)))))))))else if id=15 then(.aa 0 (.aa 1 (.aa 2 (.aa 3 (.aa 4 (.aa 5 (.aa 6 (.aa 7 (.ao 8 [] .done)))))))))else .done,fun _=>false,fun _=>false,[],fun _ _ _=>False⟩
def Zk:aQ:=⟨ty,az,fun _=>.done,fun _=>false,fun _=>false,[],fun _ _ _=>False⟩
def T54:aQ:=⟨ty,az,fun _=>.done,fun _=>false,fun _=>false,[],fun _ _ _=>False⟩
def T55:aQ:=⟨ty,az,fun _=>.done,fun _=>false,fun _=>false,[],fun _ _ _=>False⟩
def T56:aQ:=⟨ty,az,fun _=>.done,fun _=>false,fun _=>false,[],fun _ _ _=>False⟩
def T57:aQ:=⟨ty,az,fun _=>.done,fun _=>false,fun _=>false,[],fun _ _ _=>False⟩
def T59:aQ:=⟨ty,az,fun _=>.done,fun _=>false,fun _=>false,[],fun _ _ _=>False⟩
def T60:aQ:=⟨ty,az,fun _=>.done,fun _=>false,fun _=>false,[],fun _ _ _=>False⟩
def T61:aQ:=⟨ty,az,fun _=>.done,fun _=>false,fun _=>false,[],fun _ _ _=>False⟩
def T76:aQ:=⟨ty,az,fun _=>.done,fun _=>false,fun _=>false,[],fun _ _ _=>False⟩
def T77:aQ:=⟨ty,az,fun _=>.done,fun s=>[3].contains s,fun _=>false,[],fun _ _ _=>False⟩
def T78:aQ:=⟨ty,az,fun id=>if id=2 then(.aa 0 (.aa 1 (.aa 2 (.aa 3 (.aa 4 (.aa 5 (.aa 6 (.aa 7 (.aa 8 (.aa 9 (.aa 10 (.aa 11 (.aa 12 (.ao 13 [] .done))))))))))))))else if id=8 then(.aa 0 (.aa 1 (.aa 2 (.aa 3 (.aa 4 (.aa 5 (.ao 6 [] (.aa 7 (.aa 8 (.aa 9 (.aa 10 (.ao 11 [] .done))))))))))))else if id=9 then(.aa 0 (.aa 1 (.aa 2 (.aa 3 (.aa 4 (.aa 5 (.aa 6 (.aa 7 (.aa 8 (.aa 9 (.aa 10 (.aa 11 (.aa 12 (.aa 13 (.aa 14 (.aa 15 (.aa 16 .done)))))))))))))))))else if id=10 then(.aa 0 (.aa 1 (.aa 2 (.aa 3 (.aa 4 (.aa 5 (.aa 6 (.aa 7 (.aa 8 (.aa 9 (.aa 10 (.aa 11 (.aa 12 (.ao 13 [] (.aa 14 (.aa 15 (.aa 16 (.aa 17 (.aa 18 (.ao 19 [] .done))))))))))))))))))))else if id=11 then(.aa 0 (.aa 1 (.aa 2 (.aa 3 (.aa 4 (.aa 5 (.aa 6 (.aa 7 (.aa 8 (.aa 9 (.aa 10 (.aa 11 (.aa 12 (.aa 13 (.aa 14 (.aa 15 (.ao 16 [] .done)))))))))))))))))else .done,fun _=>false,fun _=>false,[],fun _ _ _=>False⟩
def T79:aQ:=⟨ty,az,fun id=>if id=1 then(.aa 0 (.aa 1 (.aa 2 (.aa 3 (.aa 4 (.aa 5 (.aa 6 (.aa 7 (.aa 8 (.aa 9 (.aa 10 (.ao 11 [] (.aa 12 (.aa 13 (.aa 14 (.aa 15 (.aa 16 (.ao 17 [] (.ao 18 [] .done)))))))))))))))))))else .done,fun _=>false,fun _=>false,[],fun _ _ _=>False⟩
def T80:aQ:=⟨ty,az,fun _=>.done,fun s=>[2,5,6].contains s,fun _=>false,[],fun _ _ _=>False⟩
def T81:aQ:=⟨ty,az,fun id=>if id=3 then(.aa 0 (.aa 1 (.aa 2 (.aa 3 (.aa 4 (.aa 5 (.aa 6 (.aa 7 (.aa 8 (.aa 9 (.aa 10 (.aa 11 (.aa 12 (.aa 13 (.aa 14 (.ao 15 [0] (.aa 16 (.aa 17 (.aa 18 (.aa 19 (.aa 20 (.ao 21 [] (.ao 22 [] .done)))))))))))))))))))))))else .done,fun _=>false,fun _=>false,[],fun _ _ _=>False⟩
def T82:aQ:=⟨ty,az,fun _=>.done,fun s=>[4,5,8].contains s,fun _=>false,[],fun _ _ _=>False⟩
def T83:aQ:=⟨ty,az,fun _=>.done,fun s=>[7].contains s,fun _=>false,[],fun _ _ _=>False⟩
def T84:aQ:=⟨ty,az,fun _=>.done,fun _=>false,fun _=>false,[],fun _ _ _=>False⟩
def T87:aQ:=⟨ty,az,fun id=>if id=5 then(.aa 0 (.aa 1 (.aa 2 (.aa 3 (.aa 4 (.aa 5 (.aa 6 (.aa 7 (.aa 8 (.aa 9 (.aa 10 (.aa 11 (.aa 12 (.aa 13 (.ao 14 [] .done)))))))))))))))else .done,fun _=>false,fun _=>false,[],fun _ _ _=>False⟩
def Zj:aQ:=⟨ty,az,fun _=>.done,fun _=>false,fun _=>false,[],fun _ _ _=>False⟩
def T91:aQ:=⟨ty,az,fun _=>.done,fun s=>[3].contains s,fun _=>false,[],fun _ _ _=>False⟩
def Zi:aQ:=⟨ty,az,fun _=>.done,fun _=>false,fun _=>false,[],fun _ _ _=>False⟩
def T96:aQ:=⟨ty,az,fun _=>.done,fun _=>false,fun _=>false,[],fun _ _ _=>False⟩
def T98:aQ:=⟨ty,az,fun _=>.done,fun _=>false,fun _=>false,[],fun _ _ _=>False⟩
def T99:aQ:=⟨ty,az,fun _=>.done,fun _=>false,fun _=>false,[],fun _ _ _=>False⟩
def XW:aQ:=⟨ty,az,fun id=>if id=5 then(.aa 0 (.aa 1 (.aa 2 (.aa 3 (.aa 4 (.aa 5 (.aa 6 (.aa 7 (.aa 8 (.aa 9 (.aa 10 (.aa 11 (.aa 12 (.ao 13 [0] (.aa 14 (.aa 15 (.aa 16 (.ao 17 [] .done))))))))))))))))))else if id=8 then(.aa 0 (.aa 1 (.aa 2 (.aa 3 (.aa 4 (.aa 5 (.aa 6 (.aa 7 (.aa 8 (.aa 9 (.aa 10 (.aa 11 (.aa 12 (.aa 13 (.aa 14 (.aa 15 (.aa 16 (.aa 17 (.aa 18 (.aa 19 (.aa 20 (.aa 21 (.aa 22 (.aa 23 (.aa 24 .done)))))))))))))))))))))))))else if id=10 then(.aa 0 (.aa 1 (.aa 2 (.aa 3 (.aa 4 (.aa 5 (.aa 6 (.ao 7 [] (.ao 8 [] .done)))))))))else .done,fun s=>[1].contains s,fun _=>false,[],fun _ _ _=>False⟩
def XV:aQ:=⟨ty,az,fun _=>.done,fun s=>[3,5,8].contains s,fun _=>false,[],fun _ _ _=>False⟩
def XU:aQ:=⟨ty,az,fun id=>if id=2 then(.aa 0 (.aa 1 (.aa 3 (.aa 4 (.aa 5 (.aa 6 (.aa 7 (.aa 10 (.ao 2 [7,3] (.ao 8 [] (.aa 9 .done)))))))))))else .done,fun s=>[2,8,9].contains s,fun _=>false,[],fun _ _ _=>False⟩
def XT:aQ:=⟨ty,az,fun _=>.done,fun s=>[2,3].contains s,fun _=>false,[],fun _ _ _=>False⟩
def XS:aQ:=⟨ty,az,fun _=>.done,fun _=>false,fun _=>false,[],fun _ _ _=>False⟩
def XR:aQ:=⟨ty,az,fun id=>if id=11 then(.aa 0 (.aa 1 (.aa 2 (.aa 3 (.aa 4 (.aa 5 (.aa 6 (.aa 7 (.ao 8 [] .done)))))))))else if id=15 then(.aa 0 (.aa 1 (.aa 2 (.aa 3 (.aa 4 (.aa 5 (.aa 6 (.aa 7 (.ao 8 [] .done)))))))))else .done,fun _=>false,fun _=>false,[],fun _ _ _=>False⟩
def XQ:aQ:=⟨ty,az,fun _=>.done,fun _=>false,fun _=>false,[],fun _ _ _=>False⟩
def XP:aQ:=⟨ty,az,fun id=>if id=8 then(.aa 0 (.aa 1 (.aa 2 (.aa 3 (.aa 4 (.aa 5 (.aa 6 (.ao 7 [] (.aa 8 (.aa 9 (.aa 10 (.ao 11 [] (.ao 12 [] .done)))))))))))))else .done,fun _=>false,fun _=>false,[],fun _ _ _=>False⟩
def XO:aQ:=⟨ty,az,fun _=>.done,fun _=>false,fun _=>false,[],fun _ _ _=>False⟩
def XN:aQ:=⟨ty,az,fun id=>if id=4 then(.aa 0 (.aa 1 (.aa 2 (.aa 3 (.aa 4 (.aa 5 (.aa 6 .done)))))))else if id=5 then(.aa 0 (.aa 1 (.aa 2 (.aa 3 (.aa 4 (.aa 5 (.aa 6 (.ao 7 [] .done))))))))else .done,fun _=>false,fun _=>false,[],fun _ _ _=>False⟩
def XM:aQ:=⟨ty,az,fun _=>.done,fun _=>false,fun _=>false,[],fun _ _ _=>False⟩
def XK:aQ:=⟨ty,az,fun _=>.done,fun _=>false,fun _=>false,[],fun _ _ _=>False⟩
def XJ:aQ:=⟨ty,az,fun _=>.done,fun _=>false,fun _=>false,[],fun _ _ _=>False⟩
def MF:aQ:=⟨ty,az,fun _=>.done,fun _=>false,fun _=>false,[],fun _ _ _=>False⟩
def ME:aQ:=⟨ty,az,fun id=>if id=1 then(.aa 0 (.aa 1 (.aa 3 (.aa 4 (.ao 2 [4] (.aa 6 (.ao 5 [] (.ao 7 [] (.aa 8 (.ao 9 [] .done))))))))))else .done,fun _=>false,fun _=>false,[],fun _ _ _=>False⟩
def MD:aQ:=⟨ty,az,fun _=>.done,fun _=>false,fun _=>false,[],fun _ _ _=>False⟩
def XI:aQ:=⟨ty,az,fun _=>.done,fun _=>false,fun _=>false,[],fun _ _ _=>False⟩
def XH:aQ:=⟨ty,az,fun id=>if id=1 then(.aa 0 (.aa 1 (.aa 2 (.aa 3 (.aa 4 (.aa 5 (.aa 6 (.aa 7 (.aa 8 (.aa 9 (.aa 10 (.ao 11 [] .done))))))))))))else .done,fun _=>false,fun _=>false,[],fun _ _ _=>False⟩
def XG:aQ:=⟨ty,az,fun _=>.done,fun _=>false,fun _=>false,[],fun _ _ _=>False⟩
def XF:aQ:=⟨ty,az,fun id=>if id=1 then(.aa 0 (.aa 1 (.aa 2 (.aa 3 (.aa 4 (.aa 5 (.aa 6 (.aa 7 (.aa 8 (.aa 9 (.aa 10 (.ao 11 [] .done))))))))))))else .done,fun _=>false,fun _=>false,[],fun _ _ _=>False⟩
def XE:aQ:=⟨ty,az,fun id=>if id=4 then(.aa 0 (.aa 1 (.aa 2 (.ao 3 [1] (.ao 4 [1] (.ao 5 [] (.aa 6 (.ao 7 [] .done))))))))else if id=6 then(.aa 0 (.aa 1 (.aa 2 (.ao 3 [1] (.ao 4 [1] (.ao 5 [] (.aa 6 (.ao 7 [] .done))))))))else .done,fun _=>false,fun _=>false,[],fun _ _ _=>False⟩
def XD:aQ:=⟨ty,az,fun id=>if id=6 then(.aa 0 (.aa 1 (.aa 2 (.ao 3 [1] (.ao 4 [1] (.ao 5 [] (.aa 6 (.ao 7 [] .done))))))))else if id=8 then(.aa 0 (.aa 1 (.aa 2 (.ao 3 [1] (.ao 4 [1] (.ao 5 [] (.aa 6 (.ao 7 [] .done))))))))else .done,fun _=>false,fun _=>false,[],fun _ _ _=>False⟩
def XC:aQ:=⟨ty,az,fun _=>.done,fun _=>false,fun _=>false,[],fun _ _ _=>False⟩
def XB:aQ:=⟨ty,az,fun id=>if id=6 then(.aa 0 (.aa 1 (.aa 2 (.ao 3 [1] (.ao 4 [1] (.ao 5 [] (.aa 6 (.ao 7 [] .done))))))))else if id=22 then(.aa 0 (.aa 1 (.aa 2 (.aa 3 (.aa 4 (.aa 5 (.aa 6 (.aa 7 (.aa 8 (.aa 9 (.aa 10 (.ao 11 [] .done))))))))))))else .done,fun _=>false,fun _=>false,[],fun _ _ _=>False⟩
def XA:aQ:=⟨ty,az,fun _=>.done,fun _=>false,fun _=>false,[],fun _ _ _=>False⟩
def Xz:aQ:=⟨ty,az,fun id=>if id=5 then(.aa 0 (.aa 1 (.aa 2 (.aa 3 (.aa 4 (.aa 5 (.ao 6 [] (.ao 7 [] .done))))))))else .done,fun _=>false,fun _=>false,[],fun _ _ _=>False⟩
def Xy:aQ:=⟨ty,az,fun id=>if id=1 then(.aa 0 (.aa 1 (.aa 2 (.aa 4 (.aa 5 (.aa 6 (.ao 3 [5] (.ao 7 [] (.aa 8 (.ao 9 [] .done))))))))))else .done,fun _=>false,fun _=>false,[],fun _ _ _=>False⟩
def Xx:aQ:=⟨ty,az,fun _=>.done,fun _=>false,fun _=>false,[],fun _ _ _=>False⟩
def Xw:aQ:=⟨ty,az,fun _=>.done,fun _=>false,fun _=>false,[],fun _ _ _=>False⟩
def Xv:aQ:=⟨ty,az,fun _=>.done,fun s=>[1].contains s,fun _=>false,[],fun _ _ _=>False⟩
def Xu:aQ:=⟨ty,az,fun id=>if id=5 then(.aa 0 (.aa 1 (.aa 2 (.ao 3 [0] (.ao 4 [] (.aa 5 (.aa 6 (.aa 7 (.ao 8 [] (.ao 9 [] .done))))))))))else if id=10 then(.aa 0 (.aa 1 (.aa 2 (.aa 3 (.aa 4 (.aa 5 (.aa 6 (.aa 8 (.aa 9 (.aa 10 (.aa 11 (.ao 7 [9,2,0] (.ao 12 [0] (.ao 13 [] (.ao 14 [] (.ao 15 [] .done))))))))))))))))else .done,fun _=>false,fun _=>false,[],fun _ _ _=>False⟩
def Xt:aQ:=⟨ty,az,fun id=>if id=5 then(.aa 0 (.aa 1 (.aa 2 (.aa 3 (.aa 4 (.aa 5 (.aa 6 (.aa 7 (.aa 8 (.aa 9 (.aa 10 (.aa 13 (.aa 14 (.aa 15 (.aa 16 (.aa 17 (.ao 11 [17,14,0] (.ao 12 [17,14] (.ao 18 [] (.ao 19 [] (.ao 20 [] (.ao 21 [] .done))))))))))))))))))))))else .done,fun _=>false,fun _=>false,[],fun _ _ _=>False⟩
def Xs:aQ:=⟨ty,az,fun _=>.done,fun _=>false,fun _=>false,[],fun _ _ _=>False⟩
def Xr:aQ:=⟨ty,az,fun _=>.done,fun _=>false,fun _=>false,[],fun _ _ _=>False⟩
def Xq:aQ:=⟨ty,az,fun _=>.done,fun _=>false,fun _=>false,[],fun _ _ _=>False⟩
def Xp:aQ:=⟨ty,az,fun _=>.done,fun _=>false,fun _=>false,[],fun _ _ _=>False⟩
def Xo:aQ:=⟨ty,az,fun _=>.done,fun s=>[6,7].contains s,fun _=>false,[],fun _ _ _=>False⟩
def Xn:aQ:=⟨ty,az,fun id=>if id=2 then(.aa 0 (.aa 1 (.aa 4 (.ao 2 [0] (.aa 3 (.ao 5 [] (.ao 6 [] (.ao 7 [] .done))))))))else .done,fun _=>false,fun _=>false,[],fun _ _ _=>False⟩
def Xm:aQ:=⟨ty,az,fun id=>if id=13 then(.aa 0 (.aa 1 (.aa 2 (.aa 3 (.aa 4 (.aa 5 (.aa 6 (.aa 7 (.ao 8 [] .done)))))))))else if id=14 then(.aa 0 (.aa 1 (.aa 2 (.aa 3 (.aa 4 (.aa 5 (.ao 6 [4] (.ao 7 [] (.aa 8 (.aa 9 (.ao 10 [] .done)))))))))))else .done,fun _=>false,fun _=>false,[],fun _ _ _=>False⟩
def Xl:aQ:=⟨ty,az,fun _=>.done,fun _=>false,fun _=>false,[],fun _ _ _=>False⟩
def MC:aQ:=⟨ty,az,fun _=>.done,fun _=>false,fun _=>false,[],fun _ _ _=>False⟩
def Xk:aQ:=⟨ty,az,fun _=>.done,fun _=>false,fun _=>false,[],fun _ _ _=>False⟩
def Xj:aQ:=⟨ty,az,fun _=>.done,fun _=>false,fun _=>false,[],fun _ _ _=>False⟩
def Xi:aQ:=⟨ty,az,fun _=>.done,fun _=>false,fun _=>false,[],fun _ _ _=>False⟩
def Xh:aQ:=⟨ty,az,fun id=>if id=1 then(.aa 0 (.aa 1 (.aa 2 (.aa 3 (.aa 4 (.aa 5 (.aa 6 (.aa 7 (.aa 8 (.ao 9 [] (.ao 10 [] .done)))))))))))else .done,fun _=>false,fun _=>false,[],fun _ _ _=>False⟩
def Xg:aQ:=⟨ty,az,fun id=>if id=1 then(.aa 0 (.aa 1 (.aa 2 (.aa 3 (.aa 4 (.aa 5 (.aa 6 (.aa 7 (.aa 8 (.ao 9 [] (.ao 10 [] .done)))))))))))else .done,fun _=>false,fun _=>false,[],fun _ _ _=>False⟩
def Xf:aQ:=⟨ty,az,fun id=>if id=1 then(.aa 0 (.aa 1 (.aa 2 (.aa 3 (.aa 4 (.aa 5 (.aa 6 (.ao 7 [] (.ao 8 [] .done)))))))))else .done,fun _=>false,fun _=>false,[],fun _ _ _=>False⟩
def ED:aQ:=⟨ty,az,fun _=>.done,fun _=>false,fun _=>false,[],fun _ _ _=>False⟩
def Xe:aQ:=⟨ty,az,fun id=>if id=4 then(.aa 0 (.aa 1 (.aa 2 (.aa 3 (.aa 4 (.aa 5 (.ao 6 [] (.ao 7 [] .done))))))))else if id=5 then(.aa 0 (.aa 1 (.aa 2 (.aa 3 (.aa 4 (.aa 5 (.ao 6 [] (.aa 7 (.aa 8 (.aa 9 (.ao 10 [] (.ao 11 [] .done))))))))))))else .done,fun _=>false,fun _=>false,[],fun _ _ _=>False⟩
def Xd:aQ:=⟨ty,az,fun id=>if id=1 then(.aa 0 (.aa 1 (.aa 2 (.aa 3 (.aa 4 (.aa 5 (.aa 6 (.ao 7 [0] (.aa 8 (.aa 9 (.aa 10 (.aa 11 (.aa 12 (.ao 13 [] (.ao 14 [] .done)))))))))))))))else .done,fun _=>false,fun _=>false,[],fun _ _ _=>False⟩
def Xc:aQ:=⟨ty,az,fun _=>.done,fun _=>false,fun _=>false,[],fun _ _ _=>False⟩
def Xb:aQ:=⟨ty,az,fun id=>if id=1 then(.aa 0 (.aa 1 (.aa 2 (.aa 3 (.aa 4 (.aa 5 (.aa 6 (.ao 7 [0] (.aa 8 (.aa 9 (.aa 10 (.aa 11 (.aa 12 (.ao 13 [] (.ao 14 [] .done)))))))))))))))else .done,fun _=>false,fun _=>false,[],fun _ _ _=>False⟩
def Xa:aQ:=⟨ty,az,fun _=>.done,fun _=>false,fun _=>false,[],fun _ _ _=>False⟩
def vw:aQ:=⟨ty,az,fun _=>.done,fun _=>false,fun _=>false,[],fun _ _ _=>False⟩
def W9:aQ:=⟨ty,az,fun _=>.done,fun _=>false,fun _=>false,[],fun _ _ _=>False⟩
def W8:aQ:=⟨ty,az,fun _=>.done,fun _=>false,fun _=>false,[],fun _ _ _=>False⟩
def W7:aQ:=⟨ty,az,fun id=>if id=5 then(.aa 0 (.aa 1 (.aa 2 (.aa 3 (.aa 4 (.aa 5 (.aa 6 (.aa 7 (.aa 8 (.ao 9 [] (.aa 10 (.aa 11 (.aa 12 (.ao 13 [] (.ao 14 [] .done)))))))))))))))else .done,fun _=>false,fun _=>false,[],fun _ _ _=>False⟩
def W6:aQ:=⟨ty,az,fun _=>.done,fun s=>[4].contains s,fun _=>false,[],fun _ _ _=>False⟩
def W5:aQ:=⟨ty,az,fun id=>if id=2 then(.aa 0 (.aa 1 (.aa 2 (.aa 3 (.aa 4 (.aa 5 (.aa 6 (.aa 7 (.aa 8 (.aa 9 (.ao 10 [] (.aa 11 (.aa 12 (.aa 13 (.ao 14 [] (.ao 15 [] .done))))))))))))))))else if id=5 then(.aa 0 (.aa 1 (.aa 2 (.aa 3 (.aa 4 (.aa 5 (.aa 6 (.aa 7 (.aa 8 (.aa 9 (.ao 10 [] (.aa 11 (.aa 12 (.aa 13 (.ao 14 [] (.ao 15 [] .done))))))))))))))))else .done,fun _=>false,fun _=>false,[],fun _ _ _=>False⟩
def W4:aQ:=⟨ty,az,fun _=>.done,fun _=>false,fun _=>false,[],fun _ _ _=>False⟩
def W3:aQ:=⟨ty,az,fun _=>.done,fun _=>false,fun _=>false,[],fun _ _ _=>False⟩
def W2:aQ:=⟨ty,az,fun _=>.done,fun _=>false,fun _=>false,[],fun _ _ _=>False⟩
def W0:aQ:=⟨ty,az,fun id=>if id=9 then(.aa 0 (.aa 1 (.aa 2 (.aa 3 (.aa 4 (.aa 5 (.aa 6 (.aa 7 (.aa 8 (.aa 9 (.aa 10 (.aa 11 (.aa 12 (.aa 13 (.aa 14 (.aa 15 (.aa 16 .done)))))))))))))))))else .done,fun s=>[2,5].contains s,fun _=>false,[],fun _ _ _=>False⟩
def WZ:aQ:=⟨ty,az,fun _=>.done,fun _=>false,fun _=>false,[],fun _ _ _=>False⟩
def WY:aQ:=⟨ty,az,fun id=>if id=5 then(.aa 0 (.aa 1 (.aa 2 (.aa 3 (.aa 4 (.aa 5 (.aa 6 (.aa 7 (.aa 8 (.ao 9 [] (.ao 10 [] .done)))))))))))else .done,fun s=>[3,4,6].contains s,fun _=>false,[],fun _ _ _=>False⟩
def Am:aQ:=⟨ty,az,fun _=>.done,fun _=>false,fun _=>false,[],fun _ _ _=>False⟩
def WX:aQ:=⟨ty,az,fun _=>.done,fun _=>false,fun _=>false,[],fun _ _ _=>False⟩
def WW:aQ:=⟨ty,az,fun _=>.done,fun _=>false,fun _=>false,[],fun _ _ _=>False⟩
def WV:aQ:=⟨ty,az,fun _=>.done,fun _=>false,fun _=>false,[],fun _ _ _=>False⟩
def WU:aQ:=⟨ty,az,fun _=>.done,fun _=>false,fun _=>false,[],fun _ _ _=>False⟩
def WT:aQ:=⟨ty,az,fun _=>.done,fun _=>false,fun _=>false,[],fun _ _ _=>False⟩
def MB:aQ:=⟨ty,az,fun _=>.done,fun _=>false,fun _=>false,[],fun _ _ _=>False⟩
def WS:aQ:=⟨ty,az,fun _=>.done,fun _=>false,fun _=>false,[],fun _ _ _=>False⟩
def WR:aQ:=⟨ty,az,fun _=>.done,fun _=>false,fun _=>false,[],fun _ _ _=>False⟩
def WQ:aQ:=⟨ty,az,fun _=>.done,fun _=>false,fun _=>false,[],fun _ _ _=>False⟩
def WO:aQ:=⟨ty,az,fun _=>.done,fun _=>false,fun _=>false,[],fun _ _ _=>False⟩
def WN:aQ:=⟨ty,az,fun _=>.done,fun _=>false,fun _=>false,[],fun _ _ _=>False⟩
def WM:aQ:=⟨ty,az,fun _=>.done,fun _=>false,fun _=>false,[],fun _ _ _=>False⟩
def WL:aQ:=⟨ty,az,fun _=>.done,fun _=>false,fun _=>false,[],fun _ _ _=>False⟩
def WK:aQ:=⟨ty,az,fun _=>.done,fun _=>false,fun _=>false,[],fun _ _ _=>False⟩
def WJ:aQ:=⟨ty,az,fun _=>.done,fun _=>false,fun _=>false,[],fun _ _ _=>False⟩
def WI:aQ:=⟨ty,az,fun _=>.done,fun _=>false,fun _=>false,[],fun _ _ _=>False⟩
def WH:aQ:=⟨ty,az,fun _=>.done,fun _=>false,fun _=>false,[],fun _ _ _=>False⟩
def WG:aQ:=⟨ty,az,fun _=>.done,fun _=>false,fun _=>false,[],fun _ _ _=>False⟩
def WE:aQ:=⟨ty,az,fun _=>.done,fun _=>false,fun _=>false,[],fun _ _ _=>False⟩
def WD:aQ:=⟨ty,az,fun _=>.done,fun _=>false,fun _=>false,[],fun _ _ _=>False⟩
def WC:aQ:=⟨ty,az,fun _=>.done,fun _=>false,fun _=>false,[],fun _ _ _=>False⟩
def WB:aQ:=⟨ty,az,fun id=>if id=3 then(.aa 0 (.aa 1 (.ao 2 [0] (.ao 3 [0] (.aa 4 (.ao 5 [] .done))))))else .done,fun _=>false,fun _=>false,[],fun _ _ _=>False⟩
def WA:aQ:=⟨ty,az,fun _=>.done,fun s=>[2].contains s,fun _=>false,[],fun _ _ _=>False⟩
def Wz:aQ:=⟨ty,az,fun _=>.done,fun _=>false,fun _=>false,[],fun _ _ _=>False⟩
def Wy:aQ:=⟨ty,az,fun id=>if id=9 then(.aa 0 (.aa 1 (.aa 2 (.aa 3 (.aa 4 (.aa 5 (.ao 6 [] (.aa 7 (.aa 8 (.aa 9 (.ao 10 [] (.ao 11 [] .done))))))))))))else .done,fun s=>[4,5,6,7].contains s,fun _=>false,[],fun _ _ _=>False⟩
def Wx:aQ:=⟨ty,az,fun _=>.done,fun _=>false,fun _=>false,[],fun _ _ _=>False⟩
def MA:aQ:=⟨ty,az,fun _=>.done,fun _=>false,fun _=>false,[],fun _ _ _=>False⟩
def Ww:aQ:=⟨ty,az,fun id=>if id=10 then(.aa 0 (.aa 1 (.aa 2 (.aa 3 (.aa 4 (.aa 5 (.aa 6 (.aa 7 (.aa 8 (.aa 9 (.aa 10 (.aa 11 (.ao 12 [] (.ao 13 [] .done))))))))))))))else if id=11 then(.aa 0 (.aa 1 (.aa 2 (.aa 3 (.aa 4 (.aa 5 (.aa 6 (.aa 7 (.aa 8 (.aa 9 (.aa 10 (.aa 11 (.ao 12 [] (.ao 13 [] .done))))))))))))))else .done,fun _=>false,fun _=>false,[],fun _ _ _=>False⟩
def Wv:aQ:=⟨ty,az,fun id=>if id=1 then(.aa 0 (.aa 2 (.aa 3 (.fork (.ao 1 [] (.fork (.ao 4 [] (.ao 5 [] (.ao 6 [] .done))) (.ao 5 [] (.ao 4 [] (.ao 6 [] .done))))) (.ao 4 [] (.ao 1 [] (.ao 5 [] (.ao 6 [] .done))))))))else .done,fun _=>false,fun _=>false,[],fun _ _ _=>False⟩
def Wu:aQ:=⟨ty,az,fun _=>.done,fun _=>false,fun _=>false,[],fun _ _ _=>False⟩
def Ws:aQ:=⟨ty,az,fun _=>.done,fun _=>false,fun _=>false,[],fun _ _ _=>False⟩
def Wr:aQ:=⟨ty,az,fun id=>if id=1 then(.aa 0 (.aa 1 (.aa 2 (.aa 3 (.aa 5 (.aa 6 (.aa 7 (.aa 8 (.aa 10 (.aa 11 (.aa 12 (.aa 13 (.ao 4 [13,11,8,6] (.ao 9 [13,11] (.ao 14 [] (.ao 15 [] (.ao 16 [] (.ao 17 [] .done))))))))))))))))))else .done,fun _=>false,fun _=>false,[],fun _ _ _=>False⟩
def Wq:aQ:=⟨ty,az,fun _=>.done,fun _=>false,fun _=>false,[],fun _ _ _=>False⟩
def Mz:aQ:=⟨ty,az,fun _=>.done,fun _=>false,fun _=>false,[],fun _ _ _=>False⟩
def Wp:aQ:=⟨ty,az,fun _=>.done,fun _=>false,fun _=>false,[],fun _ _ _=>False⟩
def Wo:aQ:=⟨ty,az,fun _=>.done,fun _=>false,fun _=>false,[],fun _ _ _=>False⟩
def Wn:aQ:=⟨ty,az,fun id=>if id=6 then(.aa 0 (.aa 1 (.aa 2 (.aa 3 (.aa 4 (.aa 5 (.ao 6 [4] (.ao 7 [] (.aa 8 (.aa 9 (.ao 10 [] .done)))))))))))else .done,fun _=>false,fun _=>false,[],fun _ _ _=>False⟩
def Wm:aQ:=⟨ty,az,fun _=>.done,fun _=>false,fun _=>false,[],fun _ _ _=>False⟩
def Wl:aQ:=⟨ty,az,fun id=>if id=3 then(.aa 0 (.aa 1 (.ao 2 [0] (.aa 3 (.aa 4 (.aa 5 (.aa 6 (.aa 7 (.aa 8 (.aa 9 (.aa 10 (.aa 11 (.aa 12 (.aa 13 (.aa 14 (.aa 15 (.aa 16 (.aa 17 (.aa 18 (.ao 19 [] .done))))))))))))))))))))else .done,fun _=>false,fun _=>false,[],fun _ _ _=>False⟩
def Wj:aQ:=⟨ty,az,fun _=>.done,fun _=>false,fun _=>false,[],fun _ _ _=>False⟩
def Wi:aQ:=⟨ty,az,fun _=>.done,fun _=>false,fun _=>false,[],fun _ _ _=>False⟩
def Wh:aQ:=⟨ty,az,fun id=>if id=5 then(.aa 0 (.aa 1 (.aa 2 (.aa 3 (.aa 4 (.aa 5 (.ao 6 [] (.aa 7 .done))))))))else if id=8 then(.aa 0 (.aa 1 (.aa 2 (.aa 3 (.aa 4 (.aa 5 (.aa 6 (.aa 7 (.aa 8 (.aa 9 (.aa 10 (.ao 11 [] (.aa 12 (.aa 13 (.ao 14 [] (.ao 15 [] .done))))))))))))))))else .done,fun _=>false,fun _=>false,[],fun _ _ _=>False⟩
def Wg:aQ:=⟨ty,az,fun id=>if id=1 then(.aa 0 (.aa 1 (.aa 3 (.ao 2 [3] (.ao 4 [] (.ao 5 [] .done))))))else .done,fun _=>false,fun _=>false,[],fun _ _ _=>False⟩
def We:aQ:=⟨ty,az,fun id=>if id=1 then(.aa 0 (.aa 1 (.aa 2 (.aa 3 (.aa 4 (.aa 5 (.aa 6 (.aa 7 (.aa 8 (.aa 9 (.ao 10 [0] (.aa 11 (.aa 12 (.aa 13 (.aa 14 (.aa 15 (.aa 16 (.ao 17 [] (.ao 18 [] .done)))))))))))))))))))else .done,fun _=>false,fun _=>false,[],fun _ _ _=>False⟩
def Wc:aQ:=⟨ty,az,fun id=>if id=2 then(.aa 0 (.aa 1 (.aa 2 (.aa 3 (.aa 4 (.aa 5 (.aa 6 (.aa 7 (.aa 8 (.aa 9 (.aa 10 (.aa 11 (.aa 12 (.aa 13 (.aa 14 (.aa 15 (.aa 16 (.aa 17 (.aa 18 (.ao 19 [] .done))))))))))))))))))))else if id=4 then(.aa 0 (.aa 1 (.aa 3 (.aa 4 (.aa 5 (.aa 6 (.aa 9 (.ao 2 [6,4] (.ao 7 [] (.aa 8 (.ao 10 [] .done)))))))))))else .done,fun _=>false,fun _=>false,[],fun _ _ _=>False⟩
def Wb:aQ:=⟨ty,az,fun _=>.done,fun _=>false,fun _=>false,[],fun _ _ _=>False⟩
def Wa:aQ:=⟨ty,az,fun id=>if id=5 then(.aa 0 (.aa 1 (.aa 2 (.aa 3 (.aa 4 (.ao 5 [2] (.ao 6 [] (.ao 7 [] .done))))))))else if id=12 then(.aa 0 (.aa 1 (.aa 2 (.aa 3 (.aa 4 (.aa 5 (.aa 6 (.aa 7 (.aa 8 (.aa 9 (.aa 10 (.aa 11 (.ao 12 [] (.aa 13 (.aa 14 (.ao 15 [] (.ao 16 [] .done)))))))))))))))))else if id=13 then(.aa 0 (.aa 1 (.aa 2 (.aa 3 (.aa 4 (.aa 5 (.aa 6 (.aa 7 (.aa 8 (.aa 9 (.aa 10 (.aa 11 (.ao 12 [] (.aa 13 (.aa 14 (.ao 15 [] (.ao 16 [] .done)))))))))))))))))else .done,fun _=>false,fun _=>false,[],fun _ _ _=>False⟩
def V9:aQ:=⟨ty,az,fun _=>.done,fun _=>false,fun _=>false,[],fun _ _ _=>False⟩
def V8:aQ:=⟨ty,az,fun _=>.done,fun _=>false,fun _=>false,[],fun _ _ _=>False⟩
def V7:aQ:=⟨ty,az,fun _=>.done,fun _=>false,fun _=>false,[],fun _ _ _=>False⟩
def V6:aQ:=⟨ty,az,fun _=>.done,fun _=>false,fun _=>false,[],fun _ _ _=>False⟩
def V5:aQ:=⟨ty,az,fun _=>.done,fun _=>false,fun _=>false,[],fun _ _ _=>False⟩
def V4:aQ:=⟨ty,az,fun _=>.done,fun _=>false,fun _=>false,[],fun _ _ _=>False⟩
def V3:aQ:=⟨ty,az,fun _=>.done,fun _=>false,fun _=>false,[],fun _ _ _=>False⟩
def V2:aQ:=⟨ty,az,fun _=>.done,fun _=>false,fun _=>false,[],fun _ _ _=>False⟩
def V1:aQ:=⟨ty,az,fun id=>if id=0 then(.aa 0 (.aa 1 (.aa 2 (.aa 3 (.ao 4 [] (.ao 5 [] .done))))))else .done,fun _=>false,fun _=>false,[],fun _ _ _=>False⟩
def V0:aQ:=⟨ty,az,fun _=>.done,fun _=>false,fun _=>false,[],fun _ _ _=>False⟩
def VZ:aQ:=⟨ty,az,fun _=>.done,fun _=>false,fun _=>false,[],fun _ _ _=>False⟩
def VY:aQ:=⟨ty,az,fun _=>.done,fun _=>false,fun _=>false,[],fun _ _ _=>False⟩
def VX:aQ:=⟨ty,az,fun _=>.done,fun s=>[3].contains s,fun _=>false,[],fun _ _ _=>False⟩
def VW:aQ:=⟨ty,az,fun _=>.done,fun _=>false,fun _=>false,[],fun _ _ _=>False⟩
def VV:aQ:=⟨ty,az,fun _=>.done,fun _=>false,fun _=>false,[],fun _ _ _=>False⟩
def VU:aQ:=⟨ty,az,fun _=>.done,fun _=>false,fun _=>false,[],fun _ _ _=>False⟩
def VT:aQ:=⟨ty,az,fun id=>if id=9 then(.aa 0 (.aa 1 (.aa 2 (.aa 3 (.aa 4 (.aa 5 (.aa 6 (.aa 7 (.aa 8 (.aa 9 (.aa 10 (.aa 11 (.aa 13 (.aa 14 (.fork (.ao 12 [14,5,3] (.ao 15 [5,3] (.ao 16 [5,3] (.ao 17 [] .done)))) (.ao 15 [11,9,5,3] (.ao 12 [5,3] (.ao 16 [5,3] (.ao 17 [] .done)))))))))))))))))))else .done,fun s=>[10].contains s,fun _=>false,[],fun _ _ _=>False⟩
def VS:aQ:=⟨ty,az,fun id=>if id=6 then(.aa 0 (.aa 1 (.aa 2 (.aa 3 (.aa 4 (.aa 5 (.aa 6 (.aa 9 (.ao 7 [] (.aa 8 .done))))))))))else .done,fun _=>false,fun _=>false,[],fun _ _ _=>False⟩
def VR:aQ:=⟨ty,az,fun _=>.done,fun _=>false,fun _=>false,[],fun _ _ _=>False⟩
def VQ:aQ:=⟨ty,az,fun _=>.done,fun _=>false,fun _=>false,[],fun _ _ _=>False⟩
def VP:aQ:=⟨ty,az,fun _=>.done,fun _=>false,fun _=>false,[],fun _ _ _=>False⟩
def VO:aQ:=⟨ty,az,fun _=>.done,fun _=>false,fun _=>false,[],fun _ _ _=>False⟩
def VN:aQ:=⟨ty,az,fun id=>if id=5 then(.aa 0 (.aa 1 (.ao 2 [0] (.aa 3 .done))))else .done,fun _=>false,fun _=>false,[],fun _ _ _=>False⟩
def VM:aQ:=⟨ty,az,fun _=>.done,fun _=>false,fun _=>false,[],fun _ _ _=>False⟩
def VL:aQ:=⟨ty,az,fun _=>.done,fun _=>false,fun _=>false,[],fun _ _ _=>False⟩
def VK:aQ:=⟨ty,az,fun _=>.done,fun _=>false,fun _=>false,[],fun _ _ _=>False⟩
def VJ:aQ:=⟨ty,az,fun _=>.done,fun _=>false,fun _=>false,[],fun _ _ _=>False⟩
def VI:aQ:=⟨ty,az,fun _=>.done,fun _=>false,fun _=>false,[],fun _ _ _=>False⟩
def VH:aQ:=⟨ty,az,fun _=>.done,fun _=>false,fun _=>false,[],fun _ _ _=>False⟩
def My:aQ:=⟨ty,az,fun _=>.done,fun _=>false,fun _=>false,[],fun _ _ _=>False⟩
def VG:aQ:=⟨ty,az,fun _=>.done,fun _=>false,fun _=>false,[],fun _ _ _=>False⟩
def VF:aQ:=⟨ty,az,fun _=>.done,fun _=>false,fun _=>false,[],fun _ _ _=>False⟩
def VE:aQ:=⟨ty,az,fun _=>.done,fun _=>false,fun _=>false,[],fun _ _ _=>False⟩
def VD:aQ:=⟨ty,az,fun _=>.done,fun _=>false,fun _=>false,[],fun _ _ _=>False⟩
def VC:aQ:=⟨ty,az,fun _=>.done,fun _=>false,fun _=>false,[],fun _ _ _=>False⟩
def VB:aQ:=⟨ty,az,fun _=>.done,fun _=>false,fun _=>false,[],fun _ _ _=>False⟩
def VA:aQ:=⟨ty,az,fun _=>.done,fun _=>false,fun _=>false,[],fun _ _ _=>False⟩
def Vz:aQ:=⟨ty,az,fun _=>.done,fun _=>false,fun _=>false,[],fun _ _ _=>False⟩
def Vy:aQ:=⟨ty,az,fun _=>.done,fun _=>false,fun _=>false,[],fun _ _ _=>False⟩
def Vx:aQ:=⟨ty,az,fun _=>.done,fun _=>false,fun _=>false,[],fun _ _ _=>False⟩
def Vw:aQ:=⟨ty,az,fun _=>.done,fun _=>false,fun _=>false,[],fun _ _ _=>False⟩
def Vv:aQ:=⟨ty,az,fun _=>.done,fun _=>false,fun _=>false,[],fun _ _ _=>False⟩
def Vu:aQ:=⟨ty,az,fun _=>.done,fun _=>false,fun _=>false,[],fun _ _ _=>False⟩
def Vt:aQ:=⟨ty,az,fun _=>.done,fun _=>false,fun _=>false,[],fun _ _ _=>False⟩
def Vs:aQ:=⟨ty,az,fun id=>if id=1 then(.aa 0 (.aa 1 (.aa 2 (.aa 3 (.aa 4 (.aa 5 (.aa 6 (.aa 7 (.aa 8 (.aa 9 (.aa 10 (.ao 11 [] .done))))))))))))else .done,fun _=>false,fun _=>false,[],fun _ _ _=>False⟩
theorem OH{c:Prop}[Decidable c]{a b:Ti}{q:Prop}(ha:c->a=.none\/q)(hb:¬c->b=.none\/q):(if c then a else b)=.none\/q:=by
 by_cases h:c
 ·rw[if_pos h];exact ha h
 ·rw[if_neg h];exact hb h
theorem N6(t:Nat):ty t=.none\/t∈Ft:=by
 unfold ty;repeat' (first
  |exact .inl rfl
  | (refine OH (fun e=>?_) (fun e=>?_)))
 all_goals (right;rw[e];decide)
theorem N7:Ft.map ty=Ft.map (OX Tryz.prog):=by kernel_rfl
theorem Qx:((List.range fnN).all fun f=>NL.contains f||(match Tryz.prog.funcs[f]? with
 |some fn=>fn.body.isSome&&decide (fn.name≠ "runtime.NumGoroutine")
 |none=>false))=true:=by kernel_rfl
theorem mixed:Tryz.prog.follows .mixedOrders=true:=by kernel_rfl
theorem kO(pl:Nat->oh)(pb pn:Nat->Bool)(rs:List Nat)(kp:List PanicEntry->List SV->ad->Prop):dx Tryz.prog ⟨ty,az,pl,pb,pn,rs,kp⟩where
 ty t:=by
  rcases N6 t with h|h
  ·exact .inr h
  ·exact .inl (List.map_inj_left.1 N7 t h)
 fn f h:=by
  have h:az f=true:=h;unfold az at h;split at h
  ·rename_i aG;have h1:=List.all_eq_true.1 Qx f (by simpa using aG);simp only[Bool.or_eq_true]at h1;rcases h1 with h1|h1
   ·rw[h1]at h;cases h
   ·split at h1
    ·rename_i fn Uf;simp only[Bool.and_eq_true,decide_eq_true_eq]at h1;exact⟨fn,Uf,h1.1,h1.2⟩
    ·cases h1
  ·cases h
 mixed:=mixed
theorem ar(pl:Nat->oh)(pb:Nat->Bool):dx Tryz.prog ⟨ty,az,pl,pb,fun _=>false,[],fun _ _ _=>False⟩:=kO pl pb _ _ _
end Go.S
