/- Part 6 of what all laws of layer 8 need: a logic of programs that start goroutines, and what the functions yield. -/
import Derived.Test.YtekhlbdfjkndnaaGreatDoorK5
import Derived.KernelRfl
set_option linter.unusedVariables false
set_option linter.unusedSimpArgs false
set_option maxRecDepth 100000
set_option maxHeartbeats 4000000
namespace Go.Proofs.YtekhlbdfjkndnaaGreatDoor
open Go
noncomputable section
section
open Go Go.Conc
def idF:Fn->Nat
 | .func f=>f
 | _=>0
def Ho(n:Nat):Nat:=n
abbrev vN(n:Nat):CV:=.i .i64 (.ofNat n)
abbrev vC(l:List CV):Cell:=.own (.cells l)
abbrev vF(n:Nat):CV:=.f (idF (.func n)) [] []
abbrev vm:CV:=.i .i64 (.negSucc 0)
abbrev vz:CV:=vN 0
abbrev v0:CV:=.s [102,105,114,115,116]
abbrev v1:CV:=.s [108,111,119]
abbrev v2:CV:=.s [104,105,108,108]
abbrev v3:CV:=.s [115,101,99,111,110,100]
abbrev v4:CV:=.s [97,110,97]
abbrev v5:CV:=.s [114,117,105]
abbrev v6:CV:=.s [116,105,110]
abbrev v7:CV:=.s [104,105,103,104]
abbrev v8:CV:=.s [108,49]
abbrev v9:CV:=.s [109,105,100]
abbrev v10:CV:=.s [108,111,97,110]
abbrev v11:CV:=.s [98,111,120]
abbrev v12:CV:=.s [98,97,99,107]
abbrev v13:CV:=.s [115,49]
abbrev v14:CV:=.s [103,49]
abbrev v15:CV:=.s [107,49]
abbrev v16:CV:=.s [120,49]
abbrev u0:Nat×Cell:=(21,vC [v0,.sl 18 0 2 true 2,v3,.sl 19 0 1 true 1,v6,.sl 20 0 3 true 3])
abbrev u1:Nat×Cell:=(20,vC [v0,vN 30,v3,vN 20,v1,vN 10])
def eContents1:EntC where
 g:=idF (.func 18)
 nx:=23
 args:=[.g [.sl 17 0 2 true 2,.sl 21 0 3 true 3],vN 2]
 cs:=[(17,vC [v2,v1]),(18,vC [v2,vN 60,v1,vN 40]),(19,vC [v0,vN 50]),u1,u0]
 x:=.t [.sl 384 0 2 false 0,vz]
 outs:=[(384,.own (.grow 2 [vN 10,vN 50,vN 10,vN 50]))]
 nx':=385
def eRecall1:EntC where
 g:=idF (.func 12)
 nx:=741
 args:=[.g [.sl 17 0 2 true 2,.sl 21 0 3 true 3],.sl 740 0 1 true 1]
 cs:=[(17,vC [v2,v1]),(18,vC [v2,vN 60,v1,vN 40]),(19,vC [v0,vN 50]),u1,u0,(740,vC [vN 1])]
 x:=.t [.sl 1224 0 2 false 0,.sl 1226 0 3 false 0,vz]
 outs:=[(1224,.own (.grow 1 [vz,vN 2])),(1226,.own (.grow 1 [vz,vN 1,vN 2]))]
 nx':=1227
def eWrite1:EntC where
 g:=idF (.func 25)
 nx:=1228
 args:=[.s [108,111,116,115],.sl 1227 0 2 true 2]
 cs:=[(1227,vC [.s [97,98],.s [99]])]
 x:=.t [.s [98,111,111,107,32,108,111,116,115,32,50,32,35,54,55,10,97,98,32,35,48,57,10,99,32,35,49,54,10],vz]
 outs:=[(1227,.ro (.cells [.s [97,98],.s [99]]))]
 nx':=1228
def eRead1:EntC where
 g:=idF (.func 26)
 nx:=1228
 args:=[.s [98,111,111,107,32,108,111,116,115,32,50,32,35,54,55,10,97,98,32,35,48,57,10,99,32,35,49,55,10]]
 cs:=[]
 x:=.t [.s [],.sn,vN 3,vN 9]
 outs:=[]
 nx':=1228
def eSp1:EntC where
 g:=idF (.func 121)
 nx:=1294
 args:=[vm,vN 1]
 cs:=[]
 x:=.g [vm,vN 1]
 outs:=[]
 nx':=1294
def eZ0(a:Nat):EntC where
 ids:=[2]
 g:=idF (.func 67)
 nx:=a+0
 args:=[]
 cs:=[]
 x:=.t [.g [.sl (a+2) 0 2 true 2,.sl (a+3) 0 3 true 3,vN 10,vN 24,vN 20,vN 4,.sl (a+5) 0 1 true 1,.sl (a+6) 0 1 true 1,.sl (a+7) 0 1 true 1,vN 100,vN 120,vN 100,vN 200,.sl (a+13) 0 3 true 3],.g [vm,vN 1,.sl (a+15) 0 3 true 3]]
 outs:=[(a+2,vC [v4,v5]),(a+3,vC [vz,vN 3,vN 1,vN 2,vz,vN 1]),(a+5,vC [vN 30,vN 31]),(a+6,vC [vN 1,vz,vN 1]),(a+7,vC [vN 2,vN 2,vN 1]),(a+13,vC [v1,vz,vN 1,vN 300,vN 400,vN 5,v7,vz,vz,vN 150,vN 200,vN 4,v9,vN 1,vN 2,vN 100,vN 100,vN 3]),(a+15,vC [vN 1,vN 13,vN 15,vz,vN 15,vN 16,vN 1,vN 17,vN 19])]
 nx':=a+16
def eEx21:EntC:=eZ0 1279
def eZ1(a:Nat):EntC where
 g:=idF (.func 184)
 nx:=a+44
 args:=[.m (a+0),vN 2]
 cs:=[(a+0,.own (.map [(v13,.g [v13,vz,vz,vz,vz,vN 1,vN 10,vN 12,.s []]),(v14,.g [v14,vN 1,vz,vz,vN 1,vN 1,vN 4,vN 4,.s []]),(v8,.g [v8,vN 2,vN 1,vN 1,vz,vz,vN 3,vN 3,.s []]),(v15,.g [v15,vN 3,vN 2,vz,vN 1,vz,vN 2,vN 2,v8]),(v16,.g [v16,vN 5,vN 1,vz,vz,vz,vz,vN 5,.s []])]))]
 x:=.sl (a+53) 0 1 false 0
 outs:=[(a+53,.own (.grow 2 [v8,vN 1]))]
 nx':=a+54
def eDebts1:EntC:=eZ1 1322
def eZ2(a:Nat):EntC where
 g:=idF (.func 385)
 nx:=a+714
 args:=[.g [.sl (a+0) 0 2 false 0,.sl (a+2) 0 3 false 0,vN 10,vN 24,vN 20,vN 4,.sl (a+4) 0 1 false 0,.sl (a+6) 0 1 false 0,.sl (a+8) 0 1 false 0,vN 100,vN 120,vN 100,vN 200,.sl (a+10) 0 3 false 0],.g [vm,vN 1,.sl (a+713) 0 4 false 0]]
 cs:=[((Ho 6),.ro (.cells [vF 409,vF 410,vF 411,vF 412])),((Ho 7),.ro (.cells [vm,vm])),(a+0,.own (.grow 1 [v4,v5])),(a+2,.own (.grow 2 [vz,vN 3,vN 1,vN 2,vz,vN 1])),(a+4,.own (.grow 2 [vN 30,vN 31])),(a+6,.own (.grow 3 [vN 1,vz,vN 1])),(a+8,.own (.grow 3 [vN 2,vN 2,vN 1])),(a+10,.own (.grow 6 [v1,vz,vN 1,vN 300,vN 400,vN 5,v7,vz,vz,vN 150,vN 200,vN 4,v9,vN 1,vN 2,vN 100,vN 100,vN 3])),(a+713,.own (.grow 3 [vN 1,vN 13,vN 15,vz,vN 15,vN 16,vN 1,vN 17,vN 19,vz,vN 21,vN 22]))]
 x:=.t [.sl (a+983) 0 4 false 0,vz]
 outs:=[(a+0,.ro (.grow 1 [v4,v5])),(a+2,.ro (.grow 2 [vz,vN 3,vN 1,vN 2,vz,vN 1])),(a+4,.ro (.grow 2 [vN 30,vN 31])),(a+6,.ro (.grow 3 [vN 1,vz,vN 1])),(a+8,.ro (.grow 3 [vN 2,vN 2,vN 1])),(a+10,.ro (.grow 6 [v1,vz,vN 1,vN 300,vN 400,vN 5,v7,vz,vz,vN 150,vN 200,vN 4,v9,vN 1,vN 2,vN 100,vN 100,vN 3])),(a+713,.ro (.grow 3 [vN 1,vN 13,vN 15,vz,vN 15,vN 16,vN 1,vN 17,vN 19,vz,vN 21,vN 22])),(a+983,.own (.grow 1 [vz,vz,vz,vN 1]))]
 nx':=a+984
def eJudge1:EntC:=eZ2 1585
def eZ3(a b:Nat):EntC where
 g:=idF (.func 30)
 nx:=b+0
 args:=[.g [.sl (a+0) 0 2 true 2,.sl (a+1) 0 2 true 2,.sl (a+8) 0 2 true 2,vN 2,.sl (a+14) 0 5 true 5,.sl (a+45) 0 2 true 2,.sl (a+46) 0 3 true 3,vN 10,vN 24,vN 20,vN 4,.sl (a+48) 0 1 true 1,.sl (a+49) 0 1 true 1,.sl (a+50) 0 1 true 1,vN 100,vN 120,vN 100,vN 200,.sl (a+56) 0 3 true 3,vm,vN 1,.sl (a+58) 0 3 true 3,.sl (a+59) 0 2 true 2,vN 100,vN 10,.sl (a+60) 0 1 true 1,.sl (a+16) 0 3 true 3,.sl (a+17) 0 2 true 2,.sl (a+30) 0 3 true 3,.sn,.sl (a+36) 0 2 true 2,.sl (a+40) 0 3 true 3,.sl (a+41) 0 1 true 1,.sl (a+65) 0 6 true 6]]
 cs:=[((Ho 0),.ro (.cells [vF 372,vF 373,vF 374,vF 375,vF 376,vF 377,vF 378,vF 379,vF 380,vF 381])),((Ho 1),.ro (.cells [.s [112,97,121],vF 404,v10,vF 405,v12,vF 406,.s [100,111,119,114,121],vF 407])),((Ho 5),.ro (.cells [.s [115,116,97,114,116],.fn,vF 369,.b false,.s [103,105,102,116],vF 408,vF 369,.b true,v10,vF 408,vF 369,.b true,v12,vF 408,vF 369,.b true,.s [115,97,108,101],vF 408,.fn,.b true,.s [108,111,115,115],vF 408,.fn,.b false])),((Ho 6),.ro (.cells [vF 409,vF 410,vF 411,vF 412])),((Ho 7),.ro (.cells [vm,vm])),(a+0,vC [v4,v5]),(a+1,vC [.s [115,109,97,108,108],.s [98,105,103]]),(a+4,vC [vz,vN 1,vN 1,vN 1]),(a+7,vC [vN 2,vN 3,vN 1,vN 2]),(a+8,vC [.sl (a+4) 0 2 true 2,.sl (a+7) 0 2 true 2]),(a+14,vC [v13,vz,vz,vz,vz,vN 1,vN 10,vN 12,.s [],v14,vN 1,vz,vz,vN 1,vN 1,vN 4,vN 4,.s [],v8,vN 2,vN 1,vN 1,vz,vz,vN 3,vN 3,.s [],v15,vN 3,vN 2,vz,vN 1,vz,vN 2,vN 2,v8,v16,vN 5,vN 1,vz,vz,vz,vz,vN 5,.s []]),(a+16,vC [v4,v5,.s [115,111,108]]),(a+17,vC [.s [105,114,111,110],.s [115,97,108,116]]),(a+21,vC [vN 10,vN 20,vN 5,vN 9]),(a+25,vC [vN 30,vN 40,vN 5,vN 6]),(a+29,vC [vN 10,vN 15,vN 20,vN 30]),(a+30,vC [v2,vz,vN 90,vN 100,.sl (a+21) 0 2 true 2,v1,vN 1,vN 40,vN 50,.sl (a+25) 0 2 true 2,.s [101,97,115,116],vN 2,vN 60,vN 70,.sl (a+29) 0 2 true 2]),(a+36,vC [v2,v1]),(a+37,vC [v2,vN 60,v1,vN 40]),(a+38,vC [v0,vN 50]),(a+39,vC [v0,vN 30,v3,vN 20,v1,vN 10]),(a+40,vC [v0,.sl (a+37) 0 2 true 2,v3,.sl (a+38) 0 1 true 1,v6,.sl (a+39) 0 3 true 3]),(a+41,vC [vN 1]),(a+45,vC [v4,v5]),(a+46,vC [vz,vN 3,vN 1,vN 2,vz,vN 1]),(a+48,vC [vN 30,vN 31]),(a+49,vC [vN 1,vz,vN 1]),(a+50,vC [vN 2,vN 2,vN 1]),(a+56,vC [v1,vz,vN 1,vN 300,vN 400,vN 5,v7,vz,vz,vN 150,vN 200,vN 4,v9,vN 1,vN 2,vN 100,vN 100,vN 3]),(a+58,vC [vN 1,vN 13,vN 15,vz,vN 15,vN 16,vN 1,vN 17,vN 19]),(a+59,vC [.s [112,111,111,108],vN 100,vz,v4,vz,vN 50]),(a+60,vC [vN 1,vN 1,vz,vN 1,vN 40]),(a+61,vC [vN 1]),(a+62,vC [v2,vN 9]),(a+63,vC [v3,vN 5]),(a+64,vC [vN 1]),(a+65,vC [vN 9,vN 3,.s [],vz,vz,vz,vz,vz,vz,vz,.s [],vz,vz,vz,vz,vz,vz,vz,vz,vN 60,.sl (a+61) 0 1 true 1,.s [],.sn,vN 3,vN 2,.s [],vz,vz,vz,vz,vz,vz,vz,.s [],vz,vz,vz,vz,vN 3,vN 1,vz,vN 100,vz,.sn,.s [],.sn,vN 4,vN 4,.s [],vz,vz,vz,vz,vz,vz,vz,.s [],vz,vz,vz,vz,vz,vz,vz,vz,vz,.sn,v11,.sl (a+62) 0 1 true 1,vN 4,vN 4,.s [],vz,vz,vz,vz,vz,vz,vz,.s [],vz,vz,vz,vz,vz,vz,vz,vz,vz,.sn,.s [98,97,103],.sl (a+63) 0 1 true 1,vN 8,vN 1,.s [],vz,vz,vz,vz,vz,vz,vz,.s [],vz,vN 21,vN 22,vz,vz,vz,vz,vz,vz,.sn,.s [],.sn,vN 8,vN 3,.s [],vz,vz,vz,vz,vz,vz,vz,.s [],vz,vz,vz,vz,vz,vz,vz,vz,vN 30,.sl (a+64) 0 1 true 1,.s [],.sn])]
 x:=.t [.g [.sl (b+279) 0 2 false 0,.sl (b+269) 0 2 false 0,.sl (b+277) 0 2 false 0,vN 2,.sl (b+281) 0 5 false 0,.sl (b+283) 0 2 false 0,.sl (b+285) 0 3 false 0,vN 10,vN 24,vN 20,vN 4,.sl (b+287) 0 1 false 0,.sl (b+289) 0 1 false 0,.sl (b+291) 0 1 false 0,vN 100,vN 120,vN 100,vN 200,.sl (b+293) 0 3 false 0,vm,vN 1,.sl (b+295) 0 3 false 0,.sl (b+297) 0 2 false 0,vN 100,vN 10,.sl (b+299) 0 1 false 0,.sl (b+301) 0 3 false 0,.sl (b+303) 0 2 false 0,.sl (b+324) 0 3 false 0,.sl (b+1278) 0 1 false 0,.sl (b+326) 0 2 false 0,.sl (b+428) 0 4 false 0,.sl (b+267) 0 1 false 0,.sn],.sl (b+1430) 0 4 false 0,.sl (b+1432) 0 4 false 0,vz]
 outs:=[(b+267,.own (.grow 1 [vN 1])),(b+269,.own (.grow 1 [.s [115,109,97,108,108],.s [98,105,103]])),(b+271,.own (.grow 2 [vz,vN 1,vN 1,vN 1])),(b+275,.own (.grow 2 [vN 2,vN 3,vN 1,vN 2])),(b+277,.own (.grow 1 [.sl (b+271) 0 2 false 0,.sl (b+275) 0 2 false 0])),(b+279,.own (.grow 1 [v4,v5])),(b+281,.own (.grow 9 [v13,vz,vz,vz,vz,vN 1,vN 10,vN 12,.s [],v14,vN 1,vz,vz,vN 1,vN 1,vN 4,vN 4,.s [],v8,vN 2,vN 1,vN 1,vz,vz,vN 3,vN 3,.s [],v15,vN 3,vN 2,vz,vN 1,vz,vN 2,vN 2,v8,v16,vN 5,vN 1,vz,vz,vz,vz,vN 5,.s []])),(b+283,.ro (.grow 1 [v4,v5])),(b+285,.ro (.grow 2 [vz,vN 3,vN 1,vN 2,vz,vN 1])),(b+287,.ro (.grow 2 [vN 30,vN 31])),(b+289,.ro (.grow 3 [vN 1,vz,vN 1])),(b+291,.ro (.grow 3 [vN 2,vN 2,vN 1])),(b+293,.ro (.grow 6 [v1,vz,vN 1,vN 300,vN 400,vN 5,v7,vz,vz,vN 150,vN 200,vN 4,v9,vN 1,vN 2,vN 100,vN 100,vN 3])),(b+295,.own (.grow 3 [vN 1,vN 13,vN 15,vz,vN 15,vN 16,vN 1,vN 17,vN 19])),(b+297,.own (.grow 3 [.s [112,111,111,108],vN 100,vz,v4,vz,vN 50])),(b+299,.own (.grow 5 [vN 1,vN 1,vz,vN 1,vN 40])),(b+301,.own (.grow 1 [v4,v5,.s [115,111,108]])),(b+303,.own (.grow 1 [.s [105,114,111,110],.s [115,97,108,116]])),(b+308,.own (.grow 2 [vN 10,vN 20,vN 5,vN 9])),(b+315,.own (.grow 2 [vN 30,vN 40,vN 5,vN 6])),(b+322,.own (.grow 2 [vN 10,vN 15,vN 20,vN 30])),(b+324,.own (.grow 5 [v2,vz,vN 90,vN 100,.sl (b+308) 0 2 false 0,v1,vN 1,vN 40,vN 50,.sl (b+315) 0 2 false 0,.s [101,97,115,116],vN 2,vN 60,vN 70,.sl (b+322) 0 2 false 0])),(b+326,.own (.grow 1 [v2,v1])),(b+331,.own (.grow 2 [v2,vN 60,v1,vN 40])),(b+338,.own (.grow 2 [v0,vN 50])),(b+345,.own (.grow 2 [v0,vN 30,v3,vN 20,v1,vN 10])),(b+425,.own (.grow 2 [v2,vN 9])),(b+428,.own (.grow 2 [v0,.sl (b+331) 0 2 false 0,v3,.sl (b+338) 0 1 false 0,v6,.sl (b+345) 0 3 false 0,v11,.sl (b+425) 0 1 false 0])),(b+1275,.own (.grow 1 [vN 1])),(b+1278,.own (.grow 2 [vN 30,.sl (b+1275) 0 1 false 0])),(b+1430,.own (.grow 1 [vz,vN 1,vN 3,vN 4])),(b+1432,.own (.grow 1 [vz,vz,vz,vz]))]
 nx':=b+1433
def eReplay1:EntC:=eZ3 1236 1302
def eSp2:EntC where
 g:=idF (.func 121)
 nx:=2796
 args:=[vm,vN 1]
 cs:=[]
 x:=.g [vm,vN 1]
 outs:=[]
 nx':=2796
def eEx22:EntC:=eZ0 2781
def eDebts2:EntC:=eZ1 2826
def eJudge2:EntC:=eZ2 3089
def eReplay2:EntC:=eZ3 2738 2806
def eContents2:EntC where
 g:=idF (.func 18)
 nx:=4248
 args:=[.g [.sl 3132 0 2 false 0,.sl 3234 0 4 false 0],vN 3]
 cs:=[(3132,.own (.grow 1 [v2,v1])),(3137,.own (.grow 2 [v2,vN 60,v1,vN 40])),(3144,.own (.grow 2 [v0,vN 50])),(3151,.own (.grow 2 [v0,vN 30,v3,vN 20,v1,vN 10])),(3231,.own (.grow 2 [v2,vN 9])),(3234,.own (.grow 2 [v0,.sl 3137 0 2 false 0,v3,.sl 3144 0 1 false 0,v6,.sl 3151 0 3 false 0,v11,.sl 3231 0 1 false 0]))]
 x:=.t [.sl 4815 0 2 false 0,vz]
 outs:=[(4815,.own (.grow 2 [vN 9,vN 9,vz,vz]))]
 nx':=4816
def eTin1:EntC where
 g:=idF (.func 155)
 nx:=4243
 args:=[.p 4241 0]
 cs:=[(3132,.own (.grow 1 [v2,v1])),(3137,.own (.grow 2 [v2,vN 60,v1,vN 40])),(3144,.own (.grow 2 [v0,vN 50])),(3151,.own (.grow 2 [v0,vN 30,v3,vN 20,v1,vN 10])),(3231,.own (.grow 2 [v2,vN 9])),(3234,.own (.grow 2 [v0,.sl 3137 0 2 false 0,v3,.sl 3144 0 1 false 0,v6,.sl 3151 0 3 false 0,v11,.sl 3231 0 1 false 0])),(4240,vC [v6,v11]),(4241,vC [.sl 3085 0 2 false 0,.sl 3075 0 2 false 0,.sl 3083 0 2 false 0,vN 2,.sl 3087 0 5 false 0,.sl 3089 0 2 false 0,.sl 3091 0 3 false 0,vN 10,vN 24,vN 20,vN 4,.sl 3093 0 1 false 0,.sl 3095 0 1 false 0,.sl 3097 0 1 false 0,vN 100,vN 120,vN 100,vN 200,.sl 3099 0 3 false 0,vm,vN 1,.sl 3101 0 3 false 0,.sl 3103 0 2 false 0,vN 100,vN 10,.sl 3105 0 1 false 0,.sl 3107 0 3 false 0,.sl 3109 0 2 false 0,.sl 3130 0 3 false 0,.sl 4084 0 1 false 0,.sl 3132 0 2 false 0,.sl 3234 0 4 false 0,.sl 3073 0 1 false 0,.sn,.sl 4240 1 1 true 1])]
 x:=.t [.sl 4823 0 2 false 0,vz]
 outs:=[(4823,.own (.grow 1 [.s [104,105,108,108,32,57],.s [108,111,119,32,48]]))]
 nx':=4824
def eKnows1:EntC where
 g:=idF (.func 8)
 nx:=16
 args:=[]
 cs:=[((Ho 0),.ro (.cells [vF 372,vF 373,vF 374,vF 375,vF 376,vF 377,vF 378,vF 379,vF 380,vF 381])),((Ho 1),.ro (.cells [.s [112,97,121],vF 404,v10,vF 405,v12,vF 406,.s [100,111,119,114,121],vF 407])),((Ho 5),.ro (.cells [.s [115,116,97,114,116],.fn,vF 369,.b false,.s [103,105,102,116],vF 408,vF 369,.b true,v10,vF 408,vF 369,.b true,v12,vF 408,vF 369,.b true,.s [115,97,108,101],vF 408,.fn,.b true,.s [108,111,115,115],vF 408,.fn,.b false])),((Ho 6),.ro (.cells [vF 409,vF 410,vF 411,vF 412])),((Ho 7),.ro (.cells [vm,vm]))]
 x:=.b true
 outs:=[]
 nx':=16
def eSp1b:EntC where
 g:=idF (.func 121)
 nx:=1295
 args:=[vm,vN 1]
 cs:=[]
 x:=.g [vm,vN 1]
 outs:=[]
 nx':=1295
def eSp2b:EntC where
 g:=idF (.func 121)
 nx:=2797
 args:=[vm,vN 1]
 cs:=[]
 x:=.g [vm,vN 1]
 outs:=[]
 nx':=2797
end
section
open Go Go.Conc
theorem Ccr:runE Tryz.prog (xFnsH Tryz.prog [] 100000) eSp1=true:=by kernel_rfl
theorem Cbc:Mk Tryz.prog eSp1:=Js (es:=[]) .nil 100000 Ccr
theorem Cbh:runE Tryz.prog (xFnsH Tryz.prog [] 100000) eSp1b=true:=by kernel_rfl
theorem Byd:Mk Tryz.prog eSp1b:=Js (es:=[]) .nil 100000 Cbh
theorem Ccs:runE Tryz.prog (xFnsH Tryz.prog [] 100000) eSp2=true:=by kernel_rfl
theorem Cbd:Mk Tryz.prog eSp2:=Js (es:=[]) .nil 100000 Ccs
theorem Cbi:runE Tryz.prog (xFnsH Tryz.prog [] 100000) eSp2b=true:=by kernel_rfl
theorem Bye:Mk Tryz.prog eSp2b:=Js (es:=[]) .nil 100000 Cbi
theorem Cbf:runE Tryz.prog (xFnsH Tryz.prog [eSp1,eSp1b] 100000) eEx21=true:=by kernel_rfl
theorem Byb:Mk Tryz.prog eEx21:=Js (es:=[eSp1,eSp1b]) (.cons Cbc (.cons Byd .nil)) 100000 Cbf
theorem Cbg:runE Tryz.prog (xFnsH Tryz.prog [eSp2,eSp2b] 100000) eEx22=true:=by kernel_rfl
theorem Byc:Mk Tryz.prog eEx22:=Js (es:=[eSp2,eSp2b]) (.cons Cbd (.cons Bye .nil)) 100000 Cbg
theorem Bub:runE Tryz.prog (xFnsH Tryz.prog [] 100000) eDebts1=true:=by kernel_rfl
theorem Bod:Mk Tryz.prog eDebts1:=Js (es:=[]) .nil 100000 Bub
theorem Buc:runE Tryz.prog (xFnsH Tryz.prog [] 100000) eDebts2=true:=by kernel_rfl
theorem Boe:Mk Tryz.prog eDebts2:=Js (es:=[]) .nil 100000 Buc
theorem Bud:runE Tryz.prog (xFnsH Tryz.prog [] 100000) eJudge1=true:=by kernel_rfl
theorem Bof:Mk Tryz.prog eJudge1:=Js (es:=[]) .nil 100000 Bud
theorem Bue:runE Tryz.prog (xFnsH Tryz.prog [] 100000) eJudge2=true:=by kernel_rfl
theorem Bog:Mk Tryz.prog eJudge2:=Js (es:=[]) .nil 100000 Bue
theorem Bpb:runE Tryz.prog (xFnsH Tryz.prog [eDebts1,eJudge1] 100000) eReplay1=true:=by kernel_rfl
theorem Bhw:Mk Tryz.prog eReplay1:=Js (es:=[eDebts1,eJudge1]) (.cons Bod (.cons Bof .nil)) 100000 Bpb
theorem Bpc:runE Tryz.prog (xFnsH Tryz.prog [eDebts2,eJudge2] 100000) eReplay2=true:=by kernel_rfl
theorem Bhx:Mk Tryz.prog eReplay2:=Js (es:=[eDebts2,eJudge2]) (.cons Boe (.cons Bog .nil)) 100000 Bpc
theorem Bbl:runE Tryz.prog (xFnsH Tryz.prog [] 100000) eContents1=true:=by kernel_rfl
theorem Axp:Mk Tryz.prog eContents1:=Js (es:=[]) .nil 100000 Bbl
theorem Bpa:runE Tryz.prog (xFnsH Tryz.prog [] 100000) eRecall1=true:=by kernel_rfl
theorem Bhv:Mk Tryz.prog eRecall1:=Js (es:=[]) .nil 100000 Bpa
theorem Bbm:runE Tryz.prog (xFnsH Tryz.prog [] 100000) eContents2=true:=by kernel_rfl
theorem Axq:Mk Tryz.prog eContents2:=Js (es:=[]) .nil 100000 Bbm
theorem Cbj:runE Tryz.prog (xFnsH Tryz.prog [eContents2] 100000) eTin1=true:=by kernel_rfl
theorem Byf:Mk Tryz.prog eTin1:=Js (es:=[eContents2]) (.cons Axq .nil) 100000 Cbj
end
section
theorem Bcf:∀a b:List UInt8,Value.string (bs a)=Value.string (bs b)->a=b:=fun a b h=>Bwm (by injection h)
theorem Caa:Fw Tryz.prog 134 (.pointer none):=⟨_,Ab Tryz.typeInfo134,rfl⟩
theorem Xe{Y:Ro}{Z:Own}:∀{g:Own},ObjsO g->Ghost Y (g++Z) Y Z
 | [],_=>.refl
 | x::g,h=>by
  obtain⟨r,o,rfl⟩:=h x mC;exact Ghost.trans .drop (Xe fun y hy=>h y (lZ0 _ hy))
theorem Bgw{Y:Ro}{g pf Z:Own}{r6:Nat}{o6:Obj}{a b c d:Nat×Res}(h:ObjsO g):Ghost Y (g++((r6,Res.obj o6)::a::b::c::d::(pf++Z))) Y (pf++(d::c::b::a::Z)):=by refine(Xe h).trans (Ghost.drop.trans (Cfr ?_));have e:a::b::c::d::(pf++Z)=[a,b,c,d]++(pf++Z):=rfl;have e':pf++(d::c::b::a::Z)=pf++([d,c,b,a]++Z):=rfl;rw[e,e',<-lZ9,<-lZ9];refine List.Perm.append_right Z (List.perm_append_comm.trans (List.Perm.append_left pf ?_));exact(List.reverse_perm [a,b,c,d]).symm
theorem Grow.objs{Y:Ro}{v:Value}{xs:List ByteArray}{g:Own}(hg:Grow Y 9 v xs g):ObjsO g:=fun y hy=>by
 obtain⟨k,b⟩:=y;obtain⟨z,hz⟩:=hg.1 _ hy;exact⟨k,z,by rw[<-hz]⟩
theorem Baf{Y:Ro}{v:Value}{xs:List ByteArray}{g Z:Own}{k:Nat}{o:Obj}(hg:Grow Y 9 v xs g):Ghost Y (g++((k,Res.obj o)::Z)) Y Z:=(Xe hg.objs).trans .drop
theorem Buj{s kd:List UInt8}{n:Nat}{my:Int}{xs:List ByteArray}(h:Ako (Eo [] s) n kd my xs)(hs:s.length<=60000):I64 (n:Int):=by have a:=Xu (s:=s) (acc:=[]);have:=h.2.1;unfold I64;simp at a;omega
theorem Ayb{s kd:List UInt8}{xs:List ByteArray}{v:Value}{g:Own}{Y Y9:Ro}{Z9:Own}(hl:Ro.le Y9 Y)(h:Rh s=(kd,xs,0,0))(hg:Grow Y 9 v xs g):Yr s Y9 Z9 (.tuple #[.string (bs kd),v,z0,z0]) Y (g++Z9):=by unfold Yr;rw[h];exact⟨hl,v,g,rfl,hg,rfl,fun h=>absurd rfl h⟩
theorem Tm{s:List UInt8}{Y Y9:Ro}{Z9:Own}{ln f:Int}(hl:Ro.le Y9 Y)(h:Rh s=([],[],ln,f)):Yr s Y9 Z9 (.tuple #[.string ⟨#[]⟩,nS,.int .i64 ln,.int .i64 f]) Y Z9:=by unfold Yr;rw[h];exact⟨hl,_,[],rfl,Hm,rfl,fun _=>⟨rfl,rfl⟩⟩
end
section
open Go Go.Conc
def plS:CV->Bool
 | .b _ | .i _ _ | .s _=>true
 | _=>false
def vaS:CV->Value
 | .b x=>.bool x
 | .i k n=>.int k n
 | .s l=>.string ⟨l.toArray⟩
 | _=>undef
theorem vrS{R:XR}:∀{l:List CV} {l':List Value},l.all plS=true->VR R l l'->l'=l.map vaS
 | [],_,_,h=>by cases h;rfl
 | x::l,_,ha,h=>by
  simp only[Aqo,Pc]at ha;obtain⟨h1,h2⟩:=ha;unfold plS at h1;split at h1
  ·cases h with|b _ h=>rw[vrS h2 h];rfl
  ·cases h with|i _ _ h=>rw[vrS h2 h];rfl
  ·cases h with|s _ h=>rw[vrS h2 h];rfl
  ·cases h1
theorem Bbw{R:XR}:∀{l:List CV},l.all plS=true->VR R l (l.map vaS)
 | [],_=>.nil
 | x::l,ha=>by
  simp only[Aqo,Pc]at ha;obtain⟨h1,h2⟩:=ha;have ih:=Bbw (R:=R) h2;unfold plS at h1;split at h1
  ·exact .b _ ih
  ·exact .i _ _ ih
  ·exact .s _ ih
  ·cases h1
def xPure(P:Program)(n f:Nat)(args xs:List CV):Bool:=match (xFns P n).call f args ⟨.leaf,16,[],0,[]⟩ with
 | .v y m=>match eqV 50 y (.t xs),xNoRes m.M with|true,true=>true|_,_=>false
 | .bad=>false
theorem Pr{P:Program}{f:Nat}{args xs:List CV}(n:Nat)(h:xPure P n f args xs=true)(ha:args.all plS=true)(hx:xs.all plS=true){Y:Ro}{Z:Own}(hn:NoRecv Z):CallsH (Iw P) f (args.map vaS).toArray Y Z (fun w Y' Z'=>Y'=Y/\Z'=Z/\w = .tuple (xs.map vaS).toArray):=by
 unfold xPure at h;split at h
 ·rename_i y m1 hc;split at h
  ·rename_i he hr;have he:=Vn 50 _ _ he;subst he;obtain⟨_,hcl⟩:=(Aur P n).1.call f args _ _ m1 hc;have a:=hcl _ _ Y Z Z hn (Bbw ha) (Bbc (fun k o hk=>by rw[To]at hk;cases hk) (fun k o hk=>by rw[To]at hk;cases hk));intro c cs;refine(a c cs).bind ?_;rintro _ _ Y' Z' ⟨v,rfl,rfl,R',g,b,d,e⟩;refine .ghost ((e.drop hr).trans (Cfq b)) (.stop ⟨v,rfl,rfl,rfl,rfl,?_⟩);cases d with
   | t h1 _=>rw[vrS hx h1]
  ·cases h
 ·cases h
theorem MemX.like{R:XR}{m m':Mem}{Y Y':Ro}{Z Z9:Own}(h:MemX R m Y Z Z9)(hl:Ro.le Y Y')(h1:m'.M=m.M)(h2:m'.nx=m.nx):MemX R m' Y' Z Z9:=by
 obtain⟨L,G,h⟩:=h;refine⟨L,G,h.perm,h.nd,fun p hp=>?_,fun k o hk hd=>h.all k o (by rw[<-h1];exact hk) hd,fun k o hk=>?_,h.gar,fun k q hk=>by rw[h2];exact h.lt k q hk,h.glob⟩
 ·rw[h1];exact h.own p hp
 ·obtain⟨b,c,x,a,d,e⟩:=h.ro k o (by rw[<-h1];exact hk);exact⟨b,c,x,a,hl _ _ d,e⟩
theorem Axt{x:Nat×Res}:∀{i:Nat} {Z:Own},Z[i]?=some x->Z.Perm (x::Z.eraseIdx i)
 | _,[],h=>by cases h
 | 0,a::Z,h=>by cases h;exact .refl _
 | i+1,a::Z,h=>by
  rw[Xm]at h;exact((Axt h).cons a).trans (.swap ..)
def xList(P:Program)(n f:Nat)(args xs:List CV):Bool:=match (xFns P n).call f args ⟨.leaf,16,[],0,[]⟩ with
 | .v y m=>match eqV 50 y (.sl 16 0 (xLen xs) true (xLen xs)),eqAt m.M (16,.own (.cells xs)),xNoRes (m.put 16 .dead).M with|true,true,true=>true|_,_,_=>false
 | .bad=>false
theorem Azp{P:Program}{f:Nat}{args xs:List CV}(n:Nat)(h:xList P n f args xs=true)(ha:args.all plS=true)(hx:xs.all plS=true){Y:Ro}{Z:Own}(hn:NoRecv Z):CallsH (Iw P) f (args.map vaS).toArray Y Z (fun w Y' Z'=>Ro.le Y Y'/\Z'=Z/\∃b t fz,w = .slice (some ⟨b,0,none⟩) (xLen xs) (xLen xs)/\Y' b=some (.cells (xs.map vaS).toArray t fz)):=by
 unfold xList at h;split at h
 ·rename_i y m1 hc;split at h
  ·rename_i he hm hr;have he:=Vn 50 _ _ he;subst he;have hk:=Atf hm;obtain⟨_,hcl⟩:=(Aur P n).1.call f args _ _ m1 hc;have p:=hcl _ _ Y Z Z hn (Bbw ha) (Bbc (fun k o hk=>by rw[To]at hk;cases hk) (fun k o hk=>by rw[To]at hk;cases hk));intro c cs;refine(p c cs).bind ?_;rintro _ _ Y' Z' ⟨v,rfl,rfl,R',z,q,u,x⟩;cases u with
   | slK hb _ =>
    obtain⟨b',c',r,i,a,d,g,j⟩:=x.gone hk (fun e=>by cases e);rw[hb]at a;cases a;cases g with
    | cells hv _ =>
     have e:=vrS hx hv;subst e;refine .ghost (Cfr (Axt d)) (Rv fun B hl m=>.ghost ((j.like hl rfl rfl).drop hr) (.stop ⟨_,rfl,rfl,Cft q hl,rfl,_,_,_,rfl,m⟩))
  ·cases h
 ·cases h
def kn0:List UInt8:=[98,111,111,107,32,108,111,116,115,32,50,32,35,54,55,10]
def kn1:List UInt8:=[97,98,32,35,48,57,10]
def kn2:List UInt8:=[99,32,35,49,55,10]
def knL:List (List UInt8):=[kn0,kn1,kn2]
def Bbn:List UInt8:=[98,111,111,107,32,108,111,116,115,32,50,32,35,54,55,10,97,98,32,35,48,57,10,99,32,35,49,55,10]
theorem Awj:Eo [] Bbn=knL:=by decide +kernel
theorem Cbq{s a:List UInt8}{l1 l2:List (List UInt8)}(hs:s=Bbn)(h:Eo [] s=l1++a::l2):a∈knL:=by subst hs;rw[<-Awj,h];simp
theorem Cbp{s a:List UInt8}{l1 l2:List (List UInt8)}{n:Nat}(hs:s=Bbn)(h:Eo [] s=l1++a::l2)(hn:n=l1.length)(h0:n=0):rdT a=[98,111,111,107,32,108,111,116,115,32,50]:=by subst hs;rw[Awj]at h;have:l1=[]:=Bmc.1 (hn.symm.trans h0);subst this;injection h with h _;subst h;decide +kernel
theorem Bsz{t:List UInt8}{L:List ByteArray}{a:ByteArray}(hL:L=bw (Iq t))(ht:t=[98,111,111,107,32,108,111,116,115,32,50])(ha:L[2]?=some a):a.data.toList=[50]:=by
 subst hL ht;have e:(bw (Iq [98,111,111,107,32,108,111,116,115,32,50]))[2]?=some (bs [50]):=by decide +kernel
 rw[e]at ha;cases ha;rfl
theorem Ccz:bw (Iq [98,111,111,107,32,108,111,116,115,32,50])=[bs [98,111,111,107],bs [108,111,116,115],bs [50]]:=by decide +kernel
theorem Bkj{p:List UInt8}{L:List ByteArray}{Y:Ro}{Z:Own}(hL:L=bw (Iq p))(hp:p=[98,111,111,107,32,108,111,116,115,32,50])(hn:NoRecv Z):CallsH (CX true (Ade Tryz.prog)) 122 #[.string (bs p),.string (bs ([32]:List UInt8))] Y Z (fun w Y' Z'=>Ro.le Y Y'/\Z'=Z/\Val Y' w (L:List ByteArray)):=by
 subst hL hp;rw[Ccz];refine CallsH.mono (Azp (args:=[.s [98,111,111,107,32,108,111,116,115,32,50],.s [32]]) (xs:=[.s [98,111,111,107],.s [108,111,116,115],.s [50]]) 100000 (by kernel_rfl) rfl rfl hn) ?_;rintro w Y' Z' ⟨c,d,b,t,fz,rfl,hρ⟩;refine⟨c,d,Cs.2 ⟨_,3,_,rfl,rfl,by decide,Nat.le.refl,fun i a hi=>⟨b,0,rfl,?_⟩⟩⟩
 match i,hi with
 | 0,hi=>cases hi;exact⟨b,0,_,_,_,[.string (bs [98,111,111,107])],[.string (bs [108,111,116,115]),.string (bs [50])],rfl,hρ,⟨rfl,by decide⟩,rfl⟩
 | 1,hi=>cases hi;exact⟨b,1,_,_,_,[.string (bs [108,111,116,115])],[.string (bs [50])],rfl,hρ,⟨rfl,by decide⟩,rfl⟩
 | 2,hi=>cases hi;exact⟨b,2,_,_,_,[.string (bs [50])],[],rfl,hρ,⟨rfl,by decide⟩,rfl⟩
theorem Bgd{s:List UInt8}{Y:Ro}{Z:Own}(hK:s∈knL)(hn:NoRecv Z):CallsH (CX true (Ade Tryz.prog)) 88 #[.string (bs s),.string (bs ([10]:List UInt8))] Y Z (fun w Y' Z'=>Y'=Y/\Z'=Z/\w=(.tuple #[.string (bs (Dp s)),.bool (Afs s)])):=by
 rcases lZ8.1 hK with rfl|hK
 ·rw[show Dp kn0=[98,111,111,107,32,108,111,116,115,32,50,32,35,54,55] by decide +kernel,show Afs kn0=true by decide +kernel];exact Pr (args:=[.s kn0,.s [10]]) (xs:=[.s [98,111,111,107,32,108,111,116,115,32,50,32,35,54,55],.b true]) 100000 (by kernel_rfl) rfl rfl hn
 rcases lZ8.1 hK with rfl|hK
 ·rw[show Dp kn1=[97,98,32,35,48,57] by decide +kernel,show Afs kn1=true by decide +kernel];exact Pr (args:=[.s kn1,.s [10]]) (xs:=[.s [97,98,32,35,48,57],.b true]) 100000 (by kernel_rfl) rfl rfl hn
 cases Nh.1 hK;rw[show Dp kn2=[99,32,35,49,55] by decide +kernel,show Afs kn2=true by decide +kernel];exact Pr (args:=[.s kn2,.s [10]]) (xs:=[.s [99,32,35,49,55],.b true]) 100000 (by kernel_rfl) rfl rfl hn
theorem Bgi{s:List UInt8}{Y:Ro}{Z:Own}(hK:s∈knL)(hn:NoRecv Z):CallsH (CX true (Ade Tryz.prog)) 89 #[.string (bs (rdC s))] Y Z (fun w Y' Z'=>Y'=Y/\Z'=Z/\w=(.tuple #[.int .i64 (((ckR (rdC s)):Nat):Int),.bool (Vv (rdC s))])):=by
 rcases lZ8.1 hK with rfl|hK
 ·rw[show rdC kn0=[32,35,54,55] by decide +kernel,show ckR [32,35,54,55]=67 by decide +kernel,show Vv [32,35,54,55]=true by decide +kernel];exact Pr (args:=[.s [32,35,54,55]]) (xs:=[.i .i64 67,.b true]) 100000 (by kernel_rfl) rfl rfl hn
 rcases lZ8.1 hK with rfl|hK
 ·rw[show rdC kn1=[32,35,48,57] by decide +kernel,show ckR [32,35,48,57]=9 by decide +kernel,show Vv [32,35,48,57]=true by decide +kernel];exact Pr (args:=[.s [32,35,48,57]]) (xs:=[.i .i64 9,.b true]) 100000 (by kernel_rfl) rfl rfl hn
 cases Nh.1 hK;rw[show rdC kn2=[32,35,49,55] by decide +kernel,show ckR [32,35,49,55]=17 by decide +kernel,show Vv [32,35,49,55]=true by decide +kernel];exact Pr (args:=[.s [32,35,49,55]]) (xs:=[.i .i64 17,.b true]) 100000 (by kernel_rfl) rfl rfl hn
theorem Bgk{s:List UInt8}{Y:Ro}{Z:Own}(hs:s=[50])(hn:NoRecv Z):CallsH (CX true (Ade Tryz.prog)) 136 #[.string (bs s)] Y Z (fun w Y' Z'=>Ro.le Y Y'/\Z'=Z/\w = .tuple #[.int .i64 (Aiz s),.bool (Agz s)]):=by subst hs;rw[show Aiz [50]=2 by decide +kernel,show Agz [50]=true by decide +kernel];exact CallsH.mono (Pr (args:=[.s [50]]) (xs:=[.i .i64 2,.b true]) 100000 (by kernel_rfl) rfl rfl hn) fun w Y' Z' h=>⟨h.1 ▸ .refl,h.2⟩
end
section
theorem Brm  {Y:Ro} {Z:Own} {r:Nat} {ln:Int} {t:List UInt8} {v1 v2 v3:Value} (hln:I64 ln) (hb:t.length<=60000) (ht:t=[98,111,111,107,32,108,111,116,115,32,50]) (hnr:NoRecv Z):CallsP (CX true (Ade Tryz.prog)) 90 #[pV r,.string (bs t)] Y ((r,oC #[iV ln,v1,v2,v3] 136)::Z) (fun w Y' Z'=>Ro.le Y Y'/\Z'=(r,oC #[.int .i64 ln,.string (bs (Wb t)),iV (Yi t),v3] 136)::Z/\Nq t=true/\w = .tuple #[]) (fun x Y' Z'=>Ro.le Y Y'/\Z'=(r,oC #[.int .i64 ln,v1,v2,v3] 136)::Z/\Nq t=false/\x=Ye ln 3):=by
 obtain⟨L,hL⟩:∃L,L=bw (Iq t):=⟨_,rfl⟩;refine Aaj (n:=46) (args:=[pV r,.string (bs t)]) [] Tryz.func90 rfl rfl rfl rfl fun Q b6 a6=>?_;refine qA fun K1 k1=>Av (.string (bs t)) (Arv (Cm (vs:=[.string (bs t),.string (ByteArray.mk #[32])]) (Bkj (p:=t) hL ht (Jb hnr)) Tryz.func122 rfl rfl ⟨rfl,rfl,trivial⟩ fun v2 bp br a2=>?_));obtain⟨F,J,d⟩:=a2;replace J:=J.symm;subst J;refine Au v2 (qC k1 fun K3 k3=>Av (pV r) (Av v2 ?_));have g4:=Val.len d;refine l_v (Ci (el:=9) Cdq rfl d) (l_v (Ek rfl rfl) (Av (.bool ((L.length:Int)==3)) (Cn ((L.length:Int)==3) (fun c=>?_) (fun c=>?_))))
 ·have q5:=Jr c;refine l_M v2 (qF c) rfl ?_;obtain⟨g,G⟩:=Ed (xs:=L) (i:=0) (by omega);have ba:=Aun hL G;refine Ak (qF c) (Ch 0 Cdq ty9 rfl d (q:=0) rfl rfl G) fun v6 P=>?_;have g8:g.data.toList.length<2^60:=At.slen P;refine Aa (qF c) (Pk ty9 rfl P) (Aa (qF c) (Cbw (p:=g.data.toList) (q:=bZ2) rfl rfl) (l_v (Bt rfl c (v:=.bool (g.data.toList==bZ2)) rfl) (Av (.bool (g.data.toList==bZ2)) (Cn (g.data.toList==bZ2) (fun a=>?_) (fun a=>?_)))))
  ·have q9:=Jr a;refine l_M v2 (qF a) rfl ?_;obtain⟨e,h⟩:=Ed (xs:=L) (i:=1) (by omega);have b7:=Aun hL h;refine Ak (qF a) (Ch 1 Cdq ty9 rfl d (q:=1) rfl rfl h) fun bc M=>?_;have az:e.data.toList.length<2^60:=At.slen M;refine Aa (qF a) (Pk ty9 rfl M) (Aa (qF a) (Cbx (p:=e.data.toList) (q:=([]:List UInt8)) rfl rfl) (l_v (Bt rfl a (v:=.bool (e.data.toList != ([]:List UInt8))) rfl) (Ig rfl (Ll (vs:=[pV r,.bool (e.data.toList != ([]:List UInt8)),iV 3]) (Pq (r:=r) (ln:=ln) (ok:=e.data.toList != ([]:List UInt8)) (f:=3) hln) Cea rfl rfl ⟨rfl,rfl,rfl,trivial⟩ (fun bf an ar a0=>?_) fun bk an ar ah=>⟨rfl,?_⟩))));rotate_left
   ·obtain⟨m,B,YQ,a8⟩:=ah;subst m B;exact⟨F,rfl,Bsx hL (by omega) h (by simpa using YQ),a8⟩
   obtain⟨m,B,K,ac⟩:=a0;replace m:=m.symm;replace B:=B.symm;subst m B ac;have bb:=Ls K;refine qC k3 fun ax al=>Av v2 ?_;obtain⟨b,k⟩:=Ed (xs:=L) (i:=2) (by omega);have b8:=Aun hL k;refine Arw (Ch 2 Cdq ty9 rfl d (q:=2) rfl rfl k) fun bd N=>?_;have b0:b.data.toList.length<2^60:=At.slen N;refine l_v (Pk ty9 rfl N) (Arv (Cm (vs:=[.string b]) (Bgk (Bsz hL ht k) (Jb hnr)) Tryz.func136 rfl rfl ⟨rfl,trivial⟩ fun bg bo bq a1=>?_));obtain⟨I,H,ad⟩:=a1;replace H:=H.symm;subst H ad;replace d:=Val.mono I d;have b4:=Bem (s:=b.data.toList);refine Av (.tuple #[iV (Aiz b.data.toList),.bool (Agz b.data.toList)]) (l_v (Dd (iV (Aiz b.data.toList))) (l_v (Dd (.bool (Agz b.data.toList))) (Au (iV (Aiz b.data.toList)) (Au (.bool (Agz b.data.toList)) (qC al fun ay am=>Av (pV r) (Av (.bool (Agz b.data.toList)) (Ig rfl (Ll (vs:=[pV r,.bool (Agz b.data.toList),iV 3]) (Pq (r:=r) (ln:=ln) (ok:=Agz b.data.toList) (f:=3) hln) Cea rfl rfl ⟨rfl,rfl,rfl,trivial⟩ (fun bh ao au a3=>?_) fun bl ao au ai=>⟨rfl,?_⟩))))))));rotate_left
   ·obtain⟨u,C,ZQ,a9⟩:=ai;subst u C;exact⟨(Cft F I),rfl,Bsy hL (by omega) k (by simpa using ZQ),a9⟩
   obtain⟨u,C,R,ae⟩:=a3;replace u:=u.symm;replace C:=C.symm;subst u C ae;refine l_k am (qB (Av (pV r) (Av (pV r) (Av v2 (Arw (Ch 1 Cdq ty9 rfl d (q:=1) rfl rfl h) fun be O=>?_)))));have b1:e.data.toList.length<2^60:=At.slen O;refine l_v (Pk ty9 rfl O) (Av (iV (Aiz b.data.toList)) (l_v (Ck rfl) (l_v (Cb Cdu rfl rfl ty9.2 (by decide) rfl rfl) (Cx rfl (Cz (j:=0) (v:=.string e) ty9.2 rfl rfl rfl rfl nL ?_)))));refine l_v (Ck rfl) (l_v (Cb Cdu rfl rfl ty3.2 (by decide) rfl rfl) (Cx rfl (Cz (j:=0) (v:=iV (Aiz b.data.toList)) ty3.2 rfl rfl rfl rfl nL ?_)));apply Ac;refine a6 _ _ _ ?_;obtain⟨V,W,X⟩:=Bxh hL (by omega) G h k (by simpa[Ayr]using a) (by simpa using K) R;rw[V,W,X];exact⟨(Cft F I),rfl,rfl,rfl⟩
  have q9:=Jq a;refine Ap (gN rfl a) (Ap (gN rfl a) (Ap (gN rfl a) (Ap (gN rfl a) (l_v (Bn rfl a (v:=bF) rfl) (Ig rfl (Ll (vs:=[pV r,bF,iV 3]) (Pq (r:=r) (ln:=ln) (ok:=false) (f:=3) hln) Cea rfl rfl ⟨rfl,rfl,rfl,trivial⟩ (fun bi ap av a4=>?_) fun bm ap av aj=>⟨rfl,?_⟩))))));rotate_left
  ·obtain⟨y,D,b2,aa⟩:=aj;subst y D;exact⟨F,rfl,Bsw hL (by omega) G (by simpa[Ayr]using a),aa⟩
  obtain⟨y,D,T,af⟩:=a4;replace y:=y.symm;replace D:=D.symm;subst y D af;exact absurd T (by decide)
 have q5:=Jq c;refine Ap (gN rfl c) (Ap (gN rfl c) (Ap (gN rfl c) (Ap (gN rfl c) (l_v (Bn rfl c (v:=bF) rfl) (Av bF (Ap (gN rfl rfl) (Ap (gN rfl rfl) (Ap (gN rfl rfl) (Ap (gN rfl rfl) (l_v (Bn rfl rfl (v:=bF) rfl) (Ig rfl (Ll (vs:=[pV r,bF,iV 3]) (Pq (r:=r) (ln:=ln) (ok:=false) (f:=3) hln) Cea rfl rfl ⟨rfl,rfl,rfl,trivial⟩ (fun bj aq aw a5=>?_) fun bn aq aw ak=>⟨rfl,?_⟩))))))))))));rotate_left
 ·obtain⟨z,E,b3,ab⟩:=ak;subst z E;exact⟨F,rfl,Bsv hL (by omega),ab⟩
 obtain⟨z,E,U,ag⟩:=a5;replace z:=z.symm;replace E:=E.symm;subst z E ag;exact absurd U (by decide)
theorem Rd{r:Nat}{o:Obj}{vb x:Value}{xs:List ByteArray}{gb Z:Own}{Y Y':Ro}{ln:Int}{n:Nat}{s:List UInt8}{f:Int}(hF:rdF n s=f)(hf:f≠0)(hle:Ro.le Y Y')(hg:Grow Y' 9 vb xs gb)(hx:x=Ye ln f):Ro.le Y Y'/\(∃g',ObjsO g'/\(r,Res.obj o)::(gb++Z)=g'++Z)/\rdF n s≠0/\x=Ye ln (rdF n s):=by
 subst hF;refine⟨hle,⟨(r,Res.obj o)::gb,fun y hy=>?_,by simp⟩,hf,hx⟩;rcases lZ8.1 hy with rfl|hy
 ·exact⟨_,_,rfl⟩
 ·obtain⟨k,b⟩:=y;obtain⟨z,hz⟩:=hg.1 _ hy;exact⟨k,z,by rw[<-hz]⟩
theorem Brp  {Y:Ro} {Z:Own} {r n:Nat} {kd s:List UInt8} {my:Int} {xs:List ByteArray} {vb:Value} {gb:Own} (hb:Grow Y 9 vb xs gb) (hs:s.length<=60000) (hn:n<=59999) (hx:xs.length<=60000) (hm:I64 my) (hK:s∈knL) (h0:n=0->rdT s=[98,111,111,107,32,108,111,116,115,32,50]) (hnr:NoRecv Z):CallsP (CX true (Ade Tryz.prog)) 57 #[pV r,.string (bs s)] Y ((r,oC #[iV n,.string (bs kd),iV my,vb] 136)::(gb++Z)) (fun w Y' Z'=>Ro.le Y Y'/\∃(kd':List UInt8) (mn':Int) (xs':List ByteArray) (v':Value) (gr:Own),Z'=(r,oC #[iV (n+1:Nat),.string (bs kd'),.int .i64 mn',v'] 136)::(gr++Z)/\Grow Y' 9 v' xs' gr/\rdS n kd my xs s=(kd',mn',xs')/\rdF n s=0/\w = .tuple #[]) (fun x Y' Z'=>Ro.le Y Y'/\(∃g',ObjsO g'/\Z'=g'++Z)/\rdF n s≠0/\x=Ye ((n+1:Nat):Int) (rdF n s)):=by
 have hln:I64 (((n+1:Nat):Int)):=by unfold I64;omega
 have hcl:=Yx (s:=s);refine Aaj (n:=99) (args:=[pV r,.string (bs s)]) [] Tryz.func57 rfl rfl rfl rfl fun Q b0 az=>?_;refine qA fun K1 k1=>Av (pV r) (l_v (Ck rfl) (l_v (Cb Cdu rfl rfl ty3.2 (by decide) rfl rfl) (Arv (Dt (i:=0) (v:=iV n) ty3.1 rfl rfl rfl ?_))));refine l_v (Ek rfl rfl) (Au (.bool ((n:Int)==0)) (qC k1 fun K2 k2=>Av (pV r) (l_v (Ck rfl) (l_v (Cb Cdu rfl rfl ty3.2 (by decide) rfl rfl) (Arv (Dt (i:=0) (v:=iV n) ty3.1 rfl rfl rfl ?_))))));refine l_v (Fp (((n+1):Nat):Int)) (l_v (Ck rfl) (l_v (Cb Cdu rfl rfl ty3.2 (by decide) rfl rfl) (Cx rfl (Cz (j:=0) (v:=iV ((n+1):Nat)) ty3.2 rfl rfl rfl rfl nL ?_))));refine qC k2 fun K3 k3=>Av (.string (bs s)) (Arv (Cw (Bgd hK (Jb (Zj hb hnr))) Tryz.func88 ?_));refine Av (.tuple #[.string (bs (Dp s)),.bool (Afs s)]) (l_v (Dd (.string (bs (Dp s)))) (l_v (Dd (.bool (Afs s))) (Au (.string (bs (Dp s))) (Au (.bool (Afs s)) (qC k3 fun K4 k4=>Av (.string (bs (Dp s))) (l_v (Vs Cdn (p:=Dp s) rfl) (l_v (Ou rfl rfl (z:=((((Dp s)).length:Nat):Int)-4) wrE) (Au (iV (((((Dp s)).length:Nat):Int)-4)) (qC k4 fun K5 k5=>Av (pV r) (Av (.bool (Afs s)) (Av (.bool (Afs s)) (Cn (Afs s) (fun b=>?_) (fun b=>?_)))))))))))))
 ·refine Aa (qF b) (Ah (v:=.string (bs (Dp s))) rfl) (Ae (qF b) (Cw (Bcj (s:=Dp s) (Tj Yx hs)) Tryz.func53 ?_));refine l_v (Bt rfl b (v:=.bool (Oc (Dp s))) rfl) (Av (.bool (Oc (Dp s))) (Cn (Oc (Dp s)) (fun c=>?_) (fun c=>?_)))
  ·refine Aa (qF c) (Ah (v:=iV (((((Dp s)).length:Nat):Int)-4)) rfl) (Aa (qF c) (Uy rfl rfl) (l_v (Bt rfl c (v:=.bool (decide ((((((Dp s)).length:Nat):Int)-4)>=0))) rfl) (Ig rfl (Ll (vs:=[pV r,.bool (decide ((((((Dp s)).length:Nat):Int)-4)>=0)),iV 3]) (Pq (r:=r) (ln:=(((n+1):Nat):Int)) (ok:=decide ((((((Dp s)).length:Nat):Int)-4)>=0)) (f:=3) hln) Cea rfl rfl ⟨rfl,rfl,rfl,trivial⟩ (fun w8 ct d4 ax=>?_) fun x8 ct d4 c3=>⟨rfl,?_⟩))));rotate_left
   ·obtain⟨D,N,ak,be⟩:=c3;replace D:=D.symm;replace N:=N.symm;subst D N;exact Rd (Byp (Bab (.inr (.inr (by have:=lZ2 ak;omega))))) (by decide) Cfs hb be
   obtain⟨D,N,YQ,bp⟩:=ax;replace D:=D.symm;replace N:=N.symm;subst D N bp;have ay:4<=(Dp s).length:=by have:=lZ3 YQ;omega
   have hA:Uf s=true:=Bxg b c ay;have a0:(((Dp s).length:Nat):Int)-4=(((Dp s).length-4:Nat):Int):=by omega
   have q8:=lZ3 YQ;refine qC k5 fun K9 k9=>Av (.string (bs (Dp s))) (l_v (Ah (v:=iV ((((Dp s).length-4):Nat):Int)) (congrArg (Value.int .i64) a0)) (l_v (Bjl (p:=Dp s) (l:=(Dp s).length-4) (h:=((Dp s)).length) Cdn rfl (.inr ⟨_,rfl,rfl⟩) (.inl ⟨rfl,rfl⟩) (by omega) (by omega)) (Arv (Cw (Bgi hK (Jb (Zj hb hnr))) Tryz.func89 ?_))));refine Av (.tuple #[iV (((ckR (rdC s)):Nat):Int),.bool (Vv (rdC s))]) (l_v (Dd (iV (((ckR (rdC s)):Nat):Int))) (l_v (Dd (.bool (Vv (rdC s)))) (Au (iV (((ckR (rdC s)):Nat):Int)) (Au (.bool (Vv (rdC s))) (qC k9 fun d5 c4=>Av (.string (bs (Dp s))) (l_v (Ah (v:=iV ((((Dp s).length-4):Nat):Int)) (congrArg (Value.int .i64) a0)) (l_v (Bjl (p:=Dp s) (l:=0) (h:=(Dp s).length-4) Cdn rfl (.inl ⟨rfl,rfl⟩) (.inr ⟨_,rfl,rfl⟩) (by omega) (by omega)) (Au (.string (bs ((((Dp s)).take ((Dp s).length-4)).drop 0))) (qC c4 fun d6 c5=>Av (pV r) (Av (.bool (Vv (rdC s))) (Ig rfl (Ll (vs:=[pV r,.bool (Vv (rdC s)),iV 3]) (Pq (r:=r) (ln:=(((n+1):Nat):Int)) (ok:=Vv (rdC s)) (f:=3) hln) Cea rfl rfl ⟨rfl,rfl,rfl,trivial⟩ (fun dt cj cu al=>?_) fun e3 cj cu bq=>⟨rfl,?_⟩))))))))))));rotate_left
   ·obtain⟨e,E,ac,b1⟩:=bq;replace e:=e.symm;replace E:=E.symm;subst e E;exact Rd (Ccu hA ac) (by decide) Cfs hb b1
   obtain⟨e,E,a6,bf⟩:=al;replace e:=e.symm;replace E:=E.symm;subst e E bf;have hB:=a6;refine qE c5 fun d7 d8 a1 c6=>Av (.bool ((n:Int)==0)) (l_k c6 (Bp (t:=(n:Int)==0) rfl (fun d=>?_) (fun d=>?_)))
   ·have a:n=0:=by have:=d;simpa using this
    have cg:=Jr d;refine qB (Av (pV r) (Av (.string (bs ((((Dp s)).take ((Dp s).length-4)).drop 0))) (Ig rfl (Ll (vs:=[pV r,.string (bs ((((Dp s)).take ((Dp s).length-4)).drop 0))]) (Brm (r:=r) (ln:=(((n+1):Nat):Int)) (t:=rdT s) hln (Tj Aua (Tj Yx hs)) (h0 a) (Zj hb hnr)) Tryz.func90 rfl rfl ⟨rfl,rfl,trivial⟩ (fun du ck cv am=>?_) fun e4 ck cv br=>⟨rfl,?_⟩))));rotate_left
    ·obtain⟨ZQ,P,ad,b2⟩:=br;subst P;exact Rd (Ccv hA hB a ad) (by decide) (Cft Cfs ZQ) (hb.mono ZQ) b2
    obtain⟨O,P,ab,bg⟩:=am;replace P:=P.symm;subst P bg;replace hb:=Grow.mono O hb;have hC:n=0->Nq (rdT s)=true:=fun _=>ab;have hnb:=Awf (t:=rdT s);have hkl:=Blq (t:=rdT s);refine qC a1 fun d9 c7=>Av (pV r) (Av (.string (bs ((((Dp s)).take ((Dp s).length-4)).drop 0))) (l_v (Vs Cdn (p:=(((Dp s)).take ((Dp s).length-4)).drop 0) rfl) (l_v (Uz rfl rfl) (Ig rfl (Ll (vs:=[pV r,.bool (decide ((((((((Dp s)).take ((Dp s).length-4)).drop 0)).length:Nat):Int)<=200)),iV 3]) (Pq (r:=r) (ln:=(((n+1):Nat):Int)) (ok:=decide ((((((((Dp s)).take ((Dp s).length-4)).drop 0)).length:Nat):Int)<=200)) (f:=3) hln) Cea rfl rfl ⟨rfl,rfl,rfl,trivial⟩ (fun dv cl cw an=>?_) fun e5 cl cw bt=>⟨rfl,?_⟩)))));rotate_left
    ·obtain⟨g,F,ae,b3⟩:=bt;replace g:=g.symm;replace F:=F.symm;subst g F;exact Rd (Cbm hA hB hC (by have:=lZ2 ae;exact Int.ofNat_lt.1 (Int.not_le.1 this))) (by decide) O hb b3
    obtain⟨g,F,T,bh⟩:=an;replace g:=g.symm;replace F:=F.symm;subst g F bh;have hD:(rdT s).length<=200:=by have:=lZ3 T;exact Int.ofNat_le.1 this
    have dn:=lZ3 T;refine qC c7 fun da c8=>Av (pV r) (Av (iV (((ckR (rdC s)):Nat):Int)) (Av (pV r) (l_v (Ck rfl) (l_v (Cb Cdu rfl rfl ty3.2 (by decide) rfl rfl) (Arv (Dt (i:=0) (v:=iV ((n+1):Nat)) ty3.1 rfl rfl rfl ?_))))));refine l_v (Ou rfl rfl (z:=((((n+1)-1):Nat):Int)) (Bo (by omega) (by omega) (by omega))) (Av (.string (bs ((((Dp s)).take ((Dp s).length-4)).drop 0))) (Arv (Cw (Ald (n:=(n+1)-1) (s:=rdT s) (by omega) (Tj Aua (Tj Yx hs))) Cfp ?_)));refine l_v (Ek rfl rfl) (Ig rfl (Ll (vs:=[pV r,.bool ((((ckR (rdC s)):Nat):Int)==(((Ln ((n+1)-1) (rdT s)):Nat):Int)),iV 9]) (Pq (r:=r) (ln:=(((n+1):Nat):Int)) (ok:=(((ckR (rdC s)):Nat):Int)==(((Ln ((n+1)-1) (rdT s)):Nat):Int)) (f:=9) hln) Cea rfl rfl ⟨rfl,rfl,rfl,trivial⟩ (fun dw cm cx ao=>?_) fun e6 cm cx bu=>⟨rfl,?_⟩));rotate_left
    ·obtain⟨k,G,af,b4⟩:=bu;replace k:=k.symm;replace G:=G.symm;subst k G;exact Rd (Cbn hA hB hC hD (by have:=af;simp at this;omega)) (by decide) O hb b4
    obtain⟨k,G,U,bi⟩:=ao;replace k:=k.symm;replace G:=G.symm;subst k G bi;have hE:ckR (rdC s)=Ln n (rdT s):=by have:=U;simp at this;omega
    have dp:=Jr U;refine qE c8 fun db dc dm c9=>Av (.bool ((n:Int)==0)) (l_k c9 (Co rfl d (qA fun dd ca=>Av (pV r) (Av (pV r) (l_v (Ck rfl) (l_v (Cb Cdu rfl rfl ty9.2 (by decide) rfl rfl) (Arv (Dt (i:=0) (v:=.string (bs (Wb (rdT s)))) ty9.1 rfl rfl rfl ?_))))))));refine Arv (Bm (Adm (by first|omega|(rw[Nn];omega))) Cff rfl rfl ⟨rfl,trivial⟩ ?_);refine Ig rfl (Ll (vs:=[pV r,.bool (Hg (bs (Wb (rdT s)))),iV 4]) (Pq (r:=r) (ln:=(((n+1):Nat):Int)) (ok:=Hg (bs (Wb (rdT s)))) (f:=4) hln) Cea rfl rfl ⟨rfl,rfl,rfl,trivial⟩ (fun dx cn cy ap=>?_) fun e7 cn cy bv=>⟨rfl,?_⟩);rotate_left
    ·obtain⟨m,H,ag,b5⟩:=bv;replace m:=m.symm;replace H:=H.symm;subst m H;exact Rd (Ccw hA hB hC hD hE a ag) (by decide) O hb b5
    obtain⟨m,H,a7,bj⟩:=ap;replace m:=m.symm;replace H:=H.symm;subst m H bj;have hk:=a7;refine qC ca fun de cb=>Av (pV r) (Av (pV r) (l_v (Ck rfl) (l_v (Cb Cdu rfl rfl ty3.2 (by decide) rfl rfl) (Arv (Dt (i:=0) (v:=iV (Yi (rdT s))) ty3.1 rfl rfl rfl ?_)))));refine Arv (Cw Ri Cet ?_);refine Ig rfl (Ll (vs:=[pV r,.bool (inR (Yi (rdT s)) 0 90),iV 2]) (Pq (r:=r) (ln:=(((n+1):Nat):Int)) (ok:=inR (Yi (rdT s)) 0 90) (f:=2) hln) Cea rfl rfl ⟨rfl,rfl,rfl,trivial⟩ (fun dy co cz aq=>?_) fun e8 co cz bx=>⟨rfl,?_⟩);rotate_left
    ·obtain⟨q,I,ah,b9⟩:=bx;replace q:=q.symm;replace I:=I.symm;subst q I;exact Rd (Ccx hA hB hC hD hE a hk ah) (by decide) O hb b9
    obtain⟨q,I,V,bk⟩:=aq;replace q:=q.symm;replace I:=I.symm;subst q I bk;have dq:=Fz.1 V;refine l_k cb (Aq (b0 _ _ _ ⟨O,_,_,_,_,_,rfl,hb,?_,Ccy hA hB hC hD hE a hk V,rfl⟩));unfold rdS;first|(rw[if_pos a];done)|(rw[if_neg a];rfl)
   have a:n≠0:=by have:=d;simpa using this
   have hC:n=0->Nq (rdT s)=true:=fun h=>absurd h a;have cg:=Jq d;refine Al (kk a1 ?_);refine qA fun df cc=>Av (pV r) (Av (.string (bs ((((Dp s)).take ((Dp s).length-4)).drop 0))) (l_v (Vs Cdn (p:=(((Dp s)).take ((Dp s).length-4)).drop 0) rfl) (l_v (Uz rfl rfl) (Ig rfl (Ll (vs:=[pV r,.bool (decide ((((((((Dp s)).take ((Dp s).length-4)).drop 0)).length:Nat):Int)<=200)),iV 3]) (Pq (r:=r) (ln:=(((n+1):Nat):Int)) (ok:=decide ((((((((Dp s)).take ((Dp s).length-4)).drop 0)).length:Nat):Int)<=200)) (f:=3) hln) Cea rfl rfl ⟨rfl,rfl,rfl,trivial⟩ (fun dz cp d0 ar=>?_) fun e9 cp d0 bz=>⟨rfl,?_⟩)))));rotate_left
   ·obtain⟨u,J,ai,ba⟩:=bz;replace u:=u.symm;replace J:=J.symm;subst u J;exact Rd (Cbm hA hB hC (by have:=lZ2 ai;exact Int.ofNat_lt.1 (Int.not_le.1 this))) (by decide) Cfs hb ba
   obtain⟨u,J,W,bl⟩:=ar;replace u:=u.symm;replace J:=J.symm;subst u J bl;have hD:(rdT s).length<=200:=by have:=lZ3 W;exact Int.ofNat_le.1 this
   have dr:=lZ3 W;refine qC cc fun dg cd=>Av (pV r) (Av (iV (((ckR (rdC s)):Nat):Int)) (Av (pV r) (l_v (Ck rfl) (l_v (Cb Cdu rfl rfl ty3.2 (by decide) rfl rfl) (Arv (Dt (i:=0) (v:=iV ((n+1):Nat)) ty3.1 rfl rfl rfl ?_))))));refine l_v (Ou rfl rfl (z:=((((n+1)-1):Nat):Int)) (Bo (by omega) (by omega) (by omega))) (Av (.string (bs ((((Dp s)).take ((Dp s).length-4)).drop 0))) (Arv (Cw (Ald (n:=(n+1)-1) (s:=rdT s) (by omega) (Tj Aua (Tj Yx hs))) Cfp ?_)));refine l_v (Ek rfl rfl) (Ig rfl (Ll (vs:=[pV r,.bool ((((ckR (rdC s)):Nat):Int)==(((Ln ((n+1)-1) (rdT s)):Nat):Int)),iV 9]) (Pq (r:=r) (ln:=(((n+1):Nat):Int)) (ok:=(((ckR (rdC s)):Nat):Int)==(((Ln ((n+1)-1) (rdT s)):Nat):Int)) (f:=9) hln) Cea rfl rfl ⟨rfl,rfl,rfl,trivial⟩ (fun e0 cq d1 au=>?_) fun ea cq d1 c0=>⟨rfl,?_⟩));rotate_left
   ·obtain⟨y,K,aj,bb⟩:=c0;replace y:=y.symm;replace K:=K.symm;subst y K;exact Rd (Cbn hA hB hC hD (by have:=aj;simp at this;omega)) (by decide) Cfs hb bb
   obtain⟨y,K,X,bm⟩:=au;replace y:=y.symm;replace K:=K.symm;subst y K bm;have hE:ckR (rdC s)=Ln n (rdT s):=by have:=X;simp at this;omega
   have ds:=Jr X;refine qE cd fun dh di ce cf=>Av (.bool ((n:Int)==0)) (l_k cf (Cg rfl d (Al (kk ce ?_))));refine qB (Av (pV r) (Av (pV r) (l_v (Ck rfl) (l_v (Cb Cdu rfl rfl Hw.2 (by decide) rfl rfl) (Arv (Dt (i:=0) (v:=vb) Hw.1 rfl rfl rfl ?_))))));refine Av (.string (bs ((((Dp s)).take ((Dp s).length-4)).drop 0))) (Arv (Bi (α:=ByteArray) (xs:=[bs ((((Dp s)).take ((Dp s).length-4)).drop 0)]) (vs:=[.string (bs ((((Dp s)).take ((Dp s).length-4)).drop 0))]) Cdq ty9 zr9 rfl (by decide) (Dk (os:=[.tmp 94]) ⟨rfl,trivial⟩) ⟨Bzi (l:=(((Dp s)).take ((Dp s).length-4)).drop 0) (by first|omega|(simp only[lZ4,Gb,Nx,Lo,Tf]at *;omega)),trivial⟩ rfl (by decide) fun a2 aa a5=>?_));have a4:Grow Y 9 (.slice (some ⟨a2,0,none⟩) 1 1) ([bs ((((Dp s)).take ((Dp s).length-4)).drop 0)]:List ByteArray) [(a2,oC aa.toArray 9)]:=Bs a5 rfl (by decide);refine Ca a4 fun ed a3 ch=>?_;replace hb:=Grow.mono a3 hb;refine Bj (Cfr Asc) (Arv (Gc (Z:=(r,oC #[iV ((n+1):Nat),.string (bs kd),iV my,vb] 136)::Z) (gr:=gb) (xs:=xs) (ys:=([bs ((((Dp s)).take ((Dp s).length-4)).drop 0)]:List ByteArray)) Cdq Cdq (Ab Cev) rfl nL rfl rfl rfl rfl hb ch (by first|omega|(simp only[Gb,Nx];omega)) fun ci dj R=>?_));refine l_v (Ck rfl) (l_v (Cb Cdu rfl rfl Hw.2 (by decide) rfl rfl) (Bj (Cfr Asd) (Cx rfl (Cz (j:=0) (v:=ci) Hw.2 rfl rfl (Grow.single R) rfl nL ?_))));apply Ac;refine az _ _ _ ⟨a3,_,_,_,_,_,rfl,R,?_,Cct hA hB hC hD hE a,rfl⟩;unfold rdS;first|(rw[if_pos a];done)|(rw[if_neg a];rfl)
  refine Ap (gN rfl c) (Ap (gN rfl c) (l_v (Bn rfl c (v:=bF) rfl) (Ig rfl (Ll (vs:=[pV r,bF,iV 3]) (Pq (r:=r) (ln:=(((n+1):Nat):Int)) (ok:=false) (f:=3) hln) Cea rfl rfl ⟨rfl,rfl,rfl,trivial⟩ (fun e1 cr d2 av=>?_) fun eb cr d2 c1=>⟨rfl,?_⟩))));rotate_left
  ·obtain⟨B,L,dk,bc⟩:=c1;replace B:=B.symm;replace L:=L.symm;subst B L;exact Rd (Byp (Bab (.inr (.inl c)))) (by decide) Cfs hb bc
  obtain⟨B,L,a8,bn⟩:=av;replace B:=B.symm;replace L:=L.symm;subst B L bn;exact absurd a8 (by decide)
 refine Ap (gN rfl b) (Ap (gN rfl b) (l_v (Bn rfl b (v:=bF) rfl) (Av bF (Ap (gN rfl rfl) (Ap (gN rfl rfl) (l_v (Bn rfl rfl (v:=bF) rfl) (Ig rfl (Ll (vs:=[pV r,bF,iV 3]) (Pq (r:=r) (ln:=(((n+1):Nat):Int)) (ok:=false) (f:=3) hln) Cea rfl rfl ⟨rfl,rfl,rfl,trivial⟩ (fun e2 cs d3 aw=>?_) fun ec cs d3 c2=>⟨rfl,?_⟩))))))));rotate_left
 ·obtain⟨C,M,dl,bd⟩:=c2;replace C:=C.symm;replace M:=M.symm;subst C M;exact Rd (Byp (Bab (.inl b))) (by decide) Cfs hb bd
 obtain⟨C,M,a9,bo⟩:=aw;replace C:=C.symm;replace M:=M.symm;subst C M bo;exact absurd a9 (by decide)
theorem Brj  {Y:Ro} {Z:Own} {s:List UInt8} (hb:s.length<2^60) (hIn:s=Bbn) (hnr:NoRecv Z):CallsH (CX true (Ade Tryz.prog)) 26 #[.string (bs s)] Y Z (fun w Y' Z'=>Yr s Y Z w Y' Z'):=by
 refine Azo (n:=45) (args:=[.string (bs s)]) Tryz.func26 rfl rfl rfl fun Q L bj=>?_;refine qA fun K1 k1=>Arv (Ct zr9 fun c=>?_);refine Arv (Ct Cdk fun d=>?_);refine Arv (Ct zr3 fun e=>?_);refine Arv (Ct Cdl fun g=>?_);refine qE k1 fun K6 K7 k6 k7=>Av (.string (bs s)) (l_v (Vs Cdn (p:=s) rfl) (l_v (Gl rfl rfl) (l_k k7 (Bp (t:=decide ((s.length:Int)>60000)) rfl (fun J=>?_) (fun J=>?_)))))
 ·have q8:=lZ3 J;refine qA fun K9 k9=>Cx rfl (Cz (j:=3) (v:=.string (ByteArray.mk #[])) ty9.2 rfl rfl rfl rfl nL ?_);refine Cx rfl (Cz (j:=2) (v:=nS) Hw.2 rfl rfl rfl rfl nL ?_);refine Cx rfl (Cz (j:=1) (v:=iV 0) ty3.2 rfl rfl rfl rfl nL ?_);refine Cx rfl (Cz (j:=0) (v:=iV 2) ⟨_,Ab Cem,rfl⟩ rfl rfl rfl rfl nL ?_);refine l_k k9 (Aj (Cfr Arz) (Aj (Cfr (Lz Arz)) (Aj (Cfr (Lz (Lz Arz))) (Aq (L _ _ _ _ (Ahj rfl rfl rfl rfl rfl ⟨Y,Z,.refl,Tm .refl (Bys (by omega))⟩))))))
 have q8:=lZ2 J;refine Al (kk k6 ?_);refine qA fun b6 al=>l_v (Il (fn:=.func 55) (caps:=[.tmp 2,.tmp 3,.tmp 4,.tmp 5]) (vs:=[pV c,pV d,pV e,pV g]) ⟨rfl,rfl,rfl,rfl,trivial⟩) (Cx rfl (Bjc (fs:=[pV c,pV d,pV e,pV g]) rfl ?_));refine qC al fun b7 am=>l_v (Dn (ns:=[1,1,1,1]) (vs:=[]) (zc:=Bzw) (cs:=[iV 0,.string (ByteArray.mk #[]),iV 0,nS]) Cdu Cab rfl ⟨ty3.2,ty9.2,ty3.2,Hw.2,trivial⟩ (EvB.map trivial) rfl) (Arv (Nk (v:=.agg #[iV 0,.string (ByteArray.mk #[]),iV 0,nS]) rfl fun a=>?_));refine Arv (Ct Caa fun k=>?_);refine Cx rfl (Cz (j:=0) (v:=pV a) ⟨_,Ab Tryz.typeInfo134,rfl⟩ rfl rfl rfl rfl nL ?_);refine qE am fun b9 ba an ao=>Av (.string (bs s)) (Arv (Cm (vs:=[.string (bs s)]) (Bkg (t:=s)) Tryz.func56 rfl rfl ⟨rfl,trivial⟩ fun bt c1 c5 a0=>?_));obtain⟨K,ap,af,M⟩:=a0;replace K:=K.symm;replace M:=M.symm;subst K M af;refine l_k ao (Ao (Ajj (ys:=(Eo [] s).map (fun l:List UInt8=>Value.string (bs l))) (O:=[(ap,oC #[.string (bs s)] 9)]) (fun pre Y' τ=>∃(x:List (List UInt8)) (n:Nat) (kd:List UInt8) (my:Int) (xs:List ByteArray) (b:Value) (h:Own),pre=x.map (fun l:List UInt8=>Value.string (bs l))/\(h++((k,oC #[pV a] 134)::((a,oC #[iV n,.string (bs kd),iV my,b] 136)::((g,oC #[iV 0] 27)::((e,oC #[iV 0] 3)::((d,oC #[nS] 22)::((c,oC #[.string (ByteArray.mk #[])] 9)::Z)))))))=τ/\(Ako x n kd my xs)/\Grow Y' 9 b xs h/\True) (fun v _ τ=>(∃ln f,Ahi 0 [] 0 [] (Eo [] s) = .inl (ln,f)/\v=Ye ln f)/\τ=Buo c d e g (.string ⟨#[]⟩) nS z0 z0 Z) rfl rfl Tryz.func26 nL rfl (Bhc (by omega)) ?_ ?_ ?_ ?_ ?_))
 ·rintro pre ρa ρb σa hle ⟨x,n,kd,my,xs,b,h,U,V,m,q,_⟩;exact⟨x,n,kd,my,xs,b,h,U,V,m,q.mono hle,trivial⟩
 ·exact⟨[],0,[],0,[],nS,[],rfl,rfl,Bpi,Hm,trivial⟩
 ·rintro bn _ bx bp c2 _ ak bm ⟨x,n,kd,my,xs,b,h,rfl,rfl,m,q,_⟩ y bk;obtain⟨u,bo,B,rfl⟩:=Ly Bcf ak;refine Aj (Z':=h++((k,Res.obj (Obj.cells #[pV a] 134 (0,0)))::((a,Res.obj (Obj.cells #[iV n,.string (bs kd),iV my,b] 136 (0,0)))::((g,Res.obj (Obj.cells #[iV 0] 27 (0,0)))::((e,Res.obj (Obj.cells #[iV 0] 3 (0,0)))::((d,Res.obj (Obj.cells #[nS] 22 (0,0)))::((c,Res.obj (Obj.cells #[.string (ByteArray.mk #[])] 9 (0,0)))::(y++Z)))))))) (Cfr (by first|exact Fe y (h++[(k,Res.obj (Obj.cells #[pV a] 134 (0,0))),(a,Res.obj (Obj.cells #[iV n,.string (bs kd),iV my,b] 136 (0,0))),(g,Res.obj (Obj.cells #[iV 0] 27 (0,0))),(e,Res.obj (Obj.cells #[iV 0] 3 (0,0))),(d,Res.obj (Obj.cells #[nS] 22 (0,0))),(c,Res.obj (Obj.cells #[.string (ByteArray.mk #[])] 9 (0,0)))]) Z|simpa only[lZ9,Sz,Agn,Bdj]using Fe y (h++[(k,Res.obj (Obj.cells #[pV a] 134 (0,0))),(a,Res.obj (Obj.cells #[iV n,.string (bs kd),iV my,b] 136 (0,0))),(g,Res.obj (Obj.cells #[iV 0] 27 (0,0))),(e,Res.obj (Obj.cells #[iV 0] 3 (0,0))),(d,Res.obj (Obj.cells #[nS] 22 (0,0))),(c,Res.obj (Obj.cells #[.string (ByteArray.mk #[])] 9 (0,0)))]) Z)) ?_;have a8:=Byo m B (by omega);have a6:u.length<=60000:=Tj (Agp (acc:=[]) (s:=s) u (by rw[B];simp)) (by simp;omega);obtain⟨_,ab,bl,ac⟩:=id m;refine qB (Au (.string (bs u)) (Bj (Z':=y++(h++((k,Res.obj (Obj.cells #[pV a] 134 (0,0)))::((a,Res.obj (Obj.cells #[iV n,.string (bs kd),iV my,b] 136 (0,0)))::((g,Res.obj (Obj.cells #[iV 0] 27 (0,0)))::((e,Res.obj (Obj.cells #[iV 0] 3 (0,0)))::((d,Res.obj (Obj.cells #[nS] 22 (0,0)))::((c,Res.obj (Obj.cells #[.string (ByteArray.mk #[])] 9 (0,0)))::Z)))))))) (Cfr (by first|exact Fe (h++[(k,Res.obj (Obj.cells #[pV a] 134 (0,0))),(a,Res.obj (Obj.cells #[iV n,.string (bs kd),iV my,b] 136 (0,0))),(g,Res.obj (Obj.cells #[iV 0] 27 (0,0))),(e,Res.obj (Obj.cells #[iV 0] 3 (0,0))),(d,Res.obj (Obj.cells #[nS] 22 (0,0))),(c,Res.obj (Obj.cells #[.string (ByteArray.mk #[])] 9 (0,0)))]) y Z|simpa only[lZ9,Sz,Agn,Bdj]using Fe (h++[(k,Res.obj (Obj.cells #[pV a] 134 (0,0))),(a,Res.obj (Obj.cells #[iV n,.string (bs kd),iV my,b] 136 (0,0))),(g,Res.obj (Obj.cells #[iV 0] 27 (0,0))),(e,Res.obj (Obj.cells #[iV 0] 3 (0,0))),(d,Res.obj (Obj.cells #[nS] 22 (0,0))),(c,Res.obj (Obj.cells #[.string (ByteArray.mk #[])] 9 (0,0)))]) y Z)) (Ac ?_)));refine⟨rfl,rfl,Cfs,_,rfl,?_⟩;intro z aa;refine Bfi ?_;refine Aj (Z':=h++((k,Res.obj (Obj.cells #[pV a] 134 (0,0)))::((a,Res.obj (Obj.cells #[iV n,.string (bs kd),iV my,b] 136 (0,0)))::((g,Res.obj (Obj.cells #[iV 0] 27 (0,0)))::((e,Res.obj (Obj.cells #[iV 0] 3 (0,0)))::((d,Res.obj (Obj.cells #[nS] 22 (0,0)))::((c,Res.obj (Obj.cells #[.string (ByteArray.mk #[])] 9 (0,0)))::(z++Z)))))))) (Cfr (by first|exact Fe z (h++[(k,Res.obj (Obj.cells #[pV a] 134 (0,0))),(a,Res.obj (Obj.cells #[iV n,.string (bs kd),iV my,b] 136 (0,0))),(g,Res.obj (Obj.cells #[iV 0] 27 (0,0))),(e,Res.obj (Obj.cells #[iV 0] 3 (0,0))),(d,Res.obj (Obj.cells #[nS] 22 (0,0))),(c,Res.obj (Obj.cells #[.string (ByteArray.mk #[])] 9 (0,0)))]) Z|simpa only[lZ9,Sz,Agn,Bdj]using Fe z (h++[(k,Res.obj (Obj.cells #[pV a] 134 (0,0))),(a,Res.obj (Obj.cells #[iV n,.string (bs kd),iV my,b] 136 (0,0))),(g,Res.obj (Obj.cells #[iV 0] 27 (0,0))),(e,Res.obj (Obj.cells #[iV 0] 3 (0,0))),(d,Res.obj (Obj.cells #[nS] 22 (0,0))),(c,Res.obj (Obj.cells #[.string (ByteArray.mk #[])] 9 (0,0)))]) Z)) (Ao (qB (Arv (Gu (v:=pV a) ⟨_,Cei,rfl⟩ rfl (lZ5 _ mC) rfl ?_))));refine Av (.string (bs u)) (Bj (Cfr (Axx Arz)) (Ig rfl (Ll (vs:=[pV a,.string (bs u)]) (Brp (r:=a) (n:=n) (kd:=kd) (s:=u) (my:=my) q a6 a8 (by omega) ac (Cbq hIn B) (Cbp hIn B ab) (Jb (Jb (Jb (Jb (Jb (Axn aa hnr))))))) Tryz.func57 rfl rfl ⟨rfl,rfl,trivial⟩ (fun bu b2 b4 a1=>?_) fun bz b2 b4 ai=>?_)));rotate_left
  ·obtain⟨a5,⟨bh,a4,N⟩,a3,ad⟩:=ai;subst N;refine⟨_,_,Bgw a4,rfl,a5,_,rfl,⟨_,_,Bph m B a3,ad⟩,rfl⟩
  obtain⟨ay,F,G,b1,H,E,N,X,YQ,W,ag⟩:=a1;subst N ag;refine Bj (Cfr (Lz Asd)) (Bj (Cfr (Bbk Asc)) (Bj (Z':=z++(E++((k,Res.obj (Obj.cells #[pV a] 134 (0,0)))::((a,Res.obj (Obj.cells #[iV ((n+1):Nat),.string (bs F),iV G,H] 136 (0,0)))::((g,Res.obj (Obj.cells #[iV 0] 27 (0,0)))::((e,Res.obj (Obj.cells #[iV 0] 3 (0,0)))::((d,Res.obj (Obj.cells #[nS] 22 (0,0)))::((c,Res.obj (Obj.cells #[.string (ByteArray.mk #[])] 9 (0,0)))::Z)))))))) (Cfr (by first|exact Fe (E++[(k,Res.obj (Obj.cells #[pV a] 134 (0,0))),(a,Res.obj (Obj.cells #[iV ((n+1):Nat),.string (bs F),iV G,H] 136 (0,0))),(g,Res.obj (Obj.cells #[iV 0] 27 (0,0))),(e,Res.obj (Obj.cells #[iV 0] 3 (0,0))),(d,Res.obj (Obj.cells #[nS] 22 (0,0))),(c,Res.obj (Obj.cells #[.string (ByteArray.mk #[])] 9 (0,0)))]) z Z|simpa only[lZ9,Sz,Agn,Bdj]using Fe (E++[(k,Res.obj (Obj.cells #[pV a] 134 (0,0))),(a,Res.obj (Obj.cells #[iV ((n+1):Nat),.string (bs F),iV G,H] 136 (0,0))),(g,Res.obj (Obj.cells #[iV 0] 27 (0,0))),(e,Res.obj (Obj.cells #[iV 0] 3 (0,0))),(d,Res.obj (Obj.cells #[nS] 22 (0,0))),(c,Res.obj (Obj.cells #[.string (ByteArray.mk #[])] 9 (0,0)))]) z Z)) (Ac ?_)));refine⟨ay,_,rfl,rfl,x++[u],(n+1),F,G,b1,H,E,(by simp),rfl,(Bii m W YQ),(Fy rfl X),trivial⟩
 ·rintro R c3 _ P ⟨x,n,kd,my,xs,b,h,a9,rfl,m,q,_⟩;obtain rfl:=Nf Bcf a9;apply an;refine Ai fun bb aq=>?_;have hln:=Buj m (by omega);refine Aj (Cfr (Lz (Axx (Lz Arz)))) (Aj (Cfr (Lz (Lz (Axx (Lz Arz))))) (Aj (Cfr (Lz (Lz (Lz (Axx (Lz Arz)))))) (Aj (Cfr (Lz (Lz (Lz (Lz (Axx (Lz Arz))))))) (Aj (Cfr (Lz (Lz (Lz Arz)))) (Aj (Cfr (Lz (Lz (Lz (Lz (Lz (Axx Arz))))))) (Bnz ((a,oC #[iV n,.string (bs kd),iV my,b] 136)::((R,Res.obj (Obj.deferred (some [])))::((c,oC #[.string (ByteArray.mk #[])] 9)::((d,oC #[nS] 22)::((e,oC #[iV 0] 3)::((g,oC #[iV 0] 27)::(h++((k,oC #[pV a] 134)::[])))))))) 6 [0,1,2,3,4,5] (by kernel_rfl) rfl rfl ⟨_,rfl⟩ (by kernel_rfl) (by kernel_rfl) fun bg ax=>Cf 0 (zT 1 5) rfl sC rfl (Em (v:=pV a) ⟨_,Cei,rfl⟩ rfl (lZ0 _ (lZ0 _ (lZ0 _ (lZ0 _ (lZ0 _ (lZ0 _ (lZ5 _ mC))))))) rfl) (Cj 1 (zT 2 4) rfl sC rfl (Em (v:=pV a) ⟨_,Cei,rfl⟩ rfl (lZ0 _ (lZ0 _ (lZ0 _ (lZ0 _ (lZ0 _ (lZ0 _ (lZ5 _ mC))))))) rfl) sC (Cj 2 (zT 3 3) rfl sC rfl (Yld.o (Ck rfl)) sC (Cj 3 (zT 4 2) rfl sC rfl (Yld.o (Cb Cdu rfl rfl ty3.2 (by decide) rfl rfl)) sC (Cj 4 (zT 5 1) rfl sC rfl (Em (v:=iV n) ty3.1 rfl mC rfl) sC (Cj 5 (zT 6 0) rfl sC rfl (Yld.o (Gl rfl rfl)) sC (Ow rfl (ax _ _ _ _ (Ig rfl (Ll (vs:=[pV a,.bool (decide ((n:Int)>0)),iV 3]) (Pq (r:=a) (ln:=(n:Int)) (ok:=decide ((n:Int)>0)) (f:=3) hln) Cea rfl rfl ⟨rfl,rfl,rfl,trivial⟩ (fun bv b3 b5 a2=>?_) fun c0 b3 b5 aj=>?_)))))))))))))));rotate_left
  ·obtain⟨C,D,ZQ,ae⟩:=aj;subst C D;have a7:n=0:=by have:=lZ2 ZQ;omega
   subst a7;exact⟨_,_,.drop,Ayc ae rfl rfl rfl rfl rfl ⟨_,Z,Baf q,Tm P (Byu (by omega) m rfl)⟩⟩
  obtain⟨C,D,T,ah⟩:=a2;replace C:=C.symm;replace D:=D.symm;subst C D ah;have bq:=lZ3 T;refine Asa aq fun bc ar=>Ai fun bd au=>Ma ((a,oC #[iV n,.string (bs kd),iV my,b] 136)::((R,Res.obj (Obj.deferred (some [])))::((c,oC #[.string (ByteArray.mk #[])] 9)::((d,oC #[nS] 22)::((e,oC #[iV 0] 3)::((g,oC #[iV 0] 27)::(h++((k,oC #[pV a] 134)::[])))))))) [0,1,2,3,4,5,6,7,8,9] (by kernel_rfl) rfl rfl (Cf 0 (zT 1 9) rfl sC rfl (Em (v:=pV a) ⟨_,Cei,rfl⟩ rfl (lZ0 _ (lZ0 _ (lZ0 _ (lZ0 _ (lZ0 _ (lZ0 _ (lZ5 _ mC))))))) rfl) (Cf 1 (zT 2 8) rfl sC rfl (Yld.o (Ck rfl)) (Cf 2 (zT 3 7) rfl sC rfl (Yld.o (Cb Cdu rfl rfl Hw.2 (by decide) rfl rfl)) (Cf 3 (zT 4 6) rfl sC rfl (Em (v:=b) Hw.1 rfl mC rfl) ?_))));have bi:=Grow.len q;refine Cf 4 (zT 5 5) rfl sC rfl (Yld.o (Ajw (el':=9) Cdq rfl q)) (Cj 5 (zT 6 4) rfl sC rfl (Em (v:=pV a) ⟨_,Cei,rfl⟩ rfl (lZ0 _ (lZ0 _ (lZ0 _ (lZ0 _ (lZ0 _ (lZ0 _ (lZ5 _ mC))))))) rfl) sC (Cj 6 (zT 7 3) rfl sC rfl (Yld.o (Ck rfl)) sC (Cj 7 (zT 8 2) rfl sC rfl (Yld.o (Cb Cdu rfl rfl ty3.2 (by decide) rfl rfl)) sC (Cj 8 (zT 9 1) rfl sC rfl (Em (v:=iV my) ty3.1 rfl mC rfl) sC (Cj 9 (zT 10 0) rfl sC rfl (Yld.o (Dg rfl rfl)) sC (Ow rfl (kk au ?_)))))));refine Bp (t:=(xs.length:Int) != my) rfl (fun I=>?_) (fun I=>?_)
  ·have b0:=Ls I;refine qA fun be av=>Cx rfl (Cz (j:=2) (v:=.string (ByteArray.mk #[])) ty9.2 rfl rfl rfl rfl nL ?_);refine Cx rfl (Cz (j:=3) (v:=nS) Hw.2 rfl rfl rfl rfl nL ?_);refine Cx rfl (Cz (j:=4) (v:=iV 0) ty3.2 rfl rfl rfl rfl nL ?_);refine Cx rfl (Cz (j:=5) (v:=iV 2) ⟨_,Ab Cem,rfl⟩ rfl rfl rfl rfl nL ?_);refine l_k av (Aj Ghost.drop (Aj (Cfr (Bbk (Bbk (Bbk (Bbk Asc))))) (Hc q fun c4 az br=>Aj (Cfr (Lz (Lz (Lz (Lz Arz))))) (Aj Ghost.drop (Aq (L _ _ _ _ (Ayd rfl rfl rfl rfl rfl ⟨_,Z,.refl,Tm (Cft P az) (Byv (by omega) m (by omega) (by omega))⟩)))))))
  have b0:=Jh I;refine Al (kk ar ?_);refine Ai fun bf aw=>Ma ((a,oC #[iV n,.string (bs kd),iV my,b] 136)::((k,oC #[pV a] 134)::[])) [0,1,2,3,4,5,6,7] (by kernel_rfl) rfl rfl (Cf 0 (zT 1 11) rfl sC rfl (Em (v:=pV a) ⟨_,Cei,rfl⟩ rfl (lZ0 _ mC) rfl) (Cf 1 (zT 2 10) rfl sC rfl (Yld.o (Ck rfl)) (Cf 2 (zT 3 9) rfl sC rfl (Yld.o (Cb Cdu rfl rfl ty9.2 (by decide) rfl rfl)) (Cf 3 (zT 4 8) rfl sC rfl (Em (v:=.string (bs kd)) ty9.1 rfl mC rfl) (Cf 4 (zT 5 7) rfl sC rfl (Em (v:=pV a) ⟨_,Cei,rfl⟩ rfl (lZ0 _ mC) rfl) (Cf 5 (zT 6 6) rfl sC rfl (Yld.o (Ck rfl)) (Cf 6 (zT 7 5) rfl sC rfl (Yld.o (Cb Cdu rfl rfl Hw.2 (by decide) rfl rfl)) (Cf 7 (zT 8 4) rfl sC rfl (Em (v:=b) Hw.1 rfl mC rfl) (Aka (i:=8) (zT 9 3) rfl (by kernel_rfl) rfl rfl (Cz (j:=2) (v:=.string (bs kd)) ty9.2 rfl rfl rfl rfl nL ⟨sC,?_⟩))))))))));refine Wm 9 (zT 10 2) rfl rfl (Cz (j:=3) (v:=b) Hw.2 rfl rfl (Grow.single q) rfl nL ?_);refine Wm 10 (zT 11 1) rfl rfl (Cz (j:=4) (v:=iV 0) ty3.2 rfl rfl rfl rfl nL ?_);refine Wm 11 (zT 12 0) rfl rfl (Cz (j:=5) (v:=iV 0) ⟨_,Ab Cem,rfl⟩ rfl rfl rfl rfl nL ?_);refine Ow rfl (kk aw ?_);refine Aj Ghost.drop (Aj (Cfr (Lz (Lz (Lz (Lz (Lz Asd)))))) (Aj Ghost.drop (Aq (L _ _ _ _ (Ayd rfl rfl rfl rfl rfl ⟨_,_,.refl,Ayb P (Byw (by omega) m (by omega) (by omega)) q⟩)))))
 ·rintro v r Y' O' τ hO hl ⟨⟨ln,f,hgo,hv⟩,rfl⟩;exact⟨Y',_,Xe hO,Ayc hv rfl rfl rfl rfl rfl ⟨Y',Z,.refl,Tm hl (Byt (by omega) hgo)⟩⟩
end
section
open Go Go.Conc
theorem Ame{E:EntC}{args:List CV}{m:Mem}(h:fitE E args m=true):m.nx=E.nx/\args=E.args/\(∀a∈E.cs,m.M.get a.1=some a.2)/\xNoRes m.M=true:=by
 unfold fitE at h;split at h
 ·rename_i a1 a2 a3 a4;exact⟨Hr a1,Rx (Vn 50) a2,fun a ha=>Atf (Ub a3 a ha),a4⟩
 ·cases h
theorem MemX.noRec{R:XR}{m:Mem}{Y:Ro}{Z Z9:Own}(h:MemX R m Y Z Z9)(hn:NoRecv Z9)(hr:xNoRes m.M=true):NoRecv Z:=by obtain⟨L,G,h⟩:=h;have a:NoRecv (G++Z9):=hn.of fun p hp=>(Gv.1 hp).elim (fun hg=>.inr (.inl (h.gar p hg))) .inl;have b:=a.resL (R:=R) hr h.own;exact b.of fun p hp=>.inl (h.perm.mem_iff.1 hp)
theorem Cbo:Rh Bbn=([],[],3,9):=by decide +kernel
theorem Bsr:fineE eRead1=true:=by kernel_rfl
theorem Bss:fineE eWrite1=true:=by kernel_rfl
theorem Btr:Mk Tryz.prog eRead1:=by
 intro d m hf;obtain⟨hnx,rfl,_,c⟩:=Ame hf;refine⟨Agv Bsr hnx,fun R b Y Z Z9 hn hv hm=>?_⟩;have hv':VR R [.s Bbn] b:=hv;cases hv' with
 | s x h2 =>
  cases h2;refine(Brj (s:=Bbn) (by decide) rfl (hm.noRec hn c)).mono ?_;rintro w Y' Z' ⟨hl,v,gr,rfl,hg,rfl,a⟩;rw[Cbo]at a ⊢;obtain⟨rfl,rfl⟩:=a (by decide);exact⟨R,.refl,hl,.t (.s [] (.sn (.i .i64 3 (.i .i64 9 .nil)))) .nil,hm.like hl rfl hnx.symm⟩
def Bqr:List ByteArray:=[bs [97,98],bs [99]]
def Bwa:List UInt8:=[98,111,111,107,32,108,111,116,115,32,50,32,35,54,55,10,97,98,32,35,48,57,10,99,32,35,49,54,10]
theorem Cdh:Vr [108,111,116,115] Bqr=Bwa:=by decide +kernel
theorem Cdg:Qa [108,111,116,115] Bqr=0:=by decide +kernel
theorem Cbv:∀(j:Nat) (a:ByteArray),Bqr[j]?=some a->a.data.toList.length<=60000:=by intro j a h;have:=lZ6 h;simp only[Bqr,lZ8,Xp,or_false]at this;rcases this with rfl|rfl<;>decide
theorem Bqb{R:XR}{Y:Ro}{b c d:Nat}{x:Obj}(hρ:Y b=some x)(hx:ObjO R c (.cells [.s [97,98],.s [99]]) x):Val Y (.slice (some ⟨b,0,none⟩) 2 (Yv true 2 d)) Bqr:=by
 obtain⟨f,hx⟩:=hx;generalize hy:Byr x f=y at hx;cases hx with
 | cells hv _ =>
  cases hv with
  | s _ hv =>
   cases hv with
   | s _ hv =>
    cases hv;cases x<;>simp only[Byr]at hy<;>try (cases hy;done)
    rename_i cs t fz;cases hy;refine Cs.2 ⟨_,2,_,rfl,rfl,by decide,Nat.le.refl,fun i a hi=>⟨b,0,rfl,?_⟩⟩
    match i,hi with
    | 0,hi=>cases hi;exact⟨b,0,_,_,_,[.string (bs [97,98])],[.string (bs [99])],rfl,hρ,⟨rfl,by decide⟩,rfl⟩
    | 1,hi=>cases hi;exact⟨b,1,_,_,_,[.string (bs [99])],[],rfl,hρ,⟨rfl,by decide⟩,rfl⟩
theorem Boi:Mk Tryz.prog eWrite1:=by
 intro j m hf;obtain⟨hnx,rfl,hcs,_⟩:=Ame hf;refine⟨Agv Bss hnx,fun R e Y Z Z9 hn hv hm=>?_⟩;have hk:m.M.get 1227=some (.own (.cells [.s [97,98],.s [99]])):=hcs (1227,.own (.cells [.s [97,98],.s [99]])) (Nh.2 rfl);have hv':VR R [.s [108,111,116,115],.sl 1227 0 2 true 2] e:=hv;cases hv' with
 | s x h2 =>
  cases h2 with
  | slK hR h3 =>
   cases h3;rename_i b c;intro fr cs;refine Auf hm hk (fun _ _ ho=>by cases ho;exact⟨_,rfl⟩) (by simp) fun Y' Z' hl _ hm'=>?_;obtain⟨L,G,h⟩:=id hm';obtain⟨b',c',x,a,f,g⟩:=h.ro 1227 (.cells [.s [97,98],.s [99]]) (by
    show (m.M.set 1227 _).get 1227=_;rw[Tr.get_set,if_pos rfl])
   rw[hR]at a;obtain⟨rfl,rfl⟩:b=b'/\c=c':=by simpa using a
   refine((Brk (mn:=true) (X:=Ade Tryz.prog) (k:=[108,111,116,115]) (by decide) (Bqb (d:=0) f g) Cbv) fr cs).mono ?_;rintro _ _ n p ⟨w,rfl,rfl,rfl,rfl,rfl⟩;rw[Cdh,Cdg];exact⟨_,rfl,rfl,R,.refl,hl,.t (.s Bwa (.i .i64 0 .nil)) .nil,hm'.like .refl rfl hnx.symm⟩
end
section
open Go Go.Conc
theorem Buf:runE Tryz.prog (xFnsH Tryz.prog [eContents1,eRecall1,eWrite1,eRead1,eEx21,eReplay1,eEx22,eReplay2,eTin1] 100000) eKnows1=true:=by kernel_rfl
theorem Boh:Mk Tryz.prog eKnows1:=Js (es:=[eContents1,eRecall1,eWrite1,eRead1,eEx21,eReplay1,eEx22,eReplay2,eTin1]) (.cons Axp (.cons Bhv (.cons Boi (.cons Btr (.cons Byb (.cons Bhw (.cons Byc (.cons Bhx (.cons Byf .nil))))))))) 100000 Buf
def Apc:CV->Value
 | .b x=>.bool x
 | .i k n=>.int k n
 | .s l=>.string ⟨l.toArray⟩
 | .f g [] []=>.func (.func g) #[] #[]
 | .fn=>.nilFunc
 | _=>undef
def Big:CV->Bool
 | .b _ | .i _ _ | .s _ | .f _ [] [] | .fn=>true
 | _=>false
theorem Bfg{R:XR}:∀{l:List CV},l.all Big=true->VR R l (l.map Apc)
 | [],_=>.nil
 | x::l,h=>by
  simp only[Aqo,Pc]at h;obtain⟨h1,h2⟩:=h;have ih:=Bfg (R:=R) h2;unfold Big at h1;split at h1
  ·exact .b _ ih
  ·exact .i _ _ ih
  ·exact .s _ ih
  ·exact .f _ .nil .nil ih
  ·exact .fn ih
  ·cases h1
structure GlobK(Y:Ro):Prop where
 k:∀a∈eKnows1.cs,∃l t fz,a.2 = .ro (.cells l)/\l.all Big=true/\Y a.1=some (.cells (l.map Apc).toArray t fz)
theorem GlobK.mono{Y Y':Ro}(h:Ro.le Y Y')(hg:GlobK Y):GlobK Y':=⟨fun a ha=>let ⟨l,t,fz,h1,h2,h3⟩:=hg.k a ha;⟨l,t,fz,h1,h2,h _ _ h3⟩⟩
theorem Cau:xEvery (fun a=>Nat.blt a.1 16) eKnows1.cs=true:=by kernel_rfl
theorem Bxj:fitE eKnows1 [] ⟨treeOf eKnows1.cs,16,[],0,[]⟩=true:=by kernel_rfl
theorem Bxl:xNoRes (memE eKnows1 ⟨treeOf eKnows1.cs,16,[],0,[]⟩).M=true:=by kernel_rfl
theorem Bxk{Y:Ro}{Z:Own}(hg:GlobK Y):MemX (fun k=>if k<16 then some (k,0) else none) ⟨treeOf eKnows1.cs,16,[],0,[]⟩ Y Z Z:=by
 refine Bbc (fun k o hk=>?_) (fun k o hk=>?_)
 ·have hm:=Jd _ _ _ hk;obtain⟨l,t,fz,a,c,b⟩:=hg.k _ hm;simp only at a b;cases a;refine⟨?_,_,b,fun R _=>⟨(0,0),.cells (Bfg c) (Aoq _)⟩⟩;have:=Ub Cau _ hm;simpa using this
 ·have hm:=Jd _ _ _ hk;obtain⟨l,t,fz,a,_⟩:=hg.k _ hm;cases a
theorem Ajm{Y:Ro}{Z:Own}(hg:GlobK Y)(hnr:NoRecv Z):CallsH (CX true (Ade Tryz.prog)) 8 #[] Y Z (fun w Y' Z'=>Y'=Y/\Z'=Z/\w = .bool true) :=
 Bgm Boh rfl Bxj Bxl (Bxk hg) hnr
end
section
theorem Qt(z:Int):(z != z)=false:=by simp
section
variable{mn:Bool}{X:Frame->List Frame->Ro->Own->Cy->Prop}{Y:Ro}{Z:Own}{b:LBook}{k s t:Nat}{vb vl vc:Value}{x:LLot}
theorem Bri(h0:Gt b=0)(hk:k<b.lots.length)(rv:Val Y vb b)(rl:Val Y vl (Bw (Dm b.fields.length s):List Int)):CallsH (CX mn X) 10 #[vb,vl,iV k] Y Z (fun w Y' Z'=>Ro.le Y Y'/\Z'=Z/\∃vx,w=(.tuple #[iV (Ds b (Bf (Dm b.fields.length s)) k),vx,z0])/\Val Y' vx (Bw (Bv (Ob b (Bf (Dm b.fields.length s)) k)):List Int)):=by have h:=Brh (mn:=mn) (X:=X) (Z:=Z) (k:=(k:Int)) rv rl;simp only[Bej,Bei,Afr h0 hk,if_true,Aaw,Yk]at h;exact h
theorem Bki(h0:Gt b=0)(hk:k<b.lots.length)(rv:Val Y vb b)(rl:Val Y vl (Bw (Dm b.fields.length s):List Int))(rc:Val Y vc (Bw (Dm b.lots.length (t ||| 1 <<< k)):List Int)):CallsH (CX mn X) 20 #[vb,vl,iV k,vc] Y Z (rP Y Z (.tuple #[iV (Bq b (Bf (Dm b.fields.length s)) (Bf (Dm b.lots.length (t ||| 1 <<< k)))),z0])):=by have h:=Bgg (mn:=mn) (X:=X) (Z:=Z) (k:=(k:Int)) rv rl rc;simp only[Are,Bgq h0 hk,if_true,Aaw]at h;exact h
theorem Azs(h0:Gt b=0)(hk:k<b.lots.length):Fk b [] (k:Int)=0:=Azd h0 rfl (Fz.2 ⟨by omega,by omega⟩)
theorem Brf(h0:Gt b=0)(hk:k<b.lots.length)(rv:Val Y vb b):CallsH (CX mn X) 18 #[vb,iV k] Y Z (fun w Y' Z'=>Ro.le Y Y'/\Z'=Z/\∃vx,w=(.tuple #[vx,z0])/\Val Y' vx (Vw b k:List Span)):=by have h:=Avj (mn:=mn) (X:=X) (Z:=Z) (k:=(k:Int)) rv;simp only[Bcl,Azs h0 hk,if_true,Yk]at h;exact h
end
end
section
open Go Go.WideShapes
structure UH where
 n:Nat
 lt:n<65536
instance:Dat UH where
 k:=1
 agg:=false
 rep _ cs x:=cs=[.int .u16 (x.n:Int)]
 mono _ h:=h
 len h:=by rw[h];rfl
 sgl h:=by rw[h];simp[single]
 one _:=rfl
theorem Bzj{Y:Ro}{v:Value}{x:UH}:Val Y v x↔v = .int .u16 (x.n:Int) :=
 ⟨fun⟨cs,a,b⟩=>by rw[b,show cs=[.int .u16 (x.n:Int)] from a];rfl,fun h=>⟨[v],by rw[h];rfl,rfl⟩⟩
theorem Cbt:GoTy Tryz.prog 200 UH:=⟨⟨_,Cfg,rfl⟩,⟨_,Ab Tryz.typeInfo200,rfl⟩⟩
theorem Bjk{P:Program}{Y:Ro}{e:Env}{ty t:TypeId}{x:Operand}{p:Value}{a:UH}(hT:GoTy P t UH)(hx:Af e x=p)(hp:At Y p a):Yld P Y e (.load t x) ty (.int .u16 (a.n:Int)):=by obtain⟨v,c,b⟩:=Ax (ty:=ty) hT hx hp;rw[Bzj.1 c]at b;exact b
theorem Bwu{t:TypeId}(ht:Tryz.prog.underlying t=some (.int .u16))(hc:Tryz.prog.cellsOf t=1):Api UH t :=
 ⟨hc,fun H enc W c cs x h _=>by
  obtain⟨n,a,_,b⟩:=DataW.trod_int ht h;simp[Lit.wf,IntKind.min,IntKind.max,IntKind.signed,IntKind.bits]at b;refine⟨⟨n.toNat,by omega⟩,?_⟩;show cs=[.int .u16 ((n.toNat:Nat):Int)];rw[a,Bdf (by omega)]⟩
section
variable{H:Type}{enc:TypeId×Value->H}{W:World}{r:Go.Reach}{base t:Nat}{v:Value}{d:DataW H}{p:List MemPlace}
theorem Azc(ht:Tryz.prog.underlying t=some (.int .u8))(hv:Value.okWide Tryz.prog W r base t v)(h:DataW.Trod enc Tryz.prog W 0 (fun _=>true) true t v d p):∃n:Nat,v = .int .u8 (n:Int)/\n<256:=by
 obtain⟨n,rfl⟩:=okWide_int ht hv;obtain⟨c,hf⟩:=h;obtain⟨m,a,_,b⟩:=DataW.trod_int (cs:=[.int .u8 n]) ht hf;simp[Lit.wf,IntKind.min,IntKind.max,IntKind.signed,IntKind.bits]at b;obtain rfl:n=m:=by simpa using a
 exact⟨n.toNat,by rw[Bdf (by omega)],by omega⟩
end
def Po(l:List UH)(k:Nat):Nat:=match l[k]? with|some x=>x.n|none=>0
theorem Azr{l:List UH}{k:Nat}:Po l k<65536:=by
 unfold Po;split
 ·rename_i x _;exact x.lt
 ·decide
theorem Azq{l:List UH}{k:Nat}{x:UH}(h:l[k]?=some x):Po l k=x.n:=by unfold Po;rw[h]
theorem Avn{l:List UH}{k:Nat}(h:l.length<=k):Po l k=0:=by unfold Po;rw[Sr h]
end
section
theorem Ags{b:LBook}(ok:LotsOk b){i k:Nat}{x:LLot}{p:LPart}(hx:b.lots[i]?=some x)(hp:x.parts[k]?=some p) :
  (0<=(Fm b i p).field->Cr b.lots p.of_ = -1)/\(¬0<=(Fm b i p).field->Cr b.lots p.of_=(Fm b i p).lot/\0<=(Fm b i p).lot):=by
 constructor
 ·intro h;have a:=Rp.1 h;have c:-1<=Cr b.lots p.of_:=Bcr;rcases (show Cr b.lots p.of_ = -1∨0<=Cr b.lots p.of_ by omega) with h3|h3
  ·exact h3
  ·exfalso;obtain⟨y,hy,hn⟩:=Wf h3;exact(ok.lnm _ y hy).2.1 (hn ▸ a)
 ·intro h;have a:=Bpy ok hx hp h;refine⟨?_,a⟩;obtain⟨y,hy,hn⟩:=Wf (l:=b.lots.take i) a;have hlt:=(lZ1.1 hy).1;rw[Lo]at hlt;have hy':b.lots[(Fm b i p).lot.toNat]?=some y:=by
   rw[Zc (by show (Cr (b.lots.take i) p.of_).toNat<i;omega)]at hy;exact hy
  have hd:p.of_∉(En b.lots).take (Fm b i p).lot.toNat:=by
   rw[<-hn];have:=(ok.lnm _ y hy').2.2.1;unfold En at this ⊢;rw[<-Bdw];exact this
  have hnj:(En b.lots)[(Fm b i p).lot.toNat]?=some p.of_:=by unfold En;rw[Pb,hy',<-hn];rfl
  have:=Avy hnj hd;show Aht (En b.lots) p.of_=_;rw[this];omega
section
variable{g:List Nat->Int}{k:Nat}{acc:Option (List Nat)}{l:List Nat}
end
section
variable{b:LBook}{c k:Nat}{x:LLot}{p:LPart}{xs cs:List Nat}
theorem Blo(ok:LotsOk b)(hx:b.lots[c]?=some x)(hp:x.parts[k]?=some p)(q:Cr b.lots p.of_<0):0<=(Fm b c p).field:=by
 rcases (show 0<=(Fm b c p).field∨¬0<=(Fm b c p).field by omega) with h|h
 ·exact h
 ·have:=(Ags ok hx hp).2 h;omega
theorem Bap(ok:LotsOk b)(hx:b.lots[c]?=some x)(hp:x.parts[k]?=some p)(q:¬Cr b.lots p.of_<0):¬0<=(Fm b c p).field/\Cr b.lots p.of_=(Fm b c p).lot:=by
 rcases (show 0<=(Fm b c p).field∨¬0<=(Fm b c p).field by omega) with h|h
 ·have:=(Ags ok hx hp).1 h;omega
 ·exact⟨h,((Ags ok hx hp).2 h).1⟩
end
end
section
def Hv(l:List Int):Nat->Int:=fun f=>l.getD f 0
theorem Pp{l:List Int}{f:Nat}{z:Int}(h:l[f]?=some z):Hv l f=z:=by unfold Hv;rw[Oz,h];rfl
theorem Zm{l:List Int}{f:Nat}{z:Int}(h:f<l.length):Hv (l.set f z)=fun j=>if j=f then z else Hv l j:=funext fun j=>by
 unfold Hv;rw[Oz,Oz,Vc];by_cases hj:f=j
 ·subst hj;simp[h]
 ·rw[if_neg hj,if_neg (fun e=>hj e.symm)]
theorem Anw{N:Nat}:Hv (List.replicate N (0:Int))=fun _=>0:=funext fun j=>by
 unfold Hv;rw[Oz];cases h:(List.replicate N (0:Int))[j]? with
 | none=>rfl
 | some z=>exact Akd h
def Hx(rows:List (List Int))(sum:List Int)(i:Nat):Nat->Nat->Int:=fun j=>if j<i then Hv (rows.getD j []) else if j=i then Hv sum else fun _=>0
theorem Bhl{rows:List (List Int)}{sum:List Int}{i N:Nat}(h:rows.length=i):Hx (rows++[sum]) (List.replicate N 0) (i+1)=Hx rows sum i:=funext fun j=>by
 unfold Hx;rcases Bdo j i with hj|hj|hj
 ·rw[if_pos (by omega),if_pos hj,Oz,Oz,Aiv (by omega)]
 ·subst hj;rw[if_pos (by omega),if_neg (by omega),if_pos rfl,Oz,Blw (by omega),h];simp
 ·rw[if_neg (show ¬j<i+1 by omega),if_neg (show ¬j<i by omega),if_neg (show ¬j=i by omega)];split
  ·exact Anw
  ·rfl
def Mvg(N:Nat)(row0 sum0:List Int)(g:Int)(row sum:List Int)(rest:Int):Prop :=
 ∃d:Nat->Int,(∀f,0<=d f/\d f<=Hv row0 f)/\(∀f,Hv row f=Hv row0 f-d f)/\(∀f,Hv sum f=Hv sum0 f+d f)/\rest=g-Df N d/\0<=rest/\row.length=N/\sum.length=N
section
variable{N:Nat}{row0 sum0 row sum:List Int}{g rest n x y:Int}{f:Nat}
theorem Caz(h0:0<=g)(h1:row0.length=N)(h2:sum0.length=N)(hn:∀f,0<=Hv row0 f):Mvg N row0 sum0 g row0 sum0 g :=
 ⟨fun _=>0,fun f=>⟨Ve _,hn f⟩,fun f=>(Int.sub_zero _).symm,fun f=>(Bdy _).symm,by rw[Ii fun _ _=>rfl];omega,h0,h1,h2⟩
theorem Bxq(h:Mvg N row0 sum0 g row sum rest)(f:Nat):0<=Hv row f:=by obtain⟨d,a,b,_⟩:=h;have:=a f;rw[b];omega
theorem Aeh(h:Mvg N row0 sum0 g row sum rest)(hf:f<N)(hx:row[f]?=some x)(hy:sum[f]?=some y)(h0:0<=n)(h1:n<=rest)(h2:n<=x):Mvg N row0 sum0 g (row.set f (x-n)) (sum.set f (y+n)) (rest-n):=by
 obtain⟨d,b,a,c,k,m,e,i⟩:=h;have ex:=Pp hx;have ey:=Pp hy;refine⟨fun j=>d j+(if j=f then n else 0),fun j=>?_,fun j=>?_,fun j=>?_,?_,by omega,by rw[Xr];exact e,by rw[Xr];exact i⟩
 ·have:=b j;have:=a j;by_cases hj:j=f
  ·subst hj;simp only[if_true];omega
  ·simp only[if_neg hj];omega
 ·rw[Zm (by omega)];have:=a j;by_cases hj:j=f
  ·subst hj;simp only[if_true];omega
  ·simp only[if_neg hj];omega
 ·rw[Zm (by omega)];have:=c j;by_cases hj:j=f
  ·subst hj;simp only[if_true];omega
  ·simp only[if_neg hj];omega
 ·rw[Ajf,Wt hf];omega
theorem Aeg{B:Int}(h:Mvg N row0 sum0 g row sum rest)(hB:∀f,Hv sum0 f<=B)(hs:sum[f]?=some y)(hf:f<N):y<=B+g:=by
 obtain⟨d,a,i,b,k,m,p,q⟩:=h;have c:=b f;have t:=hB f;have e:=Oe (n:=N) (f:=fun j=>if j=f then d f else 0) (g:=d) fun j _=>by
  by_cases hj:j=f
  ·subst hj;simp
  ·simp only[if_neg hj];exact(a j).1
 rw[Wt hf]at e;rw[Pp hs]at c;omega
theorem Btl(h:Mvg N row0 sum0 g row sum rest)(hz:0<rest->∀f,f<N->Hv row f=0)(hg:g<=Df N (Hv row0)):rest=0:=by
 obtain⟨d,b,a,c,e,i,j,k⟩:=h;rcases (show rest=0∨0<rest by omega) with h0|h0
 ·exact h0
 ·exfalso;have:Df N d=Df N (Hv row0):=Et fun f hf=>by have:=a f;have:=hz h0 f hf;omega
  omega
end
section
variable{b:LBook}{n N i k j:Nat}{M:List Mv}{rows:List (List Int)}{sum:List Int}{x:LLot}{p:LPart}
theorem Bnf{row' sum':List Int}(hj:j<i)(hr:rows.length=i):∀t,t≠i->t≠j->Hx (rows.set j row') sum' i t=Hx rows sum i t:=fun t b c=>by
 unfold Hx;by_cases ht:t<i
 ·rw[if_pos ht,if_pos ht,Oz,Oz,List.getElem?_set_ne (fun e=>c e.symm)]
 ·rw[if_neg ht,if_neg ht,if_neg b,if_neg b]
theorem Bix{m:Mv}{f:Nat}{y:Int}(h:Thr n N M (Hx rows sum i))(hm:m.dst=i)(hi:i<n)(hg:0<=m.g)(hfld:m.fld=true)(hsrc:m.src=f)(hf:f<N)(hl:sum.length=N)(hy:sum[f]?=some y):Thr n N (M++[m]) (Hx rows (sum.set f (y+m.g)) i):=by
 subst hm hsrc;refine Bfe h (d:=fun f=>if f=m.src then m.g else 0) (fun f=>by split<;>omega) hi (Wt hf) hfld (fun F=>Ard hf) (funext fun t=>?_) fun j hj=>?_
 ·unfold Hx;rw[if_neg (by omega),if_pos rfl,if_neg (by omega),if_pos rfl,Zm (by omega)];have:=Pp hy;by_cases ht:t=m.src
  ·subst ht;simp[this]
  ·simp[ht]
 ·unfold Hx;by_cases h1:j<m.dst
  ·rw[if_pos h1,if_pos h1]
  ·rw[if_neg h1,if_neg h1,if_neg hj,if_neg hj]
theorem Bqh{m:Mv}{row row' sum':List Int}(h:Thr n N M (Hx rows sum i))(hm:m.dst=i)(hi:i<n)(hfld:m.fld=false)(hsrc:m.src=j)(hj:j<i)(hr:rows.length=i)(hrow:rows[j]?=some row)(hv:Mvg N row sum m.g row' sum' 0):Thr n N (M++[m]) (Hx (rows.set j row') sum' i):=by
 obtain⟨d,a,b,c,p,q,u,v⟩:=hv;have eS:Hx rows sum i j=Hv row:=by unfold Hx;rw[if_pos hj,Oz,hrow];rfl
 have eD:Hx rows sum i i=Hv sum:=by unfold Hx;rw[if_neg (by omega),if_pos rfl]
 subst hm hsrc;refine Ayl h (d:=d) (fun f=>(a f).1) (fun f=>by rw[eS];exact(a f).2) hi (by omega) (by omega) (by omega) hfld (funext fun f=>?_) (funext fun f=>?_) fun t e k=>Bnf hj hr t e k
 ·rw[eD];unfold Hx;rw[if_neg (by omega),if_pos rfl];exact c f
 ·rw[eS];unfold Hx;rw[if_pos hj,Oz,Bcz (by omega)];exact b f
theorem Cbs:Thr n N [] (Hx [] (List.replicate N 0) 0):=by
 have e:Hx [] (List.replicate N 0) 0=fun _ _=>0:=funext fun j=>by
  unfold Hx;rw[if_neg (by omega)];split
  ·exact Anw
  ·rfl
 rw[e];obtain⟨l,hl⟩:=Aug (n:=n) (N:=N) (M:=[]) (fun A m B h=>by simp at h) 0 (Ib _);refine⟨fun _ _=>Ve _,fun j _=>by rw[Ii fun _ _=>rfl];rfl,fun F C=>?_⟩;rw[Ii fun i _=>by
  have:Es N F (fun _=>(0:Int))=0:=Ii fun _ _=>by split<;>rfl
  simp only[this];split<;>rfl]
 exact Ve _
structure RealOk(b:LBook)(k:Nat)(r:List Int):Prop where
 len:r.length=b.fields.length
 nn:∀f,0<=Hv r f
 tot:Df b.fields.length (Hv r)=Aqz b k
 cut:∀F C:Nat,C.testBit k=true->Es b.fields.length F.testBit (Hv r)<=Bq b F C
theorem Bun(ok:LotsOk b)(hx:b.lots[i]?=some x)(h:Thr b.lots.length b.fields.length (Pm b (i+1)) (Hx rows sum i))(hl:sum.length=b.fields.length):RealOk b i sum:=by
 have hi:=(lZ1.1 hx).1;have e:Hx rows sum i i=Hv sum:=by unfold Hx;rw[if_neg (by omega),if_pos rfl]
 have c:mvs b=Pm b (i+1)++Qn b (i+1) (b.lots.drop (i+1)):=by
  unfold mvs Pm
  conv=>lhs;rw[<-Zd (i+1) b.lots]
  rw[Zi,Lo,Aox (by omega),Qz]
 have p:Qj i (Pm b (i+1))=0:=by
  have ht:∀(t:Nat) (z:LLot),(b.lots.take (i+1))[t]?=some z->b.lots[0+t]?=some z:=fun t z hz=>by
   rw[Qz];have:=(lZ1.1 hz).1;rw[Lo]at this;rw[Zc (by omega)]at hz;exact hz
  unfold Pm;rw[Bon ok hx ht];have key:∀t,t<=i+1->tkO x.name (b.lots.take t)=0:=by
   intro t;induction t with
   | zero=>intro _;rfl
   | succ t ih =>
    intro htt;have hz:b.lots[t]?=some b.lots[t]:=Ps (by omega);rw[Aym hz,ih (by omega),Bbt fun q hq hqe=>?_]
    ·rfl
    ·obtain⟨u,hu⟩:=Se hq;have hs:=(ok.prt t _ u q hz hu).1;have:=(Afa ok hx hs).2 hqe;have:=(Aoa this.1 hs).1;have:=(Afa ok hx hs).2 hqe;omega
  exact key _ (Ib _)
 have hin:Uo i (Pm b (i+1))=Aqz b i:=by
  unfold Pm;rw[Blu,if_pos (Hn _),Aqs,Zc (by omega),hx,Wh hx]
 refine⟨hl,fun f=>by have:=h.nn i f;rwa[e]at this,by have:=h.tot i hi;rw[e,p,hin]at this;omega,fun F C hC=>?_⟩;have v:=h.cut F.testBit C.testBit;have w:Es b.fields.length F.testBit (Hv sum)<=Df b.lots.length (fun j=>if C.testBit j then Es b.fields.length F.testBit (Hx rows sum i j) else 0):=by
  have d:=Mb (n:=b.lots.length) (k:=i) (f:=fun j=>if j=i then 0 else if C.testBit j then Es b.fields.length F.testBit (Hx rows sum i j) else 0) (g:=fun j=>if C.testBit j then Es b.fields.length F.testBit (Hx rows sum i j) else 0) hi fun t _ hti=>by rw[if_neg hti]
  rw[d,if_pos rfl,hC,if_pos rfl,e];have:0<=Df b.lots.length (fun j=>if j=i then 0 else if C.testBit j then Es b.fields.length F.testBit (Hx rows sum i j) else 0):=Sa fun j _=>by
   have:=Xz (N:=b.fields.length) (F:=F.testBit) (h.nn j);split
   ·omega
   ·split<;>omega
  omega
 have y:Bq b F C=Nc F.testBit C.testBit (Pm b (i+1))+Nc F.testBit C.testBit (Qn b (i+1) (b.lots.drop (i+1))):=by
  unfold Bq;rw[c,Pi]
 have B:0<=Nc F.testBit C.testBit (Qn b (i+1) (b.lots.drop (i+1))):=Vg fun m hm=>Acp ok m (by rw[c];exact lZ5 _ hm);omega
theorem Bhm(ok:LotsOk b)(hx:b.lots[i]?=some x)(hp:x.parts[k]?=some p)(hf:¬0<=(Fm b i p).field){row:List Int}
  (h:Thr b.lots.length b.fields.length (Pm b i++Lu b i (x.parts.take k)) (Hx rows sum i)) (hr:rows.length=i) (hrow:rows[(Fm b i p).lot.toNat]?=some row):p.grams<=Df b.fields.length (Hv row):=by
 have hm:(Jm b i p).fld=false:=by unfold Jm;exact Ji hf
 have m:(Jm b i p).src=(Fm b i p).lot.toNat:=by unfold Jm;exact if_neg hf
 have hi:=(lZ1.1 hx).1;have j:mvs b=(Pm b i++Lu b i (x.parts.take k))++Jm b i p::(Lu b i (x.parts.drop (k+1))++Qn b (i+1) (b.lots.drop (i+1))):=by
  unfold mvs Pm
  conv=>lhs;rw[<-Zd i b.lots,Adr hx]
  rw[Zi,Lo,Aox (by omega),Qz,Qn];have:Lu b i x.parts=Lu b i (x.parts.take k)++Jm b i p::Lu b i (x.parts.drop (k+1)):=by
   unfold Lu
   conv=>lhs;rw[<-Zd k x.parts,Adr hp,Mi,Ic]
  rw[this];simp
 have c:=Bbd ok _ _ _ j;have a:=c.2.2;rw[hm,if_neg (by simp)]at a;have hlt:=(lZ1.1 hrow).1;have e:Hx rows sum i (Fm b i p).lot.toNat=Hv row:=by unfold Hx;rw[if_pos (by omega),Oz,hrow];rfl
 have d:=h.tot (Fm b i p).lot.toNat (by omega);rw[e]at d;have f:=a.2.2;rw[m]at f;have:(Jm b i p).g=p.grams:=rfl;omega
end
end
section
section
variable{b:LBook}{k s t i:Nat}{r:List Int}{x:LLot}{z:Int}{F:Nat}
theorem Ahf(hx:b.lots[k]?=some x)(hr:RealOk b k r)(F:Nat):Es b.fields.length F.testBit (Hv r)<=Ds b F k:=hr.cut F _ (Agw hx F).1
theorem Ahe{N:Nat}{v:Nat->Int}:Es N F.testBit v+Es N (Fv N F).testBit v=Df N v:=by unfold Es;rw[<-Ajf];refine Et fun j hj=>?_;rw[Bev];cases F.testBit j<;>simp[hj]
theorem Btx(hr:RealOk b k r)(F:Nat):0<=Es b.fields.length F.testBit (Hv r):=Sa fun j _=>by
 show 0<=(if F.testBit j=true then Hv r j else 0);split
 ·exact hr.nn j
 ·exact Ve _
theorem Bot{N:Nat}{v:Nat->Int}(hi:i<N):Es N (1 <<< i).testBit v=v i:=by
 unfold Es;rw[Et (g:=fun f=>if f=i then v i else 0) fun j _=>by
  rw[Xa];by_cases h:j=i
  ·subst h;simp
  ·rw[if_neg h,if_neg (by simpa using fun e=>h e.symm)]]
 exact Wt hi
theorem Aob(hx:b.lots[k]?=some x)(hr:RealOk b k r)(F:Nat):(Ew b F k).low<=Es b.fields.length F.testBit (Hv r)/\Es b.fields.length F.testBit (Hv r)<=(Ew b F k).high:=by refine⟨?_,Ahf hx hr F⟩;show Aqz b k-Ds b (Fv b.fields.length F) k<=_;have a:=Ahf hx hr (Fv b.fields.length F);have c:=Ahe (N:=b.fields.length) (F:=F) (v:=Hv r);have d:=hr.tot;omega
theorem Bvc(hx:b.lots[k]?=some x)(hr:RealOk b k r)(hz:r[i]?=some z):(Ew b (1 <<< i) k).low<=z/\z<=(Ew b (1 <<< i) k).high:=by
 have hi:i<b.fields.length:=by rw[<-hr.len];exact(lZ1.1 hz).1
 have h:=Aob hx hr (1 <<< i);rw[Bot hi,Pp hz]at h;exact h
def Bqf(r:List Int)(i:Nat):Int:=Df i (Hv r)
theorem Biv(hz:r[i]?=some z):Bqf r (i+1)=Bqf r i+z:=by show Df i (Hv r)+Hv r i=_;rw[Pp hz];rfl
theorem Ayn(hx:b.lots[k]?=some x)(hr:RealOk b k r):Bqf r b.fields.length=Ef x:=by rw[<-Wh hx];exact hr.tot
theorem Bqj(hx:b.lots[k]?=some x)(hr:RealOk b k r)(hz:r[i]?=some z):0<=z/\z<=Ef x:=by
 have hi:i<b.fields.length:=by rw[<-hr.len];exact(lZ1.1 hz).1
 have a:=hr.nn i;have c:=Alw (f:=Hv r) (fun j _=>hr.nn j) hi;have d:=Ayn hx hr;unfold Bqf at d;rw[Pp hz]at a c;omega
def Nu(r:List Int)(l:List Nat):Int:=(l.map (Hv r)).sum
theorem Bbj{l:List Nat}{j f:Nat}(hf:l[j]?=some f)(hz:r[f]?=some z):Nu r (l.take (j+1))=Nu r (l.take j)+z:=by unfold Nu;rw[Ym,hf];simp only[Option.toList,Mi,Ic,List.map_nil,List.sum_append,List.sum_cons,List.sum_nil,Pp hz];omega
theorem Bie{N:Nat}{v:Nat->Int}:∀{n:Nat},n<=N->(((List.range n).filter (Gw s)).map v).sum=Es n (Bf (Dm N s)).testBit v:=by
 intro n;induction n with
 | zero=>intro _;rfl
 | succ n ih =>
  intro hn;show _=Es n _ v+(if (Bf (Dm N s)).testBit n=true then v n else 0);rw[Bds,Bmp,Mi,List.sum_append,ih (by omega),Agu];have hm:Gw s n=s.testBit n:=Pz s n;cases hb:s.testBit n with
  | true=>simp[hm,hb,show n<N by omega]
  | false=>simp[hm,hb]
theorem Bqk(r:List Int):Nu r (Dm b.fields.length s)=Es b.fields.length (Bf (Dm b.fields.length s)).testBit (Hv r):=Bie (Ib _)
theorem Us(hx:b.lots[k]?=some x)(hr:RealOk b k r)(h:Nr (Ew b (Fv b.fields.length F) k)=1):Es b.fields.length F.testBit (Hv r)=Ef x:=by
 have c:=Aob hx hr (Fv b.fields.length F);have d:=Ahe (N:=b.fields.length) (F:=F) (v:=Hv r);have a:=hr.tot;have e:=Btx hr (Fv b.fields.length F);rw[Wh hx]at a;unfold Nr at h;split at h
 ·omega
 ·split at h<;>omega
theorem Arp(hx:b.lots[k]?=some x)(hr:RealOk b k r)(h:Nr (Ew b (Fv b.fields.length F) k)=2):Es b.fields.length F.testBit (Hv r)≠Ef x:=by
 have c:=Aob hx hr (Fv b.fields.length F);have d:=Ahe (N:=b.fields.length) (F:=F) (v:=Hv r);have a:=hr.tot;rw[Wh hx]at a;unfold Nr at h;split at h
 ·omega
 ·split at h<;>omega
theorem Biz(hx:b.lots[k]?=some x)(hr:RealOk b k r)(F:Nat):Es b.fields.length F.testBit (Hv r)<=Bq b F (Bf (Dm b.lots.length (t ||| 1 <<< k))) :=
 hr.cut F _ (by rw[Agu,Azu];simp[(lZ1.1 hx).1])
end
end
section
section
variable{b:LBook}{i k:Nat}{x:LLot}{p:LPart}{T T0 H:List (List Int)}{sum row row' sum':List Int}{y z rest:Int}
structure RealI(b:LBook)(i:Nat)(T H:List (List Int)):Prop where
 len:T.length=i
 hlen:H.length=i
 row:∀r∈T,r.length=b.fields.length
 thr:Thr b.lots.length b.fields.length (Pm b i) (Hx T (List.replicate b.fields.length 0) i)
 real:∀k r,H[k]?=some r->RealOk b k r
structure RealK(b:LBook)(x:LLot)(i k:Nat)(T:List (List Int))(sum:List Int):Prop where
 len:T.length=i
 row:∀r∈T,r.length=b.fields.length
 sl:sum.length=b.fields.length
 thr:Thr b.lots.length b.fields.length (Pm b i++Lu b i (x.parts.take k)) (Hx T sum i)
 bnd:∀f,Hv sum f<=100000*(k:Int)
theorem Bul:RealI b 0 [] []:=⟨rfl,rfl,fun r h=>(by cases h),Cbs,fun k r h=>(by cases h)⟩
theorem Bum(h:RealI b i T H):RealK b x i 0 T (List.replicate b.fields.length 0) :=
 ⟨h.len,h.row,Bhh,by rw[show Pm b i++Lu b i (x.parts.take 0)=Pm b i from Ui _];exact h.thr,fun f=>by rw[Anw];simp⟩
theorem Anv(hp:x.parts[k]?=some p):Pm b i++Lu b i (x.parts.take (k+1))=(Pm b i++Lu b i (x.parts.take k))++[Jm b i p]:=by rw[Wl hp,lZ9]
theorem Bil(ok:LotsOk b)(hx:b.lots[i]?=some x)(hp:x.parts[k]?=some p)(hq:Cr b.lots p.of_<0)(h:RealK b x i k T sum)(hy:sum[(Aht b.fields p.of_).toNat]?=some y) :
  RealK b x i (k+1) T (sum.set (Aht b.fields p.of_).toNat (y+p.grams)):=by
 have hf:=Blo ok hx hp hq;have hi:=(lZ1.1 hx).1;have hg:=(ok.prt i x k p hx hp).2.2;have hlt:(Aht b.fields p.of_).toNat<b.fields.length:=by rw[<-h.sl];exact(lZ1.1 hy).1
 refine⟨h.len,h.row,by rw[Xr];exact h.sl,?_,fun f=>?_⟩
 ·rw[Anv hp];exact Bix (m:=Jm b i p) h.thr rfl hi (by show 0<=p.grams;omega) (Qx hf) (if_pos hf) hlt h.sl hy
 ·rw[Zm (by rw[h.sl];exact hlt)];have c:=h.bnd f;have a:=h.bnd (Aht b.fields p.of_).toNat;rw[Pp hy]at a;show (if f=_ then _ else _)<=_;split<;>omega
theorem Bpl(ok:LotsOk b)(hx:b.lots[i]?=some x)(hp:x.parts[k]?=some p)(hq:Cr b.lots p.of_<0)(h:RealK b x i k T sum):0<=Aht b.fields p.of_/\(Aht b.fields p.of_).toNat<sum.length:=by have hf:0<=Aht b.fields p.of_:=Blo ok hx hp hq;exact⟨hf,by rw[h.sl];exact(lZ1.1 (Yz hf)).1⟩
theorem Bpu{j:Nat}{r:List Int}(h:T[j]?=some r):T=T.set j r:=by obtain⟨b,a⟩:=lZ1.1 h;rw[<-a,List.set_getElem_self]
theorem Bpm(ok:LotsOk b)(hx:b.lots[i]?=some x)(hp:x.parts[k]?=some p)(hq:¬Cr b.lots p.of_<0)(h:RealK b x i k T sum):(Cr b.lots p.of_).toNat<T.length:=by obtain⟨hf,hl⟩:=Bap ok hx hp hq;have a:=(Aoa (i:=i) (p:=p) (Ji hf) (ok.prt i x k p hx hp).1).1;have c:(Jm b i p).src=(Fm b i p).lot.toNat:=if_neg hf;rw[hl,h.len];omega
theorem Bbo(ok:LotsOk b)(hx:b.lots[i]?=some x)(hp:x.parts[k]?=some p)(hq:¬Cr b.lots p.of_<0)(h:RealK b x i k T sum)(hr:T[(Cr b.lots p.of_).toNat]?=some row) :
  Mvg b.fields.length row sum p.grams row sum p.grams/\p.grams<=Df b.fields.length (Hv row):=by
 obtain⟨hf,hl⟩:=Bap ok hx hp hq;have hg:=(ok.prt i x k p hx hp).2.2;have hj:(Cr b.lots p.of_).toNat<i:=by rw[<-h.len];exact(lZ1.1 hr).1
 refine⟨Caz (by omega) (h.row _ (lZ6 hr)) h.sl fun f=>?_,Bhm ok hx hp hf h.thr h.len (by rw[<-hl];exact hr)⟩;have a:=h.thr.nn (Cr b.lots p.of_).toNat f;rw[show Hx T sum i (Cr b.lots p.of_).toNat=Hv row by unfold Hx;rw[if_pos hj,Oz,hr];rfl]at a;exact a
theorem Bim(ok:LotsOk b)(hx:b.lots[i]?=some x)(hp:x.parts[k]?=some p)(hq:¬Cr b.lots p.of_<0)(h:RealK b x i k T sum)(hr:T[(Cr b.lots p.of_).toNat]?=some row)(hv:Mvg b.fields.length row sum p.grams row' sum' 0) :
  RealK b x i (k+1) (T.set (Cr b.lots p.of_).toNat row') sum':=by
 obtain⟨hf,hl⟩:=Bap ok hx hp hq;have hi:=(lZ1.1 hx).1;have hg:=(ok.prt i x k p hx hp).2.2;have hj:(Cr b.lots p.of_).toNat<i:=by rw[<-h.len];exact(lZ1.1 hr).1
 obtain⟨d,e,g,j,n,q,c,a⟩:=id hv;refine⟨by rw[Xr];exact h.len,fun r hm=>?_,a,?_,fun f=>?_⟩
 ·rcases Blz hm with hm|rfl
  ·exact h.row r hm
  ·exact c
 ·rw[Anv hp];exact Bqh (m:=Jm b i p) h.thr rfl hi (Ji hf) ((if_neg hf).trans (by rw[hl])) hj h.len hr hv
 ·cases hy:sum'[f]? with
  | none=>rw[show Hv sum' f=0 by unfold Hv;rw[Oz,hy];rfl];omega
  | some y =>
   have:=Aeg hv h.bnd hy (by rw[<-a];exact(lZ1.1 hy).1);rw[Pp hy];omega
theorem Bik(ok:LotsOk b)(hx:b.lots[i]?=some x)(hk:x.parts.length<=k)(h0:RealI b i T0 H)(h:RealK b x i k T sum):RealI b (i+1) (T++[sum]) (H++[sum]):=by
 have ht:=h.thr;rw[Atr hk,<-Agx hx]at ht;refine⟨by simp[h.len],by simp[h0.hlen],fun r hr=>?_,by rw[Bhl h.len];exact ht,fun j r hr=>?_⟩
 ·rcases Gv.1 hr with hr|hr
  ·exact h.row r hr
  ·rw[Nh.1 hr];exact h.sl
 ·have a:=(lZ1.1 hr).1;rw[lZ4,h0.hlen]at a;rcases Tk j i with hj|hj
  ·rw[Aiv (by rw[h0.hlen];exact hj)]at hr;exact h0.real j r hr
  ·rw[Blw (by rw[h0.hlen];exact hj),h0.hlen]at hr;have c:j=i:=by simp at a;omega
   subst c;simp at hr;subst hr;exact Bun ok hx ht h.sl
theorem Bnt{N f:Nat}{row0 sum0:List Int}{g:Int}(h:Mvg N row0 sum0 g row sum rest)(hf:f<N):f<row.length/\f<sum.length:=by obtain⟨d,a,b,c,e,i,j,k⟩:=h;omega
theorem Bvs{N:Nat}{row0 sum0:List Int}{g:Int}(h:Mvg N row0 sum0 g row sum rest):0<=rest/\rest<=g:=by obtain⟨d,a,b,c,e,i,k,m⟩:=h;have:=Sa (n:=N) (f:=d) fun j _=>(a j).1;omega
theorem Bek{N f:Nat}{row0 sum0:List Int}{g:Int}(h:Mvg N row0 sum0 g row sum rest)(hz:row[f]?=some z):0<=z:=by
 have:=Bxq h f
 rwa[Pp hz]at this
theorem Apv{f:Nat}(h:0<rest->∀j,j<f->Hv row j=0)(hz:row[f]?=some z)(h0:0<=z):0<rest-min rest z->∀j,j<f+1->Hv (row.set f (z-min rest z)) j=0:=fun hr j hj=>by
 have hlt:=(lZ1.1 hz).1;rw[Zm hlt];show (if j=f then _ else _)=_;split
 ·omega
 ·exact h (by omega) j (by omega)
theorem Btz{s:Nat}{r:List Int}(hx:b.lots[i]?=some x)(hr:RealOk b i r):∀f∈Dm b.fields.length s,∃z,r[f]?=some z/\0<=z/\z<=Ef x:=fun f hf=>by
 have hlt:=Ata f hf;rw[<-hr.len]at hlt;obtain⟨z,hz⟩:=Ed (xs:=r) (i:=f) hlt;exact⟨z,hz,Bqj hx hr hz⟩
end
end
section
def TabG(Y:Ro):List RawV->List (List Int)->Own->Prop
 | [],[],g=>g=[]
 | w::ws,xs::T,g=>∃g1 g2,g=g1++g2/\Grow Y 3 w.v xs g1/\TabG Y ws T g2
 | _,_,_=>False
theorem Bqg{Y:Ro}:TabG Y [] [] []:=rfl
theorem TabG.mono{Y Y':Ro}(hle:Ro.le Y Y'):∀{ws:List RawV} {T:List (List Int)} {g:Own},TabG Y ws T g->TabG Y' ws T g
 | [],[],_,h=>h
 | _::_,_::_,_,⟨g1,g2,e,h1,h2⟩=>⟨g1,g2,e,h1.mono hle,TabG.mono hle h2⟩
 | [],_::_,_,h=>h.elim
 | _::_,[],_,h=>h.elim
theorem TabG.len{Y:Ro}:∀{ws:List RawV} {T:List (List Int)} {g:Own},TabG Y ws T g->ws.length=T.length
 | [],[],_,_=>rfl
 | _::_,_::_,_,⟨_,_,_,_,h2⟩=>by simp[TabG.len h2]
 | [],_::_,_,h=>h.elim
 | _::_,[],_,h=>h.elim
theorem TabG.objs{Y:Ro}:∀{ws:List RawV} {T:List (List Int)} {g:Own},TabG Y ws T g->∀p∈g,∃o,p.2=Res.obj o
 | [],[],_,h,p,hp=>by cases h;cases hp
 | _::_,_::_,_,⟨g1,g2,e,h1,h2⟩,p,hp=>by
  subst e;exact(Gv.1 hp).elim (h1.1 p) (TabG.objs h2 p)
 | [],_::_,_,h,_,_=>h.elim
 | _::_,[],_,h,_,_=>h.elim
theorem TabG.add{Y:Ro}{w:RawV}{xs:List Int}{g1:Own}(hg:Grow Y 3 w.v xs g1):∀{ws:List RawV} {T:List (List Int)} {g:Own},TabG Y ws T g->TabG Y (ws++[w]) (T++[xs]) (g++g1)
 | [],[],_,h=>by cases h;exact⟨g1,[],by simp,hg,rfl⟩
 | _::_,_::_,_,⟨a,b,e,h1,h2⟩=>⟨a,b++g1,by rw[e,lZ9],h1,TabG.add hg h2⟩
 | [],_::_,_,h=>h.elim
 | _::_,[],_,h=>h.elim
theorem TabG.opened{Y:Ro}:∀{ws:List RawV} {T:List (List Int)} {g:Own} {j:Nat} {w:RawV},TabG Y ws T g->ws[j]?=some w->∃xs ga g1 gb,T[j]?=some xs/\g=ga++(g1++gb)/\Grow Y 3 w.v xs g1/\∀Y' xs' g1',Ro.le Y Y'->Grow Y' 3 w.v xs' g1'->TabG Y' ws (T.set j xs') (ga++(g1'++gb))
 | w::ws,xs::T,_,0,_,⟨g1,g2,e,h1,h2⟩,hj=>by
  cases hj;exact⟨xs,[],g1,g2,rfl,e,h1,fun Y' xs' g1' hle hg=>⟨g1',g2,rfl,hg,h2.mono hle⟩⟩
 | w::ws,xs::T,_,j+1,w',⟨g1,g2,e,h1,h2⟩,hj=>by
  obtain⟨xs',ga,g1',gb,a,b,c,d⟩:=TabG.opened h2 (show ws[j]?=some w' from hj);refine⟨xs',g1++ga,g1',gb,a,by rw[e,b,lZ9],c,fun Y' i f hle hg=>?_⟩;exact⟨g1,ga++(f++gb),by rw[lZ9],h1.mono hle,d Y' i f hle hg⟩
 | [],[],_,_,_,_,hj=>by cases hj
 | [],_::_,_,_,_,h,_=>h.elim
 | _::_,[],_,_,_,h,_=>h.elim
theorem Zr{Y:Ro}{ws:List RawV}{T T':List (List Int)}{g:Own}(e:T=T')(h:TabG Y ws T g):TabG Y ws T' g:=e ▸ h
theorem Ww{P:Program}{Y9:Ro}{A:Own}{e:Env}{t ty:TypeId}{x:Operand}{v:Value}{off i:Nat}{xs:List RawV}{z:RawV}{gr:Own}{el:TypeId}(hG:Grow Y9 el v xs gr)(hsub:∀p∈gr,p∈A)(hi:xs[i]?=some z)(hT:∃d,P.underlying t=some d/\Qv d=false)(hx:Af e x = .pointer (some ⟨Ahx v,off,none⟩))(ho:off=i*Dat.k RawV):Wy P Y9 A e (.load t x) ty z.v:=by obtain⟨w,a,b⟩:=Bfl (ty:=ty) Fld.self rfl hG hsub hi hT hx (o:=0) (by rw[ho];rfl);obtain⟨cs,⟨c,_⟩,f⟩:=a;subst c;cases f;exact b
theorem Bxx{C:Ctx}{b:FB}{l₀:List Oper}{Q:Env->List Deferred->Ro->Own->Prop}{e:Env}{ds:List Deferred}{Y Y9:Ro}{Z A:Own}{pz:List Nat}{fuel:Nat}
  {i:Nat} {op:Op} {ty:TypeId} {pos:String} {af:Array Edge} {g:Option (Nat×Bool)} {li:List Bool}
  (li':List Bool) (hli:li.set i true=li') (hr:Dl l₀ li=[i]) (hi:l₀[i]?=some ⟨none,op,ty,pos,af,g⟩) (hw:Bz l₀.toArray ⟨none,op,ty,pos,af,g⟩ e=true)
  (h:wpS C.P Y (execOp (Af e) ⟨none,op,ty,pos,af,g⟩) Z (NextH C (fun _ ds' Y' Z'=>leO Y9 A Y' Z'/\El C b l₀.toArray Q pz (leO Y9 A) fuel li'.toArray e ds' Y' Z') b.round ds Y)) :
  El C b l₀.toArray Q pz (leO Y9 A) (fuel+1) li.toArray e ds Y Z:=by refine Mz ((Hh _ _).trans hr) (by simp) fun j hj=>?_;rw[Nh]at hj;subst hj;unfold OpH;simp only[Jw,hi,Mo hli];rw[if_pos hw];exact Eu (fun nx Z' hn=>hn.mono fun v ds Y Z hh=>⟨fun _=>hh.1,hh.2⟩) _ _ h
theorem Vi{C:Ctx}{b:FB}{l₀:List Oper}{Q:Env->List Deferred->Ro->Own->Prop}{e:Env}{ds:List Deferred}{Y Y9:Ro}{Z A:Own}{pz:List Nat}{fuel:Nat}{op:Op}{ty:TypeId}{pos:String}{af:Array Edge}{g:Option (Nat×Bool)}{li:List Bool}(i:Nat)(li':List Bool)(hi:l₀[i]?=some ⟨none,op,ty,pos,af,g⟩)(hw:Bz l₀.toArray ⟨none,op,ty,pos,af,g⟩ e=true)(h:wpS C.P Y (execOp (Af e) ⟨none,op,ty,pos,af,g⟩) Z (NextH C (fun _ ds' Y' Z'=>leO Y9 A Y' Z'/\El C b l₀.toArray Q pz (leO Y9 A) fuel li'.toArray e ds' Y' Z') b.round ds Y))(hli:li.set i true=li':=by rfl)(hr:Dl l₀ li=[i]:=by kernel_rfl) :
  El C b l₀.toArray Q pz (leO Y9 A) (fuel+1) li.toArray e ds Y Z:=Bxx (i:=i) li' hli hr hi hw h
theorem Bto{C:Ctx}{b:FB}{l₀:List Oper}{Q:Env->List Deferred->Ro->Own->Prop}{e:Env}{ds:List Deferred}{Y Y9:Ro}{Z A:Own}{pz:List Nat}{fuel:Nat}
  {d i:Nat} {op:Op} {ty:TypeId} {pos:String} {af:Array Edge} {g:Option (Nat×Bool)} {v:Value} {li:List Bool}
  (li':List Bool) (hli:li.set i true=li') (hr:Dl l₀ li=[i]) (hi:l₀[i]?=some ⟨some d,op,ty,pos,af,g⟩) (hS:leO Y9 A Y Z) (hw:Bz l₀.toArray ⟨some d,op,ty,pos,af,g⟩ e=true) (hy:Wy C.P Y Z e op ty v)
  (h:El C b l₀.toArray Q pz (leO Y9 A) fuel li'.toArray (upd e d v) ds Y Z):El C b l₀.toArray Q pz (leO Y9 A) (fuel+1) li.toArray e ds Y Z :=
 Boc li' hli hr hi hw (Eu (by rintro nx Z' ⟨rfl,rfl⟩;exact⟨hS,h⟩) _ _ (hy Y Z _ _ _ _ ⟨Cfs,fun _ h=>h⟩))
theorem Aek{C:Ctx}{b:FB}{l₀:List Oper}{Q:Env->List Deferred->Ro->Own->Prop}{e:Env}{ds:List Deferred}{Y Y9:Ro}{Z A:Own}{pz:List Nat}{fuel:Nat}{d:Nat}{op:Op}{ty:TypeId}{pos:String}{af:Array Edge}{g:Option (Nat×Bool)}{v:Value}{li:List Bool}(i:Nat)(li':List Bool)(hi:l₀[i]?=some ⟨some d,op,ty,pos,af,g⟩)(hS:leO Y9 A Y Z)(hw:Bz l₀.toArray ⟨some d,op,ty,pos,af,g⟩ e=true)(hy:Wy C.P Y Z e op ty v)(h:El C b l₀.toArray Q pz (leO Y9 A) fuel li'.toArray (upd e d v) ds Y Z)(hli:li.set i true=li':=by rfl)(hr:Dl l₀ li=[i]:=by kernel_rfl):El C b l₀.toArray Q pz (leO Y9 A) (fuel+1) li.toArray e ds Y Z:=Bto (i:=i) li' hli hr hi hS hw hy h
theorem Bfh{C:Ctx}{e:Env}{ds:List Deferred}{Y Y9:Ro}{Z A:Own}{K:Value->List Deferred->Ro->Own->Prop}{rd:Option Nat}{dd:Option Tmp}{ty:TypeId}{pos:String}{af:Array Edge}{g:Option (Nat×Bool)}{v:Value}{op:Op}(hS:leO Y9 A Y Z)(hy:Wy C.P Y9 A e op ty v)(h:K v ds Y Z):wpS C.P Y (execOp (Af e) ⟨dd,op,ty,pos,af,g⟩) Z (NextH C K rd ds Y) :=
 Eu (by rintro nx Z' ⟨rfl,rfl⟩;exact h) _ _ (hy Y Z _ _ _ _ hS)
theorem Bvu{C:Ctx}{b:FB}{l₀:List Oper}{Q:Env->List Deferred->Ro->Own->Prop}{pz:List Nat}{Y9:Ro}{A:Own}{fuel:Nat}{li:List Bool}{e:Env}{ds:List Deferred}{Y:Ro}{Z:Own}{d:Nat}{op:Op}{ty:TypeId}{pos:String}{af:Array Edge}{g:Option (Nat×Bool)}{i j:Nat}
  {d':Nat} {op':Op} {ty':TypeId} {pos':String} {af':Array Edge} {g':Option (Nat×Bool)} (li' li'':List Bool) (hli:li.set i true=li') (hlj:li.set j true=li'') (hr:Dl l₀ li=[i,j]) (hi:l₀[i]?=some ⟨some d,op,ty,pos,af,g⟩) (hj:l₀[j]?=some ⟨some d',op',ty',pos',af',g'⟩)
  (hw:Bz l₀.toArray ⟨some d,op,ty,pos,af,g⟩ e=true) (hw':Bz l₀.toArray ⟨some d',op',ty',pos',af',g'⟩ e=true)
  (h:wpS C.P Y (execOp (Af e) ⟨some d,op,ty,pos,af,g⟩) Z (NextH C (fun v ds' Y' Z'=>leO Y9 A Y' Z'/\El C b l₀.toArray Q pz (leO Y9 A) fuel li'.toArray (upd e d v) ds' Y' Z') b.round ds Y))
  (h':wpS C.P Y (execOp (Af e) ⟨some d',op',ty',pos',af',g'⟩) Z (NextH C (fun v ds' Y' Z'=>leO Y9 A Y' Z'/\El C b l₀.toArray Q pz (leO Y9 A) fuel li''.toArray (upd e d' v) ds' Y' Z') b.round ds Y)) :
  El C b l₀.toArray Q pz (leO Y9 A) (fuel+1) li.toArray e ds Y Z:=by
 refine Mz ((Hh _ _).trans hr) (by simp) fun m hm=>?_;simp only[lZ8,Xp,or_false]at hm;rcases hm with rfl|rfl
 ·unfold OpH;simp only[Jw,hi,Mo hli];rw[if_pos hw];exact Eu (fun nx Z' hn=>hn.mono fun v ds Y Z hh=>⟨fun _=>hh.1,hh.2⟩) _ _ h
 ·unfold OpH;simp only[Jw,hj,Mo hlj];rw[if_pos hw'];exact Eu (fun nx Z' hn=>hn.mono fun v ds Y Z hh=>⟨fun _=>hh.1,hh.2⟩) _ _ h'
theorem tab_app{a b c d:Own}:(a++(b++c))++d=a++(b++(c++d)):=by rw[lZ9,lZ9]
end
section
theorem Anz{Y:Ro}:∀(n:Nat),Rows Y (List.replicate n (Value.int .i64 0)) (List.replicate n (0:Int))
 | 0=>rfl
 | n+1=>⟨[.int .i64 0],List.replicate n (.int .i64 0),rfl,⟨rfl,by constructor<;>decide⟩,Anz n⟩
theorem Bhb{Y:Ro}{el r n:Nat}(hn:n<1073741824):Grow Y el (.slice (some ⟨r,0,none⟩) n n) (List.replicate n (0:Int)) [(r,.obj (.cells ((List.replicate n (0:Int)).map (Value.int .i64)).toArray el (0,0)))]:=by
 refine⟨fun p hp=>?_,by rw[Bhh];omega,.inr ⟨r,n,List.replicate n (.int .i64 0),[],[],by rw[Bhh],by rw[List.map_replicate,Ui],Anz n,?_,by rw[Bhh];exact Ib _⟩⟩
 ·rw[Nh.1 hp];exact⟨_,rfl⟩
 ·rw[Ui,Bhh];exact(Aqt n).symm
section
variable{C:Ctx}{e:Env}{ds:List Deferred}{Y:Ro}{Z:Own}{K:Value->List Deferred->Ro->Own->Prop}{rd:Option Nat}{dd:Option Tmp}
variable{ty:TypeId}{pos:String}{af:Array Edge}{g:Option (Nat×Bool)}{x y:Operand}{t:TypeId}
theorem Bvd{el:TypeId}{ti:TypeInfo}{n:Nat}(hT:C.P.underlying t=some (.slice el))(hi:C.P.info? el=some ti)(hik:ti.size=1)(hib:ti.bytes<=1000)(hz:ti.zero=some (.int .i64 0))
  (hx:Af e x = .int .i64 (n:Int)) (hy:Af e y = .int .i64 (n:Int)) (hn:n<1073741824) (h:∀v gr,Grow Y el v (List.replicate n (0:Int)) gr->K v ds Y (gr++Z)) :
  wpS C.P Y (execOp (Af e) ⟨dd,.makeSlice t x y,ty,pos,af,g⟩) Z (NextH C K rd ds Y) :=
 Bbx hT hi hik hib hz hx hy hn fun _=>h _ _ (Bhb hn)
end
section
variable{P:Program}{Y9 Y:Ro}{A:Own}{e:Env}{ty t t':TypeId}{x y:Operand}{v:Value}
end
end
section
variable{mn:Bool}{X:Frame->List Frame->Ro->Own->Cy->Prop}{Y:Ro}{Z:Own}
theorem Bgh{picks:List UH}{vk:Value}{k:Nat}(rk:Val Y vk picks):CallsH (CX mn X) 43 #[vk,iV k] Y Z (rP Y Z (iV (Po picks k:Nat))):=by
 refine Bu 14 [4] Tryz.func43 rfl fun Q d E=>qA fun v e=>Au (iV 0) (qE e fun x y g h=>Av (iV k) (Av vk ?_));have C:=Val.len rk;refine l_v (Ci (el:=200) Cew rfl rk) (l_v (Da rfl rfl) (l_k h (Bp (t:=decide ((k:Int)<(picks.length:Int))) rfl (fun b=>?_) (fun b=>?_))))
 ·have m:=lZ3 b;refine qA fun B j=>Av vk (Av (iV k) ?_);obtain⟨a,c⟩:=Ed (xs:=picks) (i:=k) (by omega);refine Arw (Ch k Cew Cbt rfl rk (q:=(k:Int)) rfl rfl c) fun F u=>?_;have D:=a.lt;refine l_v (Bjk Cbt rfl u) (l_v (Acf (p:=(a.n:Int)) (z:=(a.n:Int)) Cfg Cec rfl wrR) (Au (iV (a.n:Int)) (l_k j (Aq (d (rT (iV (a.n:Int)) ?_))))));rw[Azq c]
 have m:=lZ2 b;refine Al (kk g ?_);refine qA fun w f=>Au (iV 0) (l_k f (Aq (d (rT (iV 0) ?_))));rw[Avn (by omega)];rfl
theorem Brl{b:LBook}{vb:Value}{s:ByteArray}(rv:Val Y vb b):CallsH (CX mn X) 16 #[vb,.string s] Y Z (rP Y Z (iV (Cr b.lots s))):=by
 refine Bu 22 [4] Tryz.func16 rfl fun Q y a5=>qA fun YQ E=>Arv (Nk (v:=vb) rfl fun H=>?_);refine Bb (a:=b) rv fun W z C=>Au (iV 0) (Ary rfl rfl E fun K3 K4 K L=>Au (iV 0) (l_k L (Ao (Cc (fun mm ee dd Y' Z'=>∃(i:Nat),(b.lots.length-i)=mm/\[]=dd/\W=Y'/\Z=Z'/\ee 1=(.string s)/\ee 2=pV H/\ee 5=iV i/\(i<=b.lots.length)/\(∀j,j<i->atP b.lots (fun x=>x.name.toList==s.toList) j=false)/\True) (m:=_) ⟨0,rfl,rfl,rfl,rfl,rfl,rfl,rfl,Hn _,fun j h=>absurd h (Uk _),trivial⟩ ?_))));rintro m5 e5 _ _ _ ⟨i,rfl,rfl,rfl,rfl,w,f,e,a6,k,_⟩;refine qD fun K6 K7 M N=>l_v (Ah (v:=iV i) e) (Arw (Ba LBook.f_lots Cdm rfl Dr C f) fun v8 V=>Arw (Ax Dr rfl V) fun v9 D=>?_);have a3:=Val.len D;refine l_v (Ci (el:=36) Cdp rfl D) (l_v (Da rfl rfl) (l_k N (Bp (t:=decide ((i:Int)<(b.lots.length:Int))) rfl (fun c=>?_) (fun c=>?_))))
 ·have O:=lZ3 c;refine Al (kk M ?_);refine Ai fun ZQ F=>Ao (qA fun a0 G=>Arw (Ba LBook.f_lots Cdm rfl Dr C f) fun a7 R=>Arw (Ax Dr rfl R) fun a8 T=>l_v (Ah (v:=iV i) e) ?_);obtain⟨u,g⟩:=Ed (xs:=b.lots) (i:=i) (by omega);refine Arw (Ch i Cdp Ga rfl T (q:=(i:Int)) rfl rfl g) fun a9 U=>Arw (Ba LLot.f_name Cdr rfl ty9 U) fun aa B=>?_;have a4:=At.slen B;refine l_v (Pk ty9 rfl B) (l_v (Ah (v:=.string s) w) (l_v (Ain (p:=u.name) (q:=s) rfl rfl) (l_k G (Bp (t:=(u.name).toList==(s).toList) rfl (fun d=>?_) (fun d=>?_)))))
  ·have P:=Jr d;refine qA fun a1 I=>l_v (Ah (v:=iV i) e) (Au (iV i) (l_k I (Aj (Cfq z) (Aq (y (rT (iV i) ?_))))));have hi:=Fh (n:=b.lots.length) k (by omega) (show atP b.lots _ i=true by simp only[atP,g,c,d]);rw[<-Zf];simp only[Oi,hi]
  have P:=Jq d;refine Al (kk F ?_);refine qB (l_v (Ah (v:=iV i) e) (l_v (Fp (((i+1):Nat):Int)) (Au (iV ((i+1):Nat)) (Ac ?_))));refine⟨_,?_,(i+1),rfl,rfl,rfl,rfl,w,f,rfl,(by omega),(Eg k (by simp only[atP,g,c,d])),trivial⟩;omega
 have O:=lZ2 c;refine Bx (kk K ?_);refine qA fun a2 J=>Au (iV (-1)) (l_k J (Aj (Cfq z) (Aq (y (rT (iV (-1)) ?_)))));have hn:=Ep (n:=b.lots.length) fun j hj=>k j (by omega);rw[<-Zf];simp only[Oi,hn]
theorem Bru{l:List Int}{fs:List Nat}{vl vf:Value}(rl:Val Y vl l)(rf:Val Y vf (Bw fs:List Int))(hn:fs.length<=8)(hb:∀f∈fs,∃z,l[f]?=some z/\0<=z/\z<=1000000):CallsH (CX mn X) 14 #[vl,vf] Y Z (rP Y Z (iV (Nu l fs))):=by
 have hil:=Fc (l:=fs);refine Bu 23 [4] Tryz.func14 rfl fun Q y a1=>qA fun K B=>Au (iV 0) (Arx rfl rfl B fun N E=>Au (iV 0) (Ary rfl rfl E fun O P F G=>Au (iV 0) (l_k G (Ao (Cc (fun mm ee dd Y' Z'=>∃(i:Nat) (a:Int),((Bw fs).length-i)=mm/\[]=dd/\Y=Y'/\Z=Z'/\ee 0=vl/\ee 1=vf/\ee 5=iV a/\ee 6=iV i/\(i<=(Bw fs).length)/\(a=Nu l (fs.take i))/\(0<=a/\a<=1000000*(i:Int))/\True) (m:=_) ⟨0,0,rfl,rfl,rfl,rfl,rfl,rfl,rfl,rfl,Hn _,rfl,⟨by omega,by omega⟩,trivial⟩ ?_)))));rintro m5 V _ _ _ ⟨i,a,rfl,rfl,rfl,rfl,j,d,k,e,a3,u,a4,_⟩;refine qD fun R T H I=>l_v (Ah (v:=iV i) e) (l_v (Ah (v:=vf) d) ?_);have g8:=Val.len rf;refine l_v (Ci (el:=3) Cdo rfl rf) (l_v (Da rfl rfl) (l_k I (Bp (t:=decide ((i:Int)<(((Bw fs).length:Nat):Int))) rfl (fun c=>?_) (fun c=>?_))))
 ·have J:=lZ3 c;refine Al (kk H ?_);refine Ai fun L C=>Ao (qB (l_v (Ah (v:=iV a) k) (l_v (Ah (v:=vl) j) (l_v (Ah (v:=vf) d) (l_v (Ah (v:=iV i) e) ?_)))));obtain⟨U,n⟩:=Ed (xs:=Bw fs) (i:=i) (by omega);obtain⟨h,p,b⟩:=Ts n;subst b;obtain⟨g,b,a2⟩:=hb _ (lZ6 p);refine Arw (Ch i Cdo ty3 rfl rf (q:=(i:Int)) rfl rfl n) fun a5 w=>?_;have⟨W,YQ⟩:=At.rng w;refine l_v (Bc ty3 rfl w) (Arw (Ch h Cdo ty3 rfl rl (q:=(h:Int)) rfl rfl b) fun a6 x=>?_);have⟨ZQ,a0⟩:=At.rng x;refine l_v (Bc ty3 rfl x) (l_v (Br rfl rfl (z:=a+g) (Bo (by rfl) (by omega) (by omega))) (Au (iV (a+g)) (l_k C (qB (l_v (Ah (v:=iV i) e) (l_v (Fp (((i+1):Nat):Int)) (Au (iV ((i+1):Nat)) (Ac ?_))))))));refine⟨_,?_,(i+1),(a+g),rfl,rfl,rfl,rfl,j,d,rfl,rfl,(by omega),(by rw[Bbj p b,u]),⟨by omega,by omega⟩,trivial⟩;omega
 have J:=lZ2 c;refine Bx (kk F ?_);refine qA fun M D=>l_v (Ah (v:=iV a) k) (Au (iV a) (l_k D (Aq (y (rT (iV a) ?_)))));rw[u,show i=fs.length by omega,Agm]
theorem Brq{b:LBook}{picks:List UH}{vb vk:Value}(rv:Val Y vb b)(rk:Val Y vk picks)(ok:LotsOk b):CallsH (CX mn X) 13 #[vb,vk] Y Z (fun w Y' Z'=>Ro.le Y Y'/\Z'=Z/\∃R:List (List Int),Val Y' w R/\R.length=b.lots.length/\∀k r,R[k]?=some r->RealOk b k r):=by
 have hnf:=ok.nf;have hnl:=ok.nl;refine Bu 179 [4] Tryz.func13 rfl fun Q ex it=>qA fun K1 k1=>Arv (Nk (v:=vb) rfl fun k2=>?_);refine Bb (a:=b) rv fun gh l2 B=>?_;replace rk:=Val.mono l2 rk;refine Au nS (qC k1 fun K3 k3=>Au nS (Au nS (qC k3 fun K4 k4=>Au (iV 0) (qE k4 fun K5 K6 k5 k6=>Au (iV 0) (l_k k6 (Ao (Aj (Z':=[]++Z) (Cfr (.refl _)) (Cc (fun mm ee dd Y' Z'=>∃(i:Nat) (nx:Nat) (H:List (List Int)) (ws:List RawV) (T:List (List Int)) (a6:Value) (g:Own) (F:Value) (e:Own) (bm:Own),(b.lots.length-i)=mm/\[]=dd/\Ro.le gh Y'/\(g++(e++(bm++Z)))=Z'/\ee 1=vk/\ee 2=pV k2/\ee 5=a6/\ee 6=F/\ee 7=iV nx/\ee 8=iV i/\(i<=b.lots.length)/\(RealI b i T H)/\(nx<=1000*i)/\Grow Y' 30 a6 H g/\Grow Y' 30 F ws e/\TabG Y' ws T bm/\True) (m:=_) ⟨0,0,[],[],[],nS,[],nS,[],[],rfl,rfl,Cfs,rfl,rfl,rfl,rfl,rfl,rfl,rfl,Hn _,Bul,Ib _,Hm,Hm,Zr (rfl) Bqg,trivial⟩ ?_))))))));rintro m7 e7 _ gk _ ⟨i,nx,H,ws,T,a6,g,F,e,bm,rfl,rfl,l7,rfl,ep,cj,d1,eq,er,d2,jg,b6,jh,aa,u,cu,_⟩;replace rk:=Val.mono l7 rk;replace B:=At.mono l7 B;refine qD fun K8 K9 k8 k9=>l_v (Ah (v:=iV i) d2) (Arw (Ba LBook.f_lots Cdm rfl Dr B cj) fun jj fv=>Arw (Ax Dr rfl fv) fun jm dg=>?_);have hq:=Val.len dg;refine l_v (Ci (el:=36) Cdp rfl dg) (l_v (Da rfl rfl) (l_k k9 (Bp (t:=decide ((i:Int)<(b.lots.length:Int))) rfl (fun c2=>?_) (fun c2=>?_))))
 ·have fr:=lZ3 c2;refine Al (kk k8 ?_);refine Ai fun gq f4=>Ao (qA fun gs f5=>Arw (Ba LBook.f_fields Cdm rfl Hw B cj) fun jn g0=>Arw (Ax Hw rfl g0) fun jo dh=>?_);have hw:=Val.len dh;refine l_v (Ci (el:=9) Cdq rfl dh) (Arv (Bvd (n:=b.fields.length) Cdo (Ab Cer) rfl nL rfl rfl rfl (by omega) fun ds en e4=>?_));refine Au ds (qE f5 fun gt gu f6 f7=>Au (iV 0) (l_k f7 (Ao ?_)));obtain⟨ah,V⟩:=Ed (xs:=b.lots) (i:=i) (by omega);have ik:=(ok.lnm _ _ V).2.2.2.2;refine Cc (fun mm ee dd Y' Z'=>∃(k:Nat) (aq:Nat) (D:List (List Int)) (sm:List Int) (ZQ:Value) (ar:Own) (U:Own),(ah.parts.length-k)=mm/\[]=dd/\Ro.le gk Y'/\(ar++(g++(e++(U++Z))))=Z'/\ee 1=vk/\ee 2=pV k2/\ee 5=a6/\ee 6=F/\ee 8=iV i/\ee 7=iV aq/\ee 9=ZQ/\ee 10=iV k/\(k<=ah.parts.length)/\(RealK b ah i k D sm)/\(aq<=1000*i+100*k)/\Grow Y' 3 ZQ sm ar/\TabG Y' ws D U/\True) (m:=_) ⟨0,nx,T,List.replicate b.fields.length 0,ds,en,bm,rfl,rfl,Cfs,rfl,ep,cj,d1,eq,d2,er,rfl,rfl,Hn _,Bum b6,(by omega),e4,Zr (rfl) cu,trivial⟩ ?_;rintro j9 he _ km _ ⟨k,aq,D,sm,ZQ,ar,U,rfl,rfl,aj,rfl,ca,ai,cb,cc,az,cd,al,b9,jc,G,jd,a8,L,_⟩;replace rk:=Val.mono aj rk;replace B:=At.mono aj B;replace aa:=Grow.mono aj aa;replace u:=Grow.mono aj u;refine qD fun gv gw f8 f9=>l_v (Ah (v:=iV k) b9) (Arw (Ba LBook.f_lots Cdm rfl Dr B ai) fun jp g1=>Arw (Ax Dr rfl g1) fun jq g2=>l_v (Ah (v:=iV i) az) (Arw (Ch i Cdp Ga rfl g2 (q:=(i:Int)) rfl rfl V) fun jr g3=>Arw (Ba LLot.f_parts Cdr rfl Fl g3) fun js g4=>Arw (Ax Fl rfl g4) fun jt di=>?_));have hx:=Val.len di;refine l_v (Ci (el:=38) Cdt rfl di) (l_v (Da rfl rfl) (l_k f9 (Bp (t:=decide ((k:Int)<(ah.parts.length:Int))) rfl (fun c3=>?_) (fun c3=>?_))))
  ·have fs:=lZ3 c3;refine Al (kk f8 ?_);refine Ai fun gx dc=>Ao (qA fun gy fa=>Arw (Ba LBook.f_lots Cdm rfl Dr B ai) fun ju g5=>Arw (Ax Dr rfl g5) fun jv g6=>l_v (Ah (v:=iV i) az) (Arw (Ch i Cdp Ga rfl g6 (q:=(i:Int)) rfl rfl V) fun jw g7=>Arw (Ba LLot.f_parts Cdr rfl Fl g7) fun jx g8=>Arw (Ax Fl rfl g8) fun jy g9=>l_v (Ah (v:=iV k) b9) ?_));obtain⟨d,ad⟩:=Ed (xs:=ah.parts) (i:=k) (by omega);refine Arw (Ch k Cdt Je rfl g9 (q:=(k:Int)) rfl rfl ad) fun jz ga=>Arw (Ax Je rfl ga) fun gf dj=>Arv (Ct Ahq fun j8=>?_);refine Cx rfl (Dv (v:=gf) (a:=d) (c:=Ahp) Je rfl rfl dj rfl ?_);refine Bb (a:=d) dj fun gi ak bp=>?_;replace rk:=Val.mono ak rk;replace B:=At.mono ak B;replace u:=Grow.mono ak u;replace L:=TabG.mono ak L;replace a8:=Grow.mono ak a8;refine qC fa fun gz fb=>Arw (Ax Jo ai B) fun k0 gb=>Arw (Ba LPart.f_of_ Cds rfl ty9 bp) fun k7 dk=>?_;have hy:=At.slen dk;refine l_v (Pk ty9 rfl dk) (Arv (Cw (Brl (s:=d.of_) gb) Tryz.func16 ?_));refine Au (iV (Cr b.lots d.of_)) (qE fb fun h0 h1 fc fd=>Av (iV (Cr b.lots d.of_)) (l_v (Da rfl rfl) (l_k fd (Bp (t:=decide ((Cr b.lots d.of_)<0)) rfl (fun aw=>?_) (fun aw=>?_)))))
   ·have au:=lZ3 aw;have hpg:=(ok.prt i ah k d V ad).2.2;have hfx:=Bpl ok V ad au G;have ft:=lZ3 aw;refine qA fun h2 fe=>Arw (Ba LBook.f_fields Cdm rfl Hw B ai) fun ka gc=>Arw (Ax Hw rfl gc) fun kb gd=>Arw (Ba LPart.f_of_ Cds rfl ty9 bp) fun kc dl=>?_;have i0:=At.slen dl;refine l_v (Pk ty9 rfl dl) (Arv (Cw (Ass gd) Cfb ?_));refine Au (iV (Aht b.fields d.of_)) (Asa fe fun h3 ff=>Ma (ar++(g++(e++(U++[])))) [0,1,2,3,4,5,6,7,8,9] (by kernel_rfl) rfl rfl (Cf 0 (zT 1 10) rfl sC rfl (Yld.o (Ah (v:=ZQ) al)) (Cf 1 (zT 2 9) rfl sC rfl (Yld.o (Ah (v:=iV (Aht b.fields d.of_)) rfl)) (Cf 2 (zT 3 8) rfl sC rfl (Yld.o (Ah (v:=ZQ) al)) (Cf 3 (zT 4 7) rfl sC rfl (Yld.o (Ah (v:=iV (Aht b.fields d.of_)) rfl)) (Cf 4 (zT 5 6) rfl sC rfl (Yld.o (Nw ((Aht b.fields d.of_).toNat) Cdo ty3.info rfl a8 (q:=Aht b.fields d.of_) rfl (by omega) (by omega) rfl)) ?_))))));obtain⟨bx,bf⟩:=Ed (xs:=sm) (i:=(Aht b.fields d.of_).toNat) (by omega);have ez:=G.bnd (Aht b.fields d.of_).toNat;rw[Pp bf]at ez;have⟨i1,i2⟩:=Ny a8 bf;refine Cf 5 (zT 6 5) rfl sC rfl (Oj a8 (fun p hp=>Iz _ hp) bf ty3.1 rfl rfl) (Ael 6 (zT 7 4) rfl sC rfl (Aho (Ba LPart.f_grams Cds rfl ty3 bp)) sC fun kd dm=>?_);have⟨i3,i4⟩:=At.rng dm;refine Cj 7 (zT 8 3) rfl sC rfl (Yld.o (Bc ty3 rfl dm)) sC (Cj 8 (zT 9 2) rfl sC rfl (Yld.o (Br rfl rfl (z:=bx+d.grams) (Bo (by rfl) (by omega) (by omega)))) sC (Cj 9 (zT 10 1) rfl sC rfl (Yld.o (Nw ((Aht b.fields d.of_).toNat) Cdo ty3.info rfl a8 (q:=Aht b.fields d.of_) rfl (by omega) (by omega) rfl)) sC (Wm 10 (zT 11 0) rfl rfl (Re (Z:=g++(e++(U++Z))) (gr:=ar) (i:=(Aht b.fields d.of_).toNat) (v:=ZQ) (w:=iV (bx+d.grams)) ty3.info rfl rfl rfl (Cv.2 ⟨rfl,by constructor<;>omega⟩) a8 (by omega) fun eo e5=>?_))))
    refine Ow rfl (kk ff ?_);refine Bx (kk dc ?_);refine qB (l_v (Ah (v:=iV k) b9) (l_v (Fp (((k+1):Nat):Int)) (Au (iV ((k+1):Nat)) (Ac ?_))));refine⟨_,?_,(k+1),aq,D,(sm.set ((Aht b.fields d.of_).toNat) (bx+d.grams)),ZQ,eo,U,rfl,rfl,(Cft aj ak),rfl,ca,ai,cb,cc,az,cd,al,rfl,(by omega),(Bil ok V ad au G bf),(by omega),(Fy rfl e5),(Zr rfl L),trivial⟩;omega
   have au:=lZ2 aw;have hpg:=(ok.prt i ah k d V ad).2.2;have hjx:=Bpm ok V ad au G;obtain⟨ct,cq⟩:=Ed (xs:=D) (i:=((Cr b.lots d.of_)).toNat) hjx;obtain⟨ew,ey⟩:=Bbo ok V ad au G cq;have ft:=lZ2 aw;refine Al (kk fc ?_);refine qA fun h4 fg=>Arw (Ba LPart.f_grams Cds rfl ty3 bp) fun ke dn=>?_;have⟨i5,i6⟩:=At.rng dn;refine l_v (Bc ty3 rfl dn) (Au (iV d.grams) (qE fg fun h5 h6 fh fi=>Au (iV 0) (l_k fi (Ao (Cc (fun mm ee dd Y' Z'=>∃(f:Nat) (y:Nat) (row:List Int) (af:List Int) (rest:Int) (a5:Value) (W:Own) (bl:Own),(b.fields.length-f)=mm/\[]=dd/\Ro.le gi Y'/\(W++(g++(e++(bl++Z))))=Z'/\ee 1=vk/\ee 2=pV k2/\ee 5=a6/\ee 6=F/\ee 8=iV i/\ee 10=iV k/\ee 12=(iV (Cr b.lots d.of_))/\ee 7=iV y/\ee 9=a5/\ee 14=iV rest/\ee 15=iV f/\(f<=b.fields.length)/\(Mvg b.fields.length ct sm d.grams row af rest)/\(y<=1000*i+100*k+f)/\Grow Y' 3 a5 af W/\TabG Y' ws (D.set ((Cr b.lots d.of_)).toNat row) bl/\True) (m:=_) ⟨0,aq,ct,sm,d.grams,ZQ,ar,U,rfl,rfl,Cfs,rfl,ca,ai,cb,cc,az,b9,rfl,cd,al,rfl,rfl,Hn _,ew,(by omega),a8,Zr (Bpu cq) L,trivial⟩ ?_)))));rintro ja hf _ gj _ ⟨f,y,row,af,rest,a5,W,bl,rfl,rfl,ap,rfl,ba,bb,cg,an,ci,ce,am,ch,b0,cf,ab,je,ae,jf,a1,br,_⟩;replace rk:=Val.mono ap rk;replace B:=At.mono ap B;replace u:=Grow.mono ap u;refine qD fun h7 h8 fj fk=>l_v (Ah (v:=iV f) ab) (Arw (Ba LBook.f_fields Cdm rfl Hw B bb) fun kf ge=>Arw (Ax Hw rfl ge) fun kg dp=>?_);have i7:=Val.len dp;refine l_v (Ci (el:=9) Cdq rfl dp) (l_v (Da rfl rfl) (l_k fk (Bp (t:=decide ((f:Int)<(b.fields.length:Int))) rfl (fun c4=>?_) (fun c4=>?_))))
   ·have fu:=lZ3 c4;refine Al (kk fj ?_);refine Ai fun h9 de=>Ao (Ai fun ha fl=>Aj (Cfr (Gm (Gm Ase))) ?_);have j0:=TabG.len br;have ix:(D.set ((Cr b.lots d.of_)).toNat row).length=D.length:=Xr;obtain⟨du,bj⟩:=Ed (xs:=ws) (i:=((Cr b.lots d.of_)).toNat) (by omega);obtain⟨ki,N,ay,P,d5,et,K,d7⟩:=br.opened bj;rw[Bcz (by omega)]at d5;cases d5;subst et;refine Aj (Z':=N++(ay++(P++(W++(g++(e++Z)))))) (Cfr (.of_eq tab_app)) ?_;have ip:=Bnt ae (show f<b.fields.length by omega);have iv:=Bvs ae;refine qB (l_v (Ah (v:=iV rest) cf) (l_v (Ah (v:=F) an) (l_v (Ah (v:=iV (Cr b.lots d.of_)) am) (l_v (Nw (α:=RawV) (xs:=ws) (((Cr b.lots d.of_)).toNat) Cdw Vh.2 rfl u (q:=Cr b.lots d.of_) rfl (by omega) (by omega) rfl) (Ane ⟨Cfs,fun _ h=>h⟩ rfl (Ww u (fun p hp=>(lZ5 _ (lZ5 _ (lZ5 _ (lZ5 _ (lZ5 _ (Iz _ hp))))))) bj Vh.1 rfl rfl) (l_v (Ah (v:=iV f) ab) (l_v (Nw (xs:=row) f Cdo ty3.info rfl K (q:=(f:Int)) rfl rfl (by omega) rfl) ?_)))))));obtain⟨a4,a9⟩:=Ed (xs:=row) (i:=f) (by omega);have j7:=Bek ae a9;have⟨i8,i9⟩:=Ny K a9;refine Ane ⟨Cfs,fun _ h=>h⟩ rfl (Oj K (fun p hp=>(lZ5 _ (Iz _ hp))) a9 ty3.1 rfl rfl) (l_v (Ajx (p:=rest) (q:=a4) rfl rfl) ?_);obtain⟨mn,eu⟩:∃z:Int,z=(min rest a4):=⟨_,rfl⟩;refine l_v (Cp (v:=.int .i64 mn) ((show _=Value.int .i64 (min rest a4) from rfl).trans (by rw[eu]))) ?_;have ev:mn<=rest/\0<=mn/\mn<=a4:=by omega
    refine qC fl fun hb fm=>l_v (Ah (v:=vk) ba) (l_v (Ah (v:=iV y) ch) (l_v (Ask (p:=(y:Int)) (q:=60) rfl rfl (by omega) (z:=(((y%60):Nat):Int)) rfl) ?_));have iq:=Azr (l:=picks) (k:=y%60);refine Arv (Cw (Bgh rk) Tryz.func43 ?_);refine Av (iV mn) (l_v (Br rfl rfl (z:=mn+1) (Bo (by rfl) (by omega) (by omega))) (l_v (Ask (p:=(((Po picks (y%60)):Nat):Int)) (q:=mn+1) rfl rfl (by omega) (z:=((((Po picks (y%60)):Nat):Int)).tmod (mn+1)) rfl) ?_));obtain⟨nn,d8⟩:∃z:Int,z=(((((Po picks (y%60)):Nat):Int)).tmod (mn+1)):=⟨_,rfl⟩;refine l_v (Cp (v:=.int .i64 nn) ((show _=Value.int .i64 (((((Po picks (y%60)):Nat):Int)).tmod (mn+1)) from rfl).trans (by rw[d8]))) ?_;have ir:0<=nn/\nn<=mn:=⟨by rw[d8];exact Int.tmod_nonneg _ (by omega),by have:=Int.tmod_lt_of_pos ((Po picks (y%60):Nat):Int) (show 0<mn+1 by omega);omega⟩;refine qC fm fun hc fn=>l_v (Ah (v:=iV y) ch) (l_v (Fp (((y+1):Nat):Int)) (Au (iV ((y+1):Nat)) (l_k fn (Ma (N++(P++(g++(e++[])))) [0,1,2,3,4,5,6,7,8,9,10,11,12,14,15,16,17,18,20,21,22,23,24,25,27] (by kernel_rfl) rfl rfl (Cf 0 (zT 1 29) rfl sC rfl (Yld.o (Ah (v:=F) an)) (Cf 1 (zT 2 28) rfl sC rfl (Yld.o (Ah (v:=iV (Cr b.lots d.of_)) am)) (Cf 2 (zT 3 27) rfl sC rfl (Yld.o (Nw (α:=RawV) (xs:=ws) (((Cr b.lots d.of_)).toNat) Cdw Vh.2 rfl u (q:=Cr b.lots d.of_) rfl (by omega) (by omega) rfl)) (Cf 3 (zT 4 26) rfl sC rfl (Ww u (fun p hp=>(lZ5 _ (lZ5 _ (lZ5 _ (Iz _ hp))))) bj Vh.1 rfl rfl) (Cf 4 (zT 5 25) rfl sC rfl (Yld.o (Ah (v:=iV f) ab)) (Cf 5 (zT 6 24) rfl sC rfl (Yld.o (Ah (v:=a5) b0)) (Cf 6 (zT 7 23) rfl sC rfl (Yld.o (Ah (v:=iV f) ab)) (Cf 7 (zT 8 22) rfl sC rfl (Yld.o (Ah (v:=F) an)) (Cf 8 (zT 9 21) rfl sC rfl (Yld.o (Ah (v:=iV (Cr b.lots d.of_)) am)) (Cf 9 (zT 10 20) rfl sC rfl (Yld.o (Nw (α:=RawV) (xs:=ws) (((Cr b.lots d.of_)).toNat) Cdw Vh.2 rfl u (q:=Cr b.lots d.of_) rfl (by omega) (by omega) rfl)) (Cf 10 (zT 11 19) rfl sC rfl (Ww u (fun p hp=>(lZ5 _ (lZ5 _ (lZ5 _ (Iz _ hp))))) bj Vh.1 rfl rfl) (Cf 11 (zT 12 18) rfl sC rfl (Yld.o (Ah (v:=iV f) ab)) (Cf 12 (zT 13 17) rfl sC rfl (Yld.o (Nw (xs:=row) f Cdo ty3.info rfl K (q:=(f:Int)) rfl rfl (by omega) rfl)) (Cf 14 (zR o1 [13,1,1,15]) rfl sC rfl (Yld.o (Ah (v:=iV nn) rfl)) (Cf 16 (zR o1 [13,1,1,1,1,13]) rfl sC rfl (Yld.o (Ah (v:=a5) b0)) (Cf 17 (zR o1 [13,1,1,1,2,12]) rfl sC rfl (Yld.o (Ah (v:=iV f) ab)) (Cf 18 (zR o1 [13,1,1,1,3,11]) rfl sC rfl (Yld.o (Nw f Cdo ty3.info rfl a1 (q:=(f:Int)) rfl rfl (by omega) rfl)) (Cf 20 (zR o1 [13,1,1,1,3,1,1,9]) rfl sC rfl (Yld.o (Ah (v:=iV nn) rfl)) (Cf 22 (zR o1 [13,1,1,1,3,1,1,1,1,7]) rfl sC rfl (Yld.o (Ah (v:=iV rest) cf)) (Cf 23 (zR o1 [13,1,1,1,3,1,1,1,2,6]) rfl sC rfl (Yld.o (Ah (v:=iV nn) rfl)) (Cf 24 (zR o1 [13,1,1,1,3,1,1,1,3,5]) rfl sC rfl (Yld.o (Ou rfl rfl (z:=rest-nn) (Bo (by rfl) (by omega) (by omega)))) (Bvu (i:=13) (j:=19) (zR o1 [15,1,3,1,1,1,3,5]) (zR o1 [13,1,1,1,5,1,3,5]) rfl rfl (by kernel_rfl) rfl rfl rfl rfl ?_ ?_))))))))))))))))))))))))))
    ·have⟨ia,ib⟩:=Ny K a9;refine Bfh (A:=N++(ay++(P++(W++(g++(e++Z)))))) ⟨Cfs,fun _ h=>h⟩ (Oj K (fun p hp=>(lZ5 _ (Iz _ hp))) a9 ty3.1 rfl rfl) ⟨sC,?_⟩;refine Cf 15 (zR o1 [19,1,1,1,3,5]) rfl sC rfl (Yld.o (Ou rfl rfl (z:=a4-nn) (Bo (by rfl) (by omega) (by omega)))) ?_;obtain⟨bz,bg⟩:=Ed (xs:=af) (i:=f) (by omega);have j4:=Aeg ae G.bnd bg (by omega);have⟨ic,ie⟩:=Ny a1 bg;refine Aek 19 (zR o1 [21,1,3,5]) rfl sC rfl (Oj a1 (fun p hp=>(lZ5 _ (lZ5 _ (lZ5 _ (Iz _ hp))))) bg ty3.1 rfl rfl) (Cf 21 (zT 25 5) rfl sC rfl (Yld.o (Br rfl rfl (z:=bz+nn) (Bo (by rfl) (by omega) (by omega)))) (Cj 25 (zT 26 4) rfl sC rfl (Yld.o (Nw (xs:=row) f Cdo ty3.info rfl K (q:=(f:Int)) rfl rfl (by omega) rfl)) sC (Xx Ase (Vi 26 (zT 27 3) rfl rfl (Re (Z:=N++(P++(W++(g++(e++Z))))) (gr:=ay) (i:=f) (v:=du.v) (w:=iV (a4-nn)) ty3.info rfl rfl rfl (Cv.2 ⟨rfl,by constructor<;>omega⟩) K (by omega) fun c8 e6=>⟨sC,?_⟩)))))
     refine Cj 27 (zT 28 2) rfl sC rfl (Yld.o (Nw f Cdo ty3.info rfl a1 (q:=(f:Int)) rfl rfl (by omega) rfl)) sC (Xx (Gm (Gm Ase)) (Vi 28 (zT 29 1) rfl rfl (Re (Z:=c8++(N++(P++(g++(e++Z))))) (gr:=W) (i:=f) (v:=a5) (w:=iV (bz+nn)) ty3.info rfl rfl rfl (Cv.2 ⟨rfl,by constructor<;>omega⟩) a1 (by omega) fun cz e8=>⟨sC,?_⟩)))
     refine Cj 29 (zT 30 0) rfl sC rfl (Yld.o (Cp (v:=iV (rest-nn)) rfl)) sC (Ow rfl (kk de ?_));refine Aj (Cfr (Gm (Gm Ase))) (Aj (Cfr (Gm Ase)) (Aj (Cfr (Gm (Gm Ase))) ?_));have ef:=d7 _ _ _ Cfs e6;refine Aj (Z':=(N++(c8++P))++(cz++(g++(e++Z)))) (Cfr (.of_eq tab_app.symm)) (qB (l_v (Ah (v:=iV f) ab) (l_v (Fp (((f+1):Nat):Int)) (Au (iV ((f+1):Nat)) (Bj (Cfr (Gm (Gm Ase))) (Bj (Cfr (Gm (Gm Ase))) (Bj (Cfr (Gm (Gm Ase))) (Ac ?_))))))));refine⟨_,?_,(f+1),(y+1),(row.set f (a4-nn)),(af.set f (bz+nn)),(rest-nn),a5,cz,(N++(c8++P)),rfl,rfl,ap,rfl,ba,bb,cg,an,ci,ce,am,rfl,b0,rfl,rfl,(by omega),(Aeh ae (by omega) a9 bg (by omega) (by omega) (by omega)),(by omega),(Fy rfl e8),(Zr (Aie _) ef),trivial⟩;omega
    ·obtain⟨c0,bh⟩:=Ed (xs:=af) (i:=f) (by omega);have j5:=Aeg ae G.bnd bh (by omega);have⟨ig,ih⟩:=Ny a1 bh;refine Bfh (A:=N++(ay++(P++(W++(g++(e++Z)))))) ⟨Cfs,fun _ h=>h⟩ (Oj a1 (fun p hp=>(lZ5 _ (lZ5 _ (lZ5 _ (Iz _ hp))))) bh ty3.1 rfl rfl) ⟨sC,?_⟩;refine Cf 21 (zR o1 [13,1,1,1,9,5]) rfl sC rfl (Yld.o (Br rfl rfl (z:=c0+nn) (Bo (by rfl) (by omega) (by omega)))) ?_;have⟨ii,ij⟩:=Ny K a9;refine Aek 13 (zR o1 [15,1,9,5]) rfl sC rfl (Oj K (fun p hp=>(lZ5 _ (Iz _ hp))) a9 ty3.1 rfl rfl) (Cj 15 (zT 25 5) rfl sC rfl (Yld.o (Ou rfl rfl (z:=a4-nn) (Bo (by rfl) (by omega) (by omega)))) sC (Cj 25 (zT 26 4) rfl sC rfl (Yld.o (Nw (xs:=row) f Cdo ty3.info rfl K (q:=(f:Int)) rfl rfl (by omega) rfl)) sC (Xx Ase (Vi 26 (zT 27 3) rfl rfl (Re (Z:=N++(P++(W++(g++(e++Z))))) (gr:=ay) (i:=f) (v:=du.v) (w:=iV (a4-nn)) ty3.info rfl rfl rfl (Cv.2 ⟨rfl,by constructor<;>omega⟩) K (by omega) fun c9 e9=>⟨sC,?_⟩)))))
     refine Cj 27 (zT 28 2) rfl sC rfl (Yld.o (Nw f Cdo ty3.info rfl a1 (q:=(f:Int)) rfl rfl (by omega) rfl)) sC (Xx (Gm (Gm Ase)) (Vi 28 (zT 29 1) rfl rfl (Re (Z:=c9++(N++(P++(g++(e++Z))))) (gr:=W) (i:=f) (v:=a5) (w:=iV (c0+nn)) ty3.info rfl rfl rfl (Cv.2 ⟨rfl,by constructor<;>omega⟩) a1 (by omega) fun d0 ea=>⟨sC,?_⟩)))
     refine Cj 29 (zT 30 0) rfl sC rfl (Yld.o (Cp (v:=iV (rest-nn)) rfl)) sC (Ow rfl (kk de ?_));refine Aj (Cfr (Gm (Gm Ase))) (Aj (Cfr (Gm Ase)) (Aj (Cfr (Gm (Gm Ase))) ?_));have eg:=d7 _ _ _ Cfs e9;refine Aj (Z':=(N++(c9++P))++(d0++(g++(e++Z)))) (Cfr (.of_eq tab_app.symm)) (qB (l_v (Ah (v:=iV f) ab) (l_v (Fp (((f+1):Nat):Int)) (Au (iV ((f+1):Nat)) (Bj (Cfr (Gm (Gm Ase))) (Bj (Cfr (Gm (Gm Ase))) (Bj (Cfr (Gm (Gm Ase))) (Ac ?_))))))));refine⟨_,?_,(f+1),(y+1),(row.set f (a4-nn)),(af.set f (c0+nn)),(rest-nn),a5,d0,(N++(c9++P)),rfl,rfl,ap,rfl,ba,bb,cg,an,ci,ce,am,rfl,b0,rfl,rfl,(by omega),(Aeh ae (by omega) a9 bh (by omega) (by omega) (by omega)),(by omega),(Fy rfl ea),(Zr (Aie _) eg),trivial⟩;omega
   have fu:=lZ2 c4;refine Bx (kk fh ?_);refine qA fun hd fo=>Au (iV 0) (l_k fo (Ao (Cc (fun mm ee dd Y' Z'=>∃(h:Nat) (I:List Int) (ag:List Int) (C:Int) (a7:Value) (YQ:Own) (bn:Own),(b.fields.length-h)=mm/\[]=dd/\Ro.le gj Y'/\(YQ++(g++(e++(bn++Z))))=Z'/\ee 1=vk/\ee 2=pV k2/\ee 5=a6/\ee 6=F/\ee 7=iV y/\ee 8=iV i/\ee 10=iV k/\ee 12=(iV (Cr b.lots d.of_))/\ee 9=a7/\ee 14=iV C/\ee 17=iV h/\(h<=b.fields.length)/\(Mvg b.fields.length ct sm d.grams I ag C)/\(0<C->∀j,j<h->Hv I j=0)/\Grow Y' 3 a7 ag YQ/\TabG Y' ws (D.set ((Cr b.lots d.of_)).toNat I) bn/\True) (m:=_) ⟨0,row,af,rest,a5,W,bl,rfl,rfl,Cfs,rfl,ba,bb,cg,an,ch,ci,ce,am,b0,cf,rfl,Hn _,ae,fun _ j hj=>absurd hj (Uk _),a1,Zr (rfl) br,trivial⟩ ?_)));rintro jb hg _ kn _ ⟨h,I,ag,C,a7,YQ,bn,rfl,rfl,b5,rfl,ck,bc,cm,ao,cn,co,cl,b1,b2,d3,ac,ji,a0,cs,a2,bt,_⟩;replace B:=At.mono b5 B;replace u:=Grow.mono b5 u;refine qD fun gl gm f0 f1=>l_v (Ah (v:=iV h) ac) (Arw (Ba LBook.f_fields Cdm rfl Hw B bc) fun jk fw=>Arw (Ax Hw rfl fw) fun jl df=>?_);have hh:=Val.len df;refine l_v (Ci (el:=9) Cdq rfl df) (l_v (Da rfl rfl) (l_k f1 (Bp (t:=decide ((h:Int)<(b.fields.length:Int))) rfl (fun c1=>?_) (fun c1=>?_))))
   ·have fq:=lZ3 c1;refine Al (kk f0 ?_);refine Ai fun gn d9=>Ao (Ai fun go f2=>Aj (Cfr (Gm (Gm Ase))) ?_);have iz:=TabG.len bt;have iw:(D.set ((Cr b.lots d.of_)).toNat I).length=D.length:=Xr;obtain⟨dt,bi⟩:=Ed (xs:=ws) (i:=((Cr b.lots d.of_)).toNat) (by omega);obtain⟨kh,M,ax,O,d4,es,J,d6⟩:=bt.opened bi;rw[Bcz (by omega)]at d4;cases d4;subst es;refine Aj (Z':=M++(ax++(O++(YQ++(g++(e++Z)))))) (Cfr (.of_eq tab_app)) ?_;have io:=Bnt a0 (show h<b.fields.length by omega);have iu:=Bvs a0;refine qB (l_v (Ah (v:=iV C) d3) (l_v (Ah (v:=F) ao) (l_v (Ah (v:=iV (Cr b.lots d.of_)) b1) (l_v (Nw (α:=RawV) (xs:=ws) (((Cr b.lots d.of_)).toNat) Cdw Vh.2 rfl u (q:=Cr b.lots d.of_) rfl (by omega) (by omega) rfl) (Ane ⟨Cfs,fun _ h=>h⟩ rfl (Ww u (fun p hp=>(lZ5 _ (lZ5 _ (lZ5 _ (lZ5 _ (lZ5 _ (Iz _ hp))))))) bi Vh.1 rfl rfl) (l_v (Ah (v:=iV h) ac) (l_v (Nw (xs:=I) h Cdo ty3.info rfl J (q:=(h:Int)) rfl rfl (by omega) rfl) ?_)))))));obtain⟨a3,E⟩:=Ed (xs:=I) (i:=h) (by omega);have j6:=Bek a0 E;have⟨hi,hk⟩:=Ny J E;refine Ane ⟨Cfs,fun _ h=>h⟩ rfl (Oj J (fun p hp=>(lZ5 _ (Iz _ hp))) E ty3.1 rfl rfl) (l_v (Ajx (p:=C) (q:=a3) rfl rfl) ?_);obtain⟨x,cp⟩:∃z:Int,z=(min C a3):=⟨_,rfl⟩;refine l_v (Cp (v:=.int .i64 x) ((show _=Value.int .i64 (min C a3) from rfl).trans (by rw[cp]))) ?_;have ev:x<=C/\0<=x/\x<=a3:=by omega
    refine l_k f2 (Ma (M++(O++(g++(e++[])))) [0,1,2,3,4,5,6,7,8,9,10,11,12,14,15,16,17,18,20,21,22,23,24,25,27] (by kernel_rfl) rfl rfl (Cf 0 (zT 1 29) rfl sC rfl (Yld.o (Ah (v:=F) ao)) (Cf 1 (zT 2 28) rfl sC rfl (Yld.o (Ah (v:=iV (Cr b.lots d.of_)) b1)) (Cf 2 (zT 3 27) rfl sC rfl (Yld.o (Nw (α:=RawV) (xs:=ws) (((Cr b.lots d.of_)).toNat) Cdw Vh.2 rfl u (q:=Cr b.lots d.of_) rfl (by omega) (by omega) rfl)) (Cf 3 (zT 4 26) rfl sC rfl (Ww u (fun p hp=>(lZ5 _ (lZ5 _ (lZ5 _ (Iz _ hp))))) bi Vh.1 rfl rfl) (Cf 4 (zT 5 25) rfl sC rfl (Yld.o (Ah (v:=iV h) ac)) (Cf 5 (zT 6 24) rfl sC rfl (Yld.o (Ah (v:=a7) b2)) (Cf 6 (zT 7 23) rfl sC rfl (Yld.o (Ah (v:=iV h) ac)) (Cf 7 (zT 8 22) rfl sC rfl (Yld.o (Ah (v:=F) ao)) (Cf 8 (zT 9 21) rfl sC rfl (Yld.o (Ah (v:=iV (Cr b.lots d.of_)) b1)) (Cf 9 (zT 10 20) rfl sC rfl (Yld.o (Nw (α:=RawV) (xs:=ws) (((Cr b.lots d.of_)).toNat) Cdw Vh.2 rfl u (q:=Cr b.lots d.of_) rfl (by omega) (by omega) rfl)) (Cf 10 (zT 11 19) rfl sC rfl (Ww u (fun p hp=>(lZ5 _ (lZ5 _ (lZ5 _ (Iz _ hp))))) bi Vh.1 rfl rfl) (Cf 11 (zT 12 18) rfl sC rfl (Yld.o (Ah (v:=iV h) ac)) (Cf 12 (zT 13 17) rfl sC rfl (Yld.o (Nw (xs:=I) h Cdo ty3.info rfl J (q:=(h:Int)) rfl rfl (by omega) rfl)) (Cf 14 (zR o1 [13,1,1,15]) rfl sC rfl (Yld.o (Ah (v:=iV x) rfl)) (Cf 16 (zR o1 [13,1,1,1,1,13]) rfl sC rfl (Yld.o (Ah (v:=a7) b2)) (Cf 17 (zR o1 [13,1,1,1,2,12]) rfl sC rfl (Yld.o (Ah (v:=iV h) ac)) (Cf 18 (zR o1 [13,1,1,1,3,11]) rfl sC rfl (Yld.o (Nw h Cdo ty3.info rfl a2 (q:=(h:Int)) rfl rfl (by omega) rfl)) (Cf 20 (zR o1 [13,1,1,1,3,1,1,9]) rfl sC rfl (Yld.o (Ah (v:=iV x) rfl)) (Cf 22 (zR o1 [13,1,1,1,3,1,1,1,1,7]) rfl sC rfl (Yld.o (Ah (v:=iV C) d3)) (Cf 23 (zR o1 [13,1,1,1,3,1,1,1,2,6]) rfl sC rfl (Yld.o (Ah (v:=iV x) rfl)) (Cf 24 (zR o1 [13,1,1,1,3,1,1,1,3,5]) rfl sC rfl (Yld.o (Ou rfl rfl (z:=C-x) (Bo (by rfl) (by omega) (by omega)))) (Bvu (i:=13) (j:=19) (zR o1 [15,1,3,1,1,1,3,5]) (zR o1 [13,1,1,1,5,1,3,5]) rfl rfl (by kernel_rfl) rfl rfl rfl rfl ?_ ?_)))))))))))))))))))))))
    ·have⟨hl,hm⟩:=Ny J E;refine Bfh (A:=M++(ax++(O++(YQ++(g++(e++Z)))))) ⟨Cfs,fun _ h=>h⟩ (Oj J (fun p hp=>(lZ5 _ (Iz _ hp))) E ty3.1 rfl rfl) ⟨sC,?_⟩;refine Cf 15 (zR o1 [19,1,1,1,3,5]) rfl sC rfl (Yld.o (Ou rfl rfl (z:=a3-x) (Bo (by rfl) (by omega) (by omega)))) ?_;obtain⟨bu,bd⟩:=Ed (xs:=ag) (i:=h) (by omega);have j2:=Aeg a0 G.bnd bd (by omega);have⟨hn,ho⟩:=Ny a2 bd;refine Aek 19 (zR o1 [21,1,3,5]) rfl sC rfl (Oj a2 (fun p hp=>(lZ5 _ (lZ5 _ (lZ5 _ (Iz _ hp))))) bd ty3.1 rfl rfl) (Cf 21 (zT 25 5) rfl sC rfl (Yld.o (Br rfl rfl (z:=bu+x) (Bo (by rfl) (by omega) (by omega)))) (Cj 25 (zT 26 4) rfl sC rfl (Yld.o (Nw (xs:=I) h Cdo ty3.info rfl J (q:=(h:Int)) rfl rfl (by omega) rfl)) sC (Xx Ase (Vi 26 (zT 27 3) rfl rfl (Re (Z:=M++(O++(YQ++(g++(e++Z))))) (gr:=ax) (i:=h) (v:=dt.v) (w:=iV (a3-x)) ty3.info rfl rfl rfl (Cv.2 ⟨rfl,by constructor<;>omega⟩) J (by omega) fun c5 dw=>⟨sC,?_⟩)))))
     refine Cj 27 (zT 28 2) rfl sC rfl (Yld.o (Nw h Cdo ty3.info rfl a2 (q:=(h:Int)) rfl rfl (by omega) rfl)) sC (Xx (Gm (Gm Ase)) (Vi 28 (zT 29 1) rfl rfl (Re (Z:=c5++(M++(O++(g++(e++Z))))) (gr:=YQ) (i:=h) (v:=a7) (w:=iV (bu+x)) ty3.info rfl rfl rfl (Cv.2 ⟨rfl,by constructor<;>omega⟩) a2 (by omega) fun cw dx=>⟨sC,?_⟩)))
     refine Cj 29 (zT 30 0) rfl sC rfl (Yld.o (Cp (v:=iV (C-x)) rfl)) sC (Ow rfl (kk d9 ?_));refine Aj (Cfr (Gm (Gm Ase))) (Aj (Cfr (Gm Ase)) (Aj (Cfr (Gm (Gm Ase))) ?_));have eb:=d6 _ _ _ Cfs dw;refine Aj (Z':=(M++(c5++O))++(cw++(g++(e++Z)))) (Cfr (.of_eq tab_app.symm)) (qB (l_v (Ah (v:=iV h) ac) (l_v (Fp (((h+1):Nat):Int)) (Au (iV ((h+1):Nat)) (Bj (Cfr (Gm (Gm Ase))) (Bj (Cfr (Gm (Gm Ase))) (Bj (Cfr (Gm (Gm Ase))) (Ac ?_))))))));refine⟨_,?_,(h+1),(I.set h (a3-x)),(ag.set h (bu+x)),(C-x),a7,cw,(M++(c5++O)),rfl,rfl,b5,rfl,ck,bc,cm,ao,cn,co,cl,b1,b2,rfl,rfl,(by omega),(Aeh a0 (by omega) E bd (by omega) (by omega) (by omega)),(by rw[cp];exact Apv cs E (Bek a0 E)),(Fy rfl dx),(Zr (Aie _) eb),trivial⟩;omega
    ·obtain⟨bv,be⟩:=Ed (xs:=ag) (i:=h) (by omega);have j3:=Aeg a0 G.bnd be (by omega);have⟨hs,ht⟩:=Ny a2 be;refine Bfh (A:=M++(ax++(O++(YQ++(g++(e++Z)))))) ⟨Cfs,fun _ h=>h⟩ (Oj a2 (fun p hp=>(lZ5 _ (lZ5 _ (lZ5 _ (Iz _ hp))))) be ty3.1 rfl rfl) ⟨sC,?_⟩;refine Cf 21 (zR o1 [13,1,1,1,9,5]) rfl sC rfl (Yld.o (Br rfl rfl (z:=bv+x) (Bo (by rfl) (by omega) (by omega)))) ?_;have⟨hu,hv⟩:=Ny J E;refine Aek 13 (zR o1 [15,1,9,5]) rfl sC rfl (Oj J (fun p hp=>(lZ5 _ (Iz _ hp))) E ty3.1 rfl rfl) (Cj 15 (zT 25 5) rfl sC rfl (Yld.o (Ou rfl rfl (z:=a3-x) (Bo (by rfl) (by omega) (by omega)))) sC (Cj 25 (zT 26 4) rfl sC rfl (Yld.o (Nw (xs:=I) h Cdo ty3.info rfl J (q:=(h:Int)) rfl rfl (by omega) rfl)) sC (Xx Ase (Vi 26 (zT 27 3) rfl rfl (Re (Z:=M++(O++(YQ++(g++(e++Z))))) (gr:=ax) (i:=h) (v:=dt.v) (w:=iV (a3-x)) ty3.info rfl rfl rfl (Cv.2 ⟨rfl,by constructor<;>omega⟩) J (by omega) fun c6 dy=>⟨sC,?_⟩)))))
     refine Cj 27 (zT 28 2) rfl sC rfl (Yld.o (Nw h Cdo ty3.info rfl a2 (q:=(h:Int)) rfl rfl (by omega) rfl)) sC (Xx (Gm (Gm Ase)) (Vi 28 (zT 29 1) rfl rfl (Re (Z:=c6++(M++(O++(g++(e++Z))))) (gr:=YQ) (i:=h) (v:=a7) (w:=iV (bv+x)) ty3.info rfl rfl rfl (Cv.2 ⟨rfl,by constructor<;>omega⟩) a2 (by omega) fun cx dz=>⟨sC,?_⟩)))
     refine Cj 29 (zT 30 0) rfl sC rfl (Yld.o (Cp (v:=iV (C-x)) rfl)) sC (Ow rfl (kk d9 ?_));refine Aj (Cfr (Gm (Gm Ase))) (Aj (Cfr (Gm Ase)) (Aj (Cfr (Gm (Gm Ase))) ?_));have ec:=d6 _ _ _ Cfs dy;refine Aj (Z':=(M++(c6++O))++(cx++(g++(e++Z)))) (Cfr (.of_eq tab_app.symm)) (qB (l_v (Ah (v:=iV h) ac) (l_v (Fp (((h+1):Nat):Int)) (Au (iV ((h+1):Nat)) (Bj (Cfr (Gm (Gm Ase))) (Bj (Cfr (Gm (Gm Ase))) (Bj (Cfr (Gm (Gm Ase))) (Ac ?_))))))));refine⟨_,?_,(h+1),(I.set h (a3-x)),(ag.set h (bv+x)),(C-x),a7,cx,(M++(c6++O)),rfl,rfl,b5,rfl,ck,bc,cm,ao,cn,co,cl,b1,b2,rfl,rfl,(by omega),(Aeh a0 (by omega) E be (by omega) (by omega) (by omega)),(by rw[cp];exact Apv cs E (Bek a0 E)),(Fy rfl dz),(Zr (Aie _) ec),trivial⟩;omega
   have fq:=lZ2 c1;refine Bx (kk dc ?_);refine qB (l_v (Ah (v:=iV k) cl) (l_v (Fp (((k+1):Nat):Int)) (Au (iV ((k+1):Nat)) (Ac ?_))));refine⟨_,?_,(k+1),y,(D.set ((Cr b.lots d.of_)).toNat I),ag,a7,YQ,bn,rfl,rfl,(Cft (Cft (Cft aj ak) ap) b5),rfl,ck,bc,cm,ao,co,cn,b2,rfl,(by omega),(Bim ok V ad au G cq (by have hz:=Btl a0 (fun hr j hj=>cs hr j (by omega)) ey;rw[<-hz];exact a0)),(by omega),(Fy (rfl) a2),(Zr (rfl) bt),trivial⟩;omega
  have fs:=lZ2 c3;refine Bx (kk f6 ?_);have iy:=G.sl;have il:=b6.hlen;have im:=G.len;have j1:=TabG.len L;refine qB (l_v (Ah (v:=a6) cb) (l_v (Ah (v:=ZQ) al) (Ca a8 fun gg bk bo=>?_)));replace aa:=Grow.mono bk aa;replace u:=Grow.mono bk u;replace L:=TabG.mono bk L;refine Arv (Bi (α:=List Int) (xs:=[sm]) (vs:=[ZQ]) Cdw Vh Ccb rfl (by decide) (Dk (os:=[.tmp 169]) ⟨rfl,trivial⟩) ⟨bo,trivial⟩ rfl (by decide) fun da ek eh=>?_);have e0:Grow gg 30 (.slice (some ⟨da,0,none⟩) 1 1) ([sm]:List (List Int)) [(da,oC ek.toArray 30)]:=Bs eh rfl (by decide);refine Ca e0 fun dv b3 fx=>?_;replace aa:=Grow.mono b3 aa;replace u:=Grow.mono b3 u;replace L:=TabG.mono b3 L;replace bo:=Val.mono b3 bo;refine Arv (Gc (Z:=e++(U++Z)) (gr:=g) (xs:=H) (ys:=([sm]:List (List Int))) Cdw Cdw (Ab Cez) rfl nL rfl rfl rfl rfl aa fx (by simp only[lZ4,Gb,Nx];omega) fun dq b8 bq=>?_);refine l_v (Ah (v:=F) cc) (Arv (Bi (α:=Int) (xs:=[]) (vs:=[]) Cdo ty3 zr3 rfl (by decide) rfl trivial rfl (by decide) fun cr cv ei=>?_));have e1:Grow dv 3 (.slice (some ⟨cr,0,none⟩) 0 0) ([]:List Int) [(cr,oC cv.toArray 3)]:=Bs ei rfl (by decide);refine l_v (Ah (v:=ZQ) al) (Arv (Gc (Z:=b8++(e++(U++Z))) (gr:=[(cr,oC cv.toArray 3)]) (xs:=([]:List Int)) (ys:=sm) Cdo Cdo (Ab Cer) rfl nL rfl rfl rfl rfl e1 bo (by simp only[lZ4,Gb,Nx];omega) fun av c7 b7=>?_));refine Arv (Bi (α:=RawV) (xs:=[RawV.mk av]) (vs:=[av]) Cdw ⟨Vh.1,Vh.2⟩ Ccb rfl (by decide) (Dk (os:=[.tmp 175]) ⟨rfl,trivial⟩) ⟨Sp (Grow.single b7),trivial⟩ rfl (by decide) fun db em ej=>?_);have e2:Grow dv 30 (.slice (some ⟨db,0,none⟩) 1 1) ([RawV.mk av]:List RawV) [(db,oC em.toArray 30)]:=Bs ej rfl (by decide);refine Ca e2 fun kj b4 fy=>?_;replace u:=Grow.mono b4 u;replace L:=TabG.mono b4 L;replace bq:=Grow.mono b4 bq;replace b7:=Grow.mono b4 b7;refine Bj (Cfr (Gm Ase)) (Arv (Gc (Z:=c7++(b8++(U++Z))) (gr:=e) (xs:=ws) (ys:=([RawV.mk av]:List RawV)) Cdw Cdw (Ab Cez) rfl nL rfl rfl rfl rfl u fy (by simp only[lZ4,Gb,Nx];omega) fun dr cy e3=>?_));refine Au dq (Au dr (l_k f4 (Aj (Cfr Ase) (Aj (Cfr (Gm (Gm Ase))) ?_))));have ed:=TabG.add (w:=RawV.mk av) b7 L;refine Aj (Z':=(U++c7)++(cy++(b8++Z))) (Cfr (.of_eq (lZ9 _ _ _).symm)) (qB (l_v (Ah (v:=iV i) az) (l_v (Fp (((i+1):Nat):Int)) (Au (iV ((i+1):Nat)) (Bj (Cfr Ase) (Bj (Cfr (Gm Ase)) (Ac ?_)))))));refine⟨_,?_,(i+1),aq,(H++[sm]),(ws++[RawV.mk av]),(D++[sm]),dq,b8,dr,cy,(U++c7),rfl,rfl,(Cft (Cft (Cft (Cft l7 aj) bk) b3) b4),rfl,ca,ai,rfl,rfl,cd,rfl,(by omega),(Bik ok V (by omega) b6 G),(by omega),(Fy rfl bq),(Fy rfl e3),(Zr rfl ed),trivial⟩;omega
 have fr:=lZ2 c2;refine Bx (kk k5 ?_);refine Ai fun gp f3=>Aj (Cfr (Gm Ase)) (Aj (drops (TabG.objs cu)) (Aj (Cfr Ase) (Aj (drops u.1) (Hc aa fun kl fp fz=>qB (l_v (Ah (v:=a6) d1) (Au a6 (l_k f3 (Aq (ex ⟨Cft (Cft l2 l7) fp,rfl,H,Abz (v:=a6) rfl fz,b6.hlen.trans (by omega),b6.real⟩)))))))))
end
section
theorem Bwo{mn:Bool}{X:Frame->List Frame->Ro->Own->Cy->Prop}{Y:Ro}{Z:Own}{b:LBook}{k s:Nat}{vb vl:Value}(h0:Gt b=0)(hk:k<b.lots.length)(rv:Val Y vb b)(rl:Val Y vl (Bw (Dm b.fields.length s):List Int)):CallsH (CX mn X) 11 #[vb,vl,iV k] Y Z (rP Y Z (.tuple #[iV (Nr (Ew b (Fv b.fields.length (Bf (Dm b.fields.length s))) k)),z0])):=by have h:=Bkf (mn:=mn) (X:=X) (Z:=Z) (k:=(k:Int)) rv rl;simp only[Bhi,Afr h0 hk,if_true,Aaw,Yk]at h;exact h
theorem Aoo{W0:World}{Y:Ro}{Z:Own}{b:LBook}{lot set cut:Nat}{picks:List UH}{vb vk:Value}(hg:GlobK Y)(hnr:NoRecv Z)(rv:Val Y vb b)(hlot:lot<256)(hset:set<256)(hcut:cut<256)(rk:Val Y vk picks):Agd (CY W0) 5 10 [vb,.int .u8 (lot:Int),.int .u8 (set:Int),.int .u8 (cut:Int),vk] Y Z (rP Y Z bT):=by
 refine Bre (n:=201) Tryz.func5 rfl rfl rfl rfl fun Q V ek=>qA fun K1 k1=>Arv (Nk (v:=vb) rfl fun k2=>?_);refine Bb (a:=b) rv fun fo J c=>?_;replace rk:=Val.mono J rk;replace hg:=GlobK.mono J hg;refine Au bF (qE k1 fun K3 K4 k3 k4=>Arw (Ax Jo rfl c) fun v5 r5=>Arv (Cm (vs:=[v5]) (Bkb r5) Tryz.func6 rfl rfl ⟨rfl,trivial⟩ fun w6 fq fv b6=>?_));obtain⟨a3,a5,ac,bb⟩:=b6;replace a3:=a3.symm;replace a5:=a5.symm;subst a3 a5 bb;refine Av (.bool ac) (Cn ac (fun w=>?_) (fun w=>?_))
 ·refine Ap (gN rfl w) (Ap (gN rfl w) (Ap (gN rfl w) (l_v (Bt rfl w (v:=bT) rfl) (Av bT (Ap (gN rfl rfl) (Ap (gN rfl rfl) (Ap (gN rfl rfl) (Ap (gN rfl rfl) (l_v (Bt rfl rfl (v:=bT) rfl) (l_k k4 (Co rfl rfl (qA fun K8 k8=>Arv (Bm (Adn (Ajm hg hnr)) Tryz.func8 rfl rfl trivial ?_)))))))))))));refine Au bT (l_k k8 (Aj (Cfq J) (Aq (V _ _ _ (rT bT ?_)))));rfl
 refine Ak (qF w) (Ax Jo rfl c) fun v9 r9=>Ae (qF w) (Cw (Asr r9) Tryz.func7 ?_);refine Aa (qF w) (Dg rfl rfl) (l_v (Bn rfl w (v:=.bool ((Gt b) != 0)) rfl) (Av (.bool ((Gt b) != 0)) (Cn ((Gt b) != 0) (fun e=>?_) (fun e=>?_))))
 ·have c6:=Ls e;refine Ap (gN rfl e) (Ap (gN rfl e) (Ap (gN rfl e) (Ap (gN rfl e) (l_v (Bt rfl e (v:=bT) rfl) (l_k k4 (Co rfl rfl (qA fun d5 bc=>Arv (Bm (Adn (Ajm hg hnr)) Tryz.func8 rfl rfl trivial ?_))))))));refine Au bT (l_k bc (Aj (Cfq J) (Aq (V _ _ _ (rT bT ?_)))));rfl
 have F:Gt b=0:=Jh e;have ok:=Xw F;have hnl:=ok.nl;have hnf:=ok.nf;have c6:=Jh e;refine Ak (qF e) (Ba LBook.f_lots Cdm rfl Dr c) fun er c9=>Ak (qF e) (Ax Dr rfl c9) fun es aj=>?_;have dz:=Val.len aj;refine Aa (qF e) (Ci (el:=36) Cdp rfl aj) (Aa (qF e) (Ek rfl rfl) (l_v (Bn rfl e (v:=.bool ((b.lots.length:Int)==0)) rfl) (l_k k4 (Bp (t:=(b.lots.length:Int)==0) rfl (fun a0=>?_) (fun a0=>?_)))))
 ·have c7:=Jr a0;refine qA fun d6 bd=>Arv (Bm (Adn (Ajm hg hnr)) Tryz.func8 rfl rfl trivial ?_);refine Au bT (l_k bd (Aj (Cfq J) (Aq (V _ _ _ (rT bT ?_)))));rfl
 have c7:=Jq a0;refine Al (kk k3 ?_);refine qA fun d7 be=>Av (.int .u8 (lot:Int)) (l_v (Acf (p:=(lot:Int)) (z:=(lot:Int)) Cdy Cec rfl wrR) (Arw (Ba LBook.f_lots Cdm rfl Dr c) fun et ca=>Arw (Ax Dr rfl ca) fun eu ak=>?_));have e0:=Val.len ak;refine l_v (Ci (el:=36) Cdp rfl ak) (l_v (Ask (p:=(lot:Int)) (q:=(b.lots.length:Int)) rfl rfl (by omega) (z:=(((lot%b.lots.length):Nat):Int)) rfl) ?_);obtain⟨k,hk_⟩:∃z:Nat,z=(lot%b.lots.length):=⟨_,rfl⟩;refine l_v (Cp (v:=iV k) ((show _=Value.int .i64 ((((lot%b.lots.length)):Nat):Int) from rfl).trans (by rw[hk_]))) ?_;have hk:k<b.lots.length:=by rw[hk_];exact Aqu _ (by omega)
 obtain⟨x,hx⟩:=Ed (xs:=b.lots) (i:=k) hk;have hcb:=Bkn (t:=cut) ok hx (Bf (Dm b.fields.length set));have hmm:=Wj ok hx (Bf (Dm b.fields.length set));have hmn:=Sf ok hx;have h6:=(ok.lnm _ _ hx).2.2.2.2;refine qC be fun d8 bf=>Arw (Ax Jo rfl c) fun cy cb=>Av vk (Arv (Cm (vs:=[cy,vk]) (Brq cb rk ok) Tryz.func13 rfl rfl ⟨rfl,rfl,trivial⟩ fun M fp ft b4=>?_));obtain⟨a6,a4,ax,C,eh,b3⟩:=b4;replace a4:=a4.symm;subst a4;replace hg:=GlobK.mono a6 hg;replace c:=At.mono a6 c;refine Au M (qC bf fun d9 bg=>Arw (Ax Jo rfl c) fun cz cc=>Av (iV k) (Arv (Cm (vs:=[cz,iV k]) (Brf F hk cc) Tryz.func18 rfl rfl ⟨rfl,rfl,trivial⟩ fun fm d3 fu b5=>?_)));obtain⟨X,a7,E,d1,L⟩:=b5;replace a7:=a7.symm;subst a7 d1;replace hg:=GlobK.mono X hg;replace c:=At.mono X c;replace C:=Val.mono X C;refine Av (.tuple #[E,iV 0]) (l_v (Dd E) (l_v (Dd (iV 0)) (Au E (Au (iV 0) (qE bg fun da db bh bi=>Av (iV 0) (l_v (Dg rfl rfl) (Av bF (l_M E (gY rfl rfl) rfl ?_))))))));have e1:=Val.len L;refine Aa (gY rfl rfl) (Ci (el:=57) Cek rfl L) (Ak (gY rfl rfl) (Ba LBook.f_fields Cdm rfl Hw c) fun ev cd=>Ak (gY rfl rfl) (Ax Hw rfl cd) fun ew al=>?_);have e2:=Val.len al;refine Aa (gY rfl rfl) (Ci (el:=9) Cdq rfl al) (Aa (gY rfl rfl) (Dg rfl rfl) (l_v (Bn rfl rfl (v:=.bool (((((Vw b k)).length:Nat):Int) != (b.fields.length:Int))) rfl) (l_k bi (Cg rfl (by rw[Ado];exact Qt _) (Al (kk bh ?_))))));refine qA fun dc bj=>Au (iV 0) (qE bj fun de df bk bl=>Au (iV 0) (l_k bl (Ao ?_)));obtain⟨d,T⟩:=Ed (xs:=ax) (i:=k) (by omega);have hr:=b3 _ _ T;have hrl:=hr.len;refine Cc (fun mm ee dd Y' Z'=>∃(i:Nat) (sm:Int),((Vw b k).length-i)=mm/\[]=dd/\d3=Y'/\Z=Z'/\ee 2=(.int .u8 (set:Int))/\ee 3=(.int .u8 (cut:Int))/\ee 5=pV k2/\ee 11=iV k/\ee 12=M/\ee 13=E/\ee 15=iV sm/\ee 16=iV i/\(i<=(Vw b k).length)/\(sm=Bqf d i)/\(0<=sm/\sm<=600000*(i:Int))/\True) (m:=_) ⟨0,0,rfl,rfl,rfl,rfl,rfl,rfl,rfl,rfl,rfl,rfl,rfl,rfl,Hn _,rfl,⟨by omega,by omega⟩,trivial⟩ ?_;rintro eo dx _ _ _ ⟨i,sm,rfl,rfl,rfl,rfl,ad,R,y,g,O,U,P,G,c5,ag,ep,_⟩;have ei:=Ado (b:=b) (k:=k);have ej:=Aqi c5 (show (Vw b k).length<100 by rw[Ado];omega);refine qD fun dg dh bm bn=>l_v (Ah (v:=iV i) G) (l_v (Ah (v:=E) U) ?_);have e3:=Val.len L;refine l_v (Ci (el:=57) Cek rfl L) (l_v (Da rfl rfl) (l_k bn (Bp (t:=decide ((i:Int)<((((Vw b k)).length:Nat):Int))) rfl (fun a1=>?_) (fun a1=>?_))))
 ·have c8:=lZ3 a1;refine Al (kk bm ?_);refine Ai fun di bo=>Ao (Ai fun dj bp=>Ai fun dk bq=>Ais (Gh 0 (zT 1 27) rfl (Ah (v:=M) O) (Gh 1 (zT 2 26) rfl (Ah (v:=iV k) g) (Hd 2 (zT 3 25) rfl (Ch k Cdw Vh rfl C (q:=(k:Int)) rfl rfl T) fun ex ce=>Hd 3 (zT 4 24) rfl (Ax Vh rfl ce) fun ey cf=>Gh 4 (zT 5 23) rfl (Ah (v:=iV i) G) ?_))));obtain⟨N,I⟩:=Ed (xs:=d) (i:=i) (by omega);have en:=Bvc hx hr I;have em:=Bqj hx hr I;refine Hd 5 (zT 6 22) rfl (Ch i Cdo ty3 rfl cf (q:=(i:Int)) rfl rfl I) fun ez am=>?_;have⟨e4,e5⟩:=At.rng am;refine Gh 6 (zT 7 21) rfl (Bc ty3 rfl am) (Gh 7 (zT 8 20) rfl (Ah (v:=E) U) (Fd 8 (zT 9 19) rfl (Ah (v:=iV i) G) ?_));obtain⟨dw,a2⟩:=Ed (xs:=Vw b k) (i:=i) (by omega);obtain rfl:=Bsa a2;have hsp:=Buv ok hx (1 <<< i);refine Jp 9 (zT 10 18) rfl (Ch i Cek Mx rfl L (q:=(i:Int)) rfl rfl a2) fun f0 cg=>Jp 10 (zT 11 17) rfl (Ba Span.f_low Cen rfl ty3 cg) fun f1 an=>?_;have⟨e6,e7⟩:=At.rng an;refine Fd 11 (zT 12 16) rfl (Bc ty3 rfl an) (Fd 12 (zT 13 15) rfl (Da rfl rfl) (Fd 13 (zT 14 14) rfl (Ah (v:=.bool (decide (N<((Ew b (1 <<< i) k)).low))) rfl) (Tz 14 (zT 15 13) rfl Cfs (gY rfl (Ji (by omega))) (Ah (v:=M) O) (Tz 15 (zT 16 12) rfl Cfs (gY rfl (Ji (by omega))) (Ah (v:=iV k) g) (Mm 16 (zT 17 11) rfl Cfs (gY rfl (Ji (by omega))) (Ch k Cdw Vh rfl C (q:=(k:Int)) rfl rfl T) fun f2 ch=>Mm 17 (zT 18 10) rfl Cfs (gY rfl (Ji (by omega))) (Ax Vh rfl ch) fun f3 ci=>Tz 18 (zT 19 9) rfl Cfs (gY rfl (Ji (by omega))) (Ah (v:=iV i) G) (Mm 19 (zT 20 8) rfl Cfs (gY rfl (Ji (by omega))) (Ch i Cdo ty3 rfl ci (q:=(i:Int)) rfl rfl I) fun f4 ao=>?_))))));have⟨e8,e9⟩:=At.rng ao;refine Tz 20 (zT 21 7) rfl Cfs (gY rfl (Ji (by omega))) (Bc ty3 rfl ao) (Tz 21 (zT 22 6) rfl Cfs (gY rfl (Ji (by omega))) (Ah (v:=E) U) (Td 22 (zT 23 5) rfl Cfs (gY rfl (Ji (by omega))) (Ah (v:=iV i) G) (Akp 23 (zT 24 4) rfl Cfs (gY rfl (Ji (by omega))) (Ch i Cek Mx rfl L (q:=(i:Int)) rfl rfl a2) fun f5 cj=>Akp 24 (zT 25 3) rfl Cfs (gY rfl (Ji (by omega))) (Ba Span.f_high Cen rfl ty3 cj) fun f6 ap=>?_)));have⟨ea,eb⟩:=At.rng ap;refine Td 25 (zT 26 2) rfl Cfs (gY rfl (Ji (by omega))) (Bc ty3 rfl ap) (Td 26 (zT 27 1) rfl Cfs (gY rfl (Ji (by omega))) (Gl rfl rfl) (Fd 27 (zT 28 0) rfl (Bn rfl (Ji (by omega)) (v:=.bool (decide (N>((Ew b (1 <<< i) k)).high))) rfl) (Ec rfl (kk bq ?_))));refine Cg rfl (Ji (by omega)) (Al (kk bp ?_));refine qB (l_v (Ah (v:=iV sm) P) (l_v (Ah (v:=M) O) (l_v (Ah (v:=iV k) g) (Arw (Ch k Cdw Vh rfl C (q:=(k:Int)) rfl rfl T) fun f7 ck=>Arw (Ax Vh rfl ck) fun f8 cl=>l_v (Ah (v:=iV i) G) (Arw (Ch i Cdo ty3 rfl cl (q:=(i:Int)) rfl rfl I) fun f9 aq=>?_)))));have⟨ec,ed⟩:=At.rng aq;refine l_v (Bc ty3 rfl aq) (l_v (Br rfl rfl (z:=sm+N) (Bo (by rfl) (by omega) (by omega))) (Au (iV (sm+N)) (l_k bo (qB (l_v (Ah (v:=iV i) G) (l_v (Fp (((i+1):Nat):Int)) (Au (iV ((i+1):Nat)) (Ac ?_))))))));refine⟨_,?_,(i+1),(sm+N),rfl,rfl,rfl,rfl,ad,R,y,g,O,U,rfl,rfl,(by omega),(by rw[Biv I,ag]),⟨by omega,by omega⟩,trivial⟩;omega
 have c8:=lZ2 a1;refine Bx (kk bk ?_);refine Ai fun dl br=>Ai fun dm bt=>?_;have hcl:=Ado (b:=b) (k:=k);have hsm:sm=Ef x:=by rw[ag,show i=b.fields.length by omega];exact Ayn hx hr
 have hpk:=Bqk (b:=b) (s:=set) d;have hpm:=Ahf hx hr (Bf (Dm b.fields.length set));have hpg:=Biz (t:=cut) hx hr (Bf (Dm b.fields.length set));refine qB (l_v (Ah (v:=iV sm) P) (Arw (Ba LBook.f_lots Cdm rfl Dr c y) fun fa cm=>Arw (Ax Dr rfl cm) fun fb cn=>l_v (Ah (v:=iV k) g) (Arw (Ch k Cdp Ga rfl cn (q:=(k:Int)) rfl rfl hx) fun fc co=>Arw (Ax Ga rfl co) fun fd cp=>Arv (Bm (Bcg cp (by omega) (Axs ok hx)) Tryz.func19 rfl rfl ⟨rfl,trivial⟩ ?_))));refine l_v (Dg rfl rfl) (l_k bt (Cg rfl (by rw[hsm];exact Qt _) (Al (kk br ?_))));refine qA fun dn bu=>Arw (Ba LBook.f_fields Cdm rfl Hw c y) fun fe cq=>Arw (Ax Hw rfl cq) fun ff ar=>?_;have ef:=Val.len ar;refine l_v (Ci (el:=9) Cdq rfl ar) (l_v (Ah (v:=.int .u8 (set:Int)) ad) (Arv (Cm (vs:=[iV (b.fields.length:Int),.int .u8 (set:Int)]) (Apj (n:=b.fields.length) (s:=set) (by omega) (by first|omega|exact Aty (by omega) (by omega))) Tryz.func9 rfl rfl ⟨rfl,rfl,trivial⟩ fun H fr fw b8=>?_)));obtain⟨YQ,a8,D⟩:=b8;replace a8:=a8.symm;subst a8;replace hg:=GlobK.mono YQ hg;replace c:=At.mono YQ c;replace C:=Val.mono YQ C;refine Au H (qC bu fun dp bv=>l_v (Ah (v:=M) O) (l_v (Ah (v:=iV k) g) (Arw (Ch k Cdw Vh rfl C (q:=(k:Int)) rfl rfl T) fun fg cr=>Arw (Ax Vh rfl cr) fun fh cs=>Av H (Arv (Bm (Bru cs D (Tj (List.length_filter_le _ _) (by rw[Bdn];omega)) (fun f hf=>by obtain⟨z,hz,F,h1⟩:=Btz hx hr f hf;exact⟨z,hz,F,by omega⟩)) Tryz.func14 rfl rfl ⟨rfl,rfl,trivial⟩ ?_)))));refine Au (iV (Nu d (Dm b.fields.length set))) (qC bv fun dq bx=>Arw (Ax Jo y c) fun d0 ct=>Av H (l_v (Ah (v:=iV k) g) (Arv (Cm (vs:=[d0,H,iV k]) (Bri (s:=set) F hk ct D) Tryz.func10 rfl rfl ⟨rfl,rfl,rfl,trivial⟩ fun fn d4 fx b9=>?_))));obtain⟨ZQ,a9,ab,d2,eq⟩:=b9;replace a9:=a9.symm;subst a9 d2;replace hg:=GlobK.mono ZQ hg;replace c:=At.mono ZQ c;replace D:=Val.mono ZQ D;refine Av (.tuple #[iV (Ds b (Bf (Dm b.fields.length set)) k),ab,iV 0]) (l_v (Dd (iV (Ds b (Bf (Dm b.fields.length set)) k))) (l_v (Dd ab) (l_v (Dd (iV 0)) (Au (iV (Ds b (Bf (Dm b.fields.length set)) k)) (Au ab (Au (iV 0) (qC bx fun dr bz=>Arw (Ax Jo y c) fun fi cu=>Av H (l_v (Ah (v:=iV k) g) (Arv (Cw (Bwo (s:=set) F hk cu D) Tryz.func11 ?_))))))))));refine Av (.tuple #[iV (Nr (Ew b (Fv b.fields.length (Bf (Dm b.fields.length set))) k)),iV 0]) (l_v (Dd (iV (Nr (Ew b (Fv b.fields.length (Bf (Dm b.fields.length set))) k)))) (l_v (Dd (iV 0)) (Au (iV (Nr (Ew b (Fv b.fields.length (Bf (Dm b.fields.length set))) k))) (Au (iV 0) (Asa bz fun ds c0=>Ai fun aw c1=>?_)))));have W:∀  (ee:Env),(ee 3=(.int .u8 (cut:Int)))/\(ee 5=pV k2)/\(ee 11=iV k)/\(ee 17=H)/\(ee 18=(iV (Nu d (Dm b.fields.length set))))/\(ee 19=(iV (Ds b (Bf (Dm b.fields.length set)) k)))/\(ee 169=bF)/\True->aw ee [] d4 Z:=by
  rintro dy ⟨b2,af,ae,az,b0,b1,ay,_⟩;apply c1;refine Cg ay rfl (Al (kk c0 ?_));refine Ai fun dt c2=>Ais (Hd 0 (zT 1 8) rfl (Ba LBook.f_lots Cdm rfl Dr c af) fun fj cv=>Hd 1 (zT 2 7) rfl (Ax Dr rfl cv) fun fk au=>?_);have eg:=Val.len au;refine Gh 2 (zT 3 6) rfl (Ci (el:=36) Cdp rfl au) (Gh 3 (zT 4 5) rfl (Ah (v:=.int .u8 (cut:Int)) b2) (Fd 4 (zT 5 4) rfl (Ah (v:=iV k) ae) (Fd 5 (zT 6 3) rfl (Bzt (p:=1) (q:=k) rfl rfl (by omega) (Zp (by omega)).2) (Fd 6 (zT 7 2) rfl (Cbz (p:=cut) (q:=1 <<< k) rfl rfl (by omega) (Zp (by omega)).2) (Qp 7 zZ0 rfl (Cm (vs:=[iV (b.lots.length:Int),.int .u8 (((cut ||| (1 <<< k)):Nat):Int)]) (Apj (n:=b.lots.length) (s:=cut ||| (1 <<< k)) (by omega) (by first|omega|exact Aty (by omega) (by omega))) Tryz.func9 rfl rfl ⟨rfl,rfl,trivial⟩ fun av fs fy ba=>?_))))));obtain⟨K,aa,cw⟩:=ba;replace aa:=aa.symm;subst aa;replace hg:=GlobK.mono K hg;replace c:=At.mono K c;replace D:=Val.mono K D;refine⟨K,?_⟩;refine Td 8 zZ1 rfl K rfl (Cp (v:=av) rfl) (Ec rfl (kk c2 ?_));refine qA fun du c3=>Arw (Ax Jo af c) fun fl cx=>l_v (Ah (v:=H) az) (l_v (Ah (v:=iV k) ae) (Av av (Arv (Cw (Bki (s:=set) (t:=cut) F hk cx D cw) Tryz.func20 ?_))));refine Av (.tuple #[iV (Bq b (Bf (Dm b.fields.length set)) (Bf (Dm b.lots.length (cut ||| 1 <<< k)))),iV 0]) (l_v (Dd (iV (Bq b (Bf (Dm b.fields.length set)) (Bf (Dm b.lots.length (cut ||| 1 <<< k)))))) (l_v (Dd (iV 0)) (Au (iV (Bq b (Bf (Dm b.fields.length set)) (Bf (Dm b.lots.length (cut ||| 1 <<< k))))) (Au (iV 0) (qC c3 fun dv c4=>Av (iV 0) (l_v (Ek rfl rfl) (Av bT (Aa (gY rfl rfl) (Ah (v:=iV (Nu d (Dm b.fields.length set))) b0) (l_M (iV (Bq b (Bf (Dm b.fields.length set)) (Bf (Dm b.lots.length (cut ||| 1 <<< k))))) (gY rfl rfl) rfl (Aa (gY rfl rfl) (Uz rfl rfl) (l_v (Bt rfl rfl (v:=.bool (decide ((Nu d (Dm b.fields.length set))<=(Bq b (Bf (Dm b.fields.length set)) (Bf (Dm b.lots.length (cut ||| 1 <<< k))))))) rfl) (Av (.bool (decide ((Nu d (Dm b.fields.length set))<=(Bq b (Bf (Dm b.fields.length set)) (Bf (Dm b.lots.length (cut ||| 1 <<< k))))))) (Aa (gY rfl (Qx (by rw[hpk];exact hpg))) (Ah (v:=iV (Ds b (Bf (Dm b.fields.length set)) k)) b1) (l_M (iV (Bq b (Bf (Dm b.fields.length set)) (Bf (Dm b.lots.length (cut ||| 1 <<< k))))) (gY rfl (Qx (by rw[hpk];exact hpg))) rfl (Aa (gY rfl (Qx (by rw[hpk];exact hpg))) (Uz rfl rfl) (l_v (Bt rfl (Qx (by rw[hpk];exact hpg)) (v:=.bool (decide ((Ds b (Bf (Dm b.fields.length set)) k)<=(Bq b (Bf (Dm b.fields.length set)) (Bf (Dm b.lots.length (cut ||| 1 <<< k))))))) rfl) (Av (.bool (decide ((Ds b (Bf (Dm b.fields.length set)) k)<=(Bq b (Bf (Dm b.fields.length set)) (Bf (Dm b.lots.length (cut ||| 1 <<< k))))))) (Ae (gY rfl (Qx hcb.1)) (Bm (Adn (Ajm hg hnr)) Tryz.func8 rfl rfl trivial ?_)))))))))))))))))));refine l_v (Bt rfl (Qx hcb.1) (v:=bT) rfl) (Au bT (l_k c4 (Aj (Cfq (Cft (Cft (Cft (Cft (Cft J a6) X) YQ) ZQ) K)) (Aq (V _ _ _ (rT bT ?_))))));rfl
 refine qB (Av (iV 0) (l_v (Dg rfl rfl) (Av bF (l_M (iV 0) (gY rfl rfl) rfl (Aa (gY rfl rfl) (Dg rfl rfl) (l_v (Bn rfl rfl (v:=bF) rfl) (Av bF (l_M (iV (Nu d (Dm b.fields.length set))) (gY rfl rfl) rfl (l_M (iV (Ds b (Bf (Dm b.fields.length set)) k)) (gY rfl rfl) rfl (Aa (gY rfl rfl) (Gl rfl rfl) (l_v (Bn rfl rfl (v:=.bool (decide ((Nu d (Dm b.fields.length set))>(Ds b (Bf (Dm b.fields.length set)) k)))) rfl) (Av (.bool (decide ((Nu d (Dm b.fields.length set))>(Ds b (Bf (Dm b.fields.length set)) k)))) (l_M (iV (Nr (Ew b (Fv b.fields.length (Bf (Dm b.fields.length set))) k))) (gY rfl (Ji (by rw[hpk];omega))) rfl (Aa (gY rfl (Ji (by rw[hpk];omega))) (Ek rfl rfl) (l_M (.bool ((Nr (Ew b (Fv b.fields.length (Bf (Dm b.fields.length set))) k))==1)) (gY rfl (Ji (by rw[hpk];omega))) rfl (Cn ((Nr (Ew b (Fv b.fields.length (Bf (Dm b.fields.length set))) k))==1) (fun h=>?_) (fun h=>?_)))))))))))))))))
 ·have B:=Jr h;refine l_M (iV (Nu d (Dm b.fields.length set))) (qF h) rfl (Aa (qF h) (Ah (v:=iV sm) P) (Aa (qF h) (Dg rfl rfl) (Aa (gY rfl (Ji (by rw[hpk];omega))) (Bt rfl h (v:=.bool ((Nu d (Dm b.fields.length set)) != sm)) rfl) (l_v (Bn rfl (Ji (by rw[hpk];omega)) (v:=.bool ((Nu d (Dm b.fields.length set)) != sm)) rfl) (Av (.bool ((Nu d (Dm b.fields.length set)) != sm)) (l_M (iV (Nr (Ew b (Fv b.fields.length (Bf (Dm b.fields.length set))) k))) (gY rfl (by rw[hpk,hsm,Us hx hr B];exact Qt _)) rfl (Aa (gY rfl (by rw[hpk,hsm,Us hx hr B];exact Qt _)) (Ek rfl rfl) (l_M (.bool ((Nr (Ew b (Fv b.fields.length (Bf (Dm b.fields.length set))) k))==2)) (gY rfl (by rw[hpk,hsm,Us hx hr B];exact Qt _)) rfl (Cn ((Nr (Ew b (Fv b.fields.length (Bf (Dm b.fields.length set))) k))==2) (fun j=>?_) (fun j=>?_))))))))))
  ·have ah:=Jr j;refine l_M (iV (Nu d (Dm b.fields.length set))) (qF j) rfl (Aa (qF j) (Ah (v:=iV sm) P) (Aa (qF j) (Ek rfl rfl) (Aa (gY rfl (by rw[hpk,hsm,Us hx hr B];exact Qt _)) (Bt rfl j (v:=.bool ((Nu d (Dm b.fields.length set))==sm)) rfl) (l_v (Bn rfl (by rw[hpk,hsm,Us hx hr B];exact Qt _) (v:=.bool ((Nu d (Dm b.fields.length set))==sm)) rfl) (Ac ?_)))));refine W _ ⟨R,y,g,rfl,rfl,rfl,rfl.trans (congrArg Value.bool (beq_eq_false_iff_ne.2 (by rw[hpk,hsm];exact Arp hx hr ah))),trivial⟩
  have ah:=Jq j;refine Ap (gN rfl j) (Ap (gN rfl j) (Ap (gN rfl j) (Aa (gY rfl (by rw[hpk,hsm,Us hx hr B];exact Qt _)) (Bn rfl j (v:=bF) rfl) (l_v (Bn rfl (by rw[hpk,hsm,Us hx hr B];exact Qt _) (v:=bF) rfl) (Ac ?_)))));refine W _ ⟨R,y,g,rfl,rfl,rfl,rfl,trivial⟩
 have B:=Jq h;refine Ap (gN rfl h) (Ap (gN rfl h) (Ap (gN rfl h) (Aa (gY rfl (Ji (by rw[hpk];omega))) (Bn rfl h (v:=bF) rfl) (l_v (Bn rfl (Ji (by rw[hpk];omega)) (v:=bF) rfl) (Av bF (l_M (iV (Nr (Ew b (Fv b.fields.length (Bf (Dm b.fields.length set))) k))) (gY rfl rfl) rfl (Aa (gY rfl rfl) (Ek rfl rfl) (l_M (.bool ((Nr (Ew b (Fv b.fields.length (Bf (Dm b.fields.length set))) k))==2)) (gY rfl rfl) rfl (Cn ((Nr (Ew b (Fv b.fields.length (Bf (Dm b.fields.length set))) k))==2) (fun u=>?_) (fun u=>?_))))))))))
 ·have ai:=Jr u;refine l_M (iV (Nu d (Dm b.fields.length set))) (qF u) rfl (Aa (qF u) (Ah (v:=iV sm) P) (Aa (qF u) (Ek rfl rfl) (Aa (gY rfl rfl) (Bt rfl u (v:=.bool ((Nu d (Dm b.fields.length set))==sm)) rfl) (l_v (Bn rfl rfl (v:=.bool ((Nu d (Dm b.fields.length set))==sm)) rfl) (Ac ?_)))));refine W _ ⟨R,y,g,rfl,rfl,rfl,rfl.trans (congrArg Value.bool (beq_eq_false_iff_ne.2 (by rw[hpk,hsm];exact Arp hx hr ai))),trivial⟩
 have ai:=Jq u;refine Ap (gN rfl u) (Ap (gN rfl u) (Ap (gN rfl u) (Aa (gY rfl rfl) (Bn rfl u (v:=bF) rfl) (l_v (Bn rfl rfl (v:=bF) rfl) (Ac ?_)))));refine W _ ⟨R,y,g,rfl,rfl,rfl,rfl,trivial⟩
end
section
open Go Go.WideShapes Go.ChangeShapes Go.RowKit Go.Conc
theorem Bnv{a b:String}(h:a.toUTF8.data.toList=b.toUTF8.data.toList):a=b:=by have c:a.toUTF8=b.toUTF8:=ByteArray.ext (Array.ext' h);exact String.toByteArray_inj.1 c
section
variable{H:Type}
def Ahu(tab:List (String×FuncId))(x:List UInt8):Option FuncId:=match x with
 | []=>none
 | b::r=>match tab.find? fun p=>p.1.toUTF8.data.toList==b::r with
  | some p=>some p.2
  | none=>none
def Bgo(f:TypeId->DataW H->Option (List Value)):List (TypeId×Nat)->List (DataW H)->Option (List Value)
 | [],[]=>some []
 | x::r,d::ds=>match f x.1 d,Bgo f r ds with
  | some a,some b=>some (a++b)
  | _,_=>none
 | _,_=>none
def Axo(P:Program)(e:Nat):Nat->List (TypeId×Nat)->Bool
 | o,[]=>Nat.beq o e
 | o,x::r=>Nat.beq x.2 o&&Axo P e (o+P.cellsOf x.1) r
def Abx(P:Program)(hf:H->Option FuncId):Nat->TypeId->DataW H->Option (List Value)
 | 0,_,_=>none
 | n+1,t,d=>match P.underlying t,d with
  | some .bool,.lit (.bool b)=>some [.bool b]
  | some (.int k),.lit (.int _ z)=>some [.int k z]
  | some .string,.lit (.string l)=>some [.string ⟨l.toArray⟩]
  | some (.func _ _ _),.nil=>some [.nilFunc]
  | some (.func _ _ _),.held x=>match hf x with
   | some f=>some [.func (.func f) #[] #[]]
   | none=>none
  | some (.struct fs),.agg ds=>match Axo P (P.cellsOf t) 0 (fs.toList.map fun f=>(f.type,f.offset)) with
   | true=>Bgo (Abx P hf n) (fs.toList.map fun f=>(f.type,f.offset)) ds
   | false=>none
  | some (.array m e),.agg ds=>match Axo P (P.cellsOf t) 0 ((List.range m).map fun i=>(e,i*P.cellsOf e)) with
   | true=>Bgo (Abx P hf n) ((List.range m).map fun i=>(e,i*P.cellsOf e)) ds
   | false=>none
  | _,_=>none
variable{enc:TypeId×Value->H}{P:Program}{w:World}{base:Nat}{sp:Nat->Bool}{held:Bool}{m:Nat}{t:TypeId}{cs:List Value}{q:List MemPlace}
theorem Bja{ps rs:Array TypeId}{va:Bool}(ht:P.underlying t=some (.func ps rs va))(h:DataW.trod enc P w base sp held m t cs=some (.nil,q)):cs=[.nilFunc]:=by
 cases m with
 | zero=>simp[DataW.trod]at h
 | succ n =>
  unfold DataW.trod at h;rw[ht]at h;split at h<;>simp_all
theorem Bbu{ps rs:Array TypeId}{va:Bool}{x:H}(ht:P.underlying t=some (.func ps rs va))(h:DataW.trod enc P w base sp held m t cs=some (.held x,q)):∃v,cs=[v]/\enc (t,v)=x:=by
 cases m with
 | zero=>simp[DataW.trod]at h
 | succ n =>
  unfold DataW.trod at h;rw[ht]at h;split at h<;>simp_all
theorem Asz{f:TypeId->DataW H->Option (List Value)}(hf:∀t d vs cs q,f t d=some vs->DataW.trod enc P w base sp held m t cs=some (d,q)->cs=vs) :
  ∀{L:List (TypeId×Nat)} {xs:List (DataW H×List MemPlace)} {o:Nat} {vs:List Value},Axo P cs.length o L=true->L.length=xs.length->(∀(i:Nat) (x:TypeId×Nat),L[i]?=some x->DataW.trod enc P w base sp held m x.1 ((cs.drop x.2).take (P.cellsOf x.1))=xs[i]?) ->
   Bgo f L (xs.map (·.1))=some vs->cs.drop o=vs
 | [],xs,o,vs,h1,h2,_,h4=>by
  obtain rfl:xs=[]:=Bar h2.symm;have c:=Hr h1;have e:vs=[]:=by simpa[Bgo]using h4.symm
  rw[e,c,List.drop_length]
 | x::L,xs,o,vs,h1,h2,h3,h4=>by
  match xs,h2 with
  | y::ys,h2 =>
   simp only[Axo,Pc]at h1;obtain⟨g,h⟩:=h1;have c:=Hr g;simp only[Ic,Bgo]at h4;split at h4
   ·rename_i a b g1 g2;cases h4;have j:=h3 0 x rfl;have k:=hf x.1 y.1 a _ y.2 g1 j;have n:=Asz hf (o:=o+P.cellsOf x.1) h (by simpa using h2) (fun i z hz=>by simpa using h3 (i+1) z (by simpa using hz)) g2;rw[<-k,<-n,c,<-Aoz,Zd]
   ·cases h4
theorem Ajn{hf:H->Option FuncId}(hh:∀(t:TypeId) (v:Value) (x:H) (f:FuncId),hf x=some f->enc (t,v)=x->v = .func (.func f) #[] #[]) :
  ∀(n m:Nat) (t:TypeId) (d:DataW H) (vs cs:List Value) (q:List MemPlace),Abx P hf n t d=some vs->DataW.trod enc P w base sp held m t cs=some (d,q)->cs=vs
 | 0,_,_,_,_,_,_,h,_=>by cases h
 | n+1,m,t,d,vs,cs,q,h,h2=>by
  unfold Abx at h;split at h
  ·rename_i b ht;obtain⟨b',rfl,e⟩:=DataW.trod_bool ht h2;cases h;cases e;rfl
  ·rename_i k k' z ht;obtain⟨z',rfl,e,_⟩:=DataW.trod_int ht h2;cases h;cases e;rfl
  ·rename_i l ht;obtain⟨s,rfl,e,_⟩:=DataW.trod_string ht h2;cases h;cases e;rfl
  ·rename_i ht;cases h;exact Bja ht h2
  ·rename_i x ht;obtain⟨v,rfl,e⟩:=Bbu ht h2;split at h
   ·rename_i f hf';cases h;rw[hh t v x f hf' e]
   ·cases h
  ·rename_i fs ds ht;split at h
   ·rename_i ho;obtain⟨xs,k,rfl,e,hl,hx,hg⟩:=DataW.trod_struct ht h2;simp only[Prod.mk.injEq,DataW.agg.injEq]at e;obtain⟨rfl,rfl⟩:=e;rw[<-hl]at ho;have:=Asz (f:=Abx P hf n) (m:=k) (fun t d vs cs q a b=>Ajn hh n k t d vs cs q a b) ho (by simpa using hx.symm) (fun i x hi=>by
     rw[Pb]at hi;cases hj:fs.toList[i]? with
     | none=>rw[hj]at hi;cases hi
     | some f =>
      rw[hj]at hi;cases hi;exact hg i f (by simpa using hj)) h
    rw[Apa]at this;exact this
   ·cases h
  ·rename_i a e ds ht;split at h
   ·rename_i ho;obtain⟨xs,k,rfl,e',hl,hx,hg⟩:=DataW.trod_array ht h2;simp only[Prod.mk.injEq,DataW.agg.injEq]at e';obtain⟨rfl,rfl⟩:=e';rw[<-hl]at ho;have:=Asz (f:=Abx P hf n) (m:=k) (fun t d vs cs q a b=>Ajn hh n k t d vs cs q a b) ho (by simpa using hx.symm) (fun i x hi=>by
     rw[Pb]at hi;cases hj:(List.range a)[i]? with
     | none=>rw[hj]at hi;cases hi
     | some j =>
      rw[hj]at hi;cases hi;have g:=lZ1.1 hj;obtain⟨p,c⟩:=g;rw[Bmr]at c;subst c;exact hg i (by simpa using p)) h
    rw[Apa]at this;exact this
   ·cases h
  ·cases h
end
theorem Bae{P:Program}{W:World}{n:String}{d:DataW Unit}{g:Nat}{t:TypeId}{vs:List Value}{tab:List (String×FuncId)}(htab:tab.all (fun p=>P.funcNamed p.1==some p.2)=true)(hg:P.globalNamed n=some g)(ht:(P.globals[g]?).map (·.type)=some t)(hd:Abx P (Ahu tab) 8 t d.funcsOut=some vs)(h:funcsAt P W n d):∃t' fz,roW W g=some (.cells vs.toArray t' fz):=by
 obtain⟨g',t',cs,k,p,m,u,w,y⟩:=h;obtain rfl:=Option.some.inj (hg.symm.trans m);obtain rfl:=Option.some.inj (ht.symm.trans u);obtain⟨t',fz,hh⟩:=Zw hg w;have:=Ajn (P:=P) (hf:=Ahu tab) (fun t v x f hf he=>by
  unfold Ahu at hf;split at hf
  ·cases hf
  ·rename_i b r;split at hf
   ·rename_i q hq;cases hf;obtain⟨f'',fn,rfl,_,hn,hb⟩:=funcToken_tells he;have e:q.1.toUTF8.data.toList=b::r:=by simpa using List.find?_some hq
    have i:q.1=fn.name:=Bnv (e.trans hb.symm);have c:=Te.1 htab q (List.mem_of_find?_eq_some hq);rw[i,hn]at c;have j:f''=q.2:=by simpa using c
    rw[j]
   ·cases hf) 8 k t d.funcsOut vs cs.toList p hd y
 refine⟨t',fz,?_⟩;rw[<-this];exact Vz hh
theorem Axw{P:Program}{W:World}{n:String}{d:DataW Unit}{g:Nat}{t:TypeId}{vs:List Value}(hg:P.globalNamed n=some g)(ht:(P.globals[g]?).map (·.type)=some t)(hd:Abx P (fun _:Unit=>none) 8 t d=some vs)(h:laidMet P [(n,d)] W):∃t' fz,roW W g=some (.cells vs.toArray t' fz):=by obtain⟨ps,⟨g',t',cs,a,p,q,b,c,e,i,_,_⟩,_,_⟩:=h;obtain rfl:=Option.some.inj (hg.symm.trans b);obtain rfl:=Option.some.inj (ht.symm.trans c);obtain⟨t',fz,hh⟩:=Zw hg e;have:=Ajn (P:=P) (hf:=fun _:Unit=>none) (fun t v x f hf he=>by cases hf) 8 a t d vs cs.toList p hd i;refine⟨t',fz,?_⟩;rw[<-this];exact Vz hh
end
section
open Go Go.WideShapes Go.ChangeShapes Go.RowKit Go.Conc
def laidLK:List (String×DataW Unit):=[("math/bits.deBruijn32tab",Rows.laid_math_bits_deBruijn32tab),("math/bits.deBruijn64tab",Rows.laid_math_bits_deBruijn64tab),("internal/strconv.uint64pow10",Rows.laid_internal_strconv_uint64pow10),("unicode/utf8.acceptRanges",Rows.laid_unicode_utf8_acceptRanges),("strconv.ErrRange",Rows.laid_strconv_ErrRange),("strconv.ErrSyntax",Rows.laid_strconv_ErrSyntax),("crocus/corm.kinds",Rows.laid_crocus_corm_kinds),("crocus/pool.kinds",Rows.laid_crocus_pool_kinds),("crocus/turn.checks",Rows.laid_crocus_turn_checks),("crocus/turn.nowhere",Rows.laid_crocus_turn_nowhere),("crocus/elder.kinds",Rows.laid_crocus_elder_kinds),("crocus/elder.views",Rows.laid_crocus_elder_views),("unicode/utf8.first",Rows.laid_unicode_utf8_first)]
def Bxn:List (String×DataW Unit):=[("math/bits.deBruijn32tab",Rows.laid_math_bits_deBruijn32tab),("math/bits.deBruijn64tab",Rows.laid_math_bits_deBruijn64tab),("internal/strconv.uint64pow10",Rows.laid_internal_strconv_uint64pow10),("unicode/utf8.acceptRanges",Rows.laid_unicode_utf8_acceptRanges),("strconv.ErrRange",Rows.laid_strconv_ErrRange),("strconv.ErrSyntax",Rows.laid_strconv_ErrSyntax),("crocus/turn.nowhere",Rows.laid_crocus_turn_nowhere),("crocus/elder.views",Rows.laid_crocus_elder_views),("unicode/utf8.first",Rows.laid_unicode_utf8_first)]
def Bxo:List (String×DataW Unit):=[("crocus/corm.kinds",Rows.laid_crocus_corm_kinds),("crocus/pool.kinds",Rows.laid_crocus_pool_kinds),("crocus/turn.checks",Rows.laid_crocus_turn_checks),("crocus/elder.kinds",Rows.laid_crocus_elder_kinds)]
def Acv(P:Program)(g:Nat):TypeId:=((P.globals[g]?).map (·.type)).getD 0
def Ail:DataW Unit->DataW Unit
 | .iface _ d=>d
 | d=>d
theorem Ccl:Tryz.prog.globalNamed "crocus/elder.kinds" = some 0:=by kernel_rfl
theorem Cdb:(Tryz.prog.globals[Ho 0]?).map (·.type)=some (Acv Tryz.prog (Ho 0)):=by kernel_rfl
theorem Ccm:Tryz.prog.globalNamed "crocus/pool.kinds" = some 1:=by kernel_rfl
theorem Cdc:(Tryz.prog.globals[Ho 1]?).map (·.type)=some (Acv Tryz.prog (Ho 1)):=by kernel_rfl
theorem Ccn:Tryz.prog.globalNamed "crocus/corm.kinds" = some 5:=by kernel_rfl
theorem Cdd:(Tryz.prog.globals[Ho 5]?).map (·.type)=some (Acv Tryz.prog (Ho 5)):=by kernel_rfl
theorem Cck:Tryz.prog.globalNamed "crocus/turn.checks" = some 6:=by kernel_rfl
theorem Cda:(Tryz.prog.globals[Ho 6]?).map (·.type)=some (Acv Tryz.prog (Ho 6)):=by kernel_rfl
theorem Cco:Tryz.prog.globalNamed "crocus/turn.nowhere" = some 7:=by kernel_rfl
theorem Cde:(Tryz.prog.globals[Ho 7]?).map (·.type)=some (Acv Tryz.prog (Ho 7)):=by kernel_rfl
theorem Bhj{P:Program}{W:World}{a:String×DataW Unit}{l:List (String×DataW Unit)}(h:laidMet P (a::l) W):laidMet P [a] W:=by obtain⟨ps,⟨g,t,cs,c,p,q,d,e,f,i,j,rfl⟩,hn,hc⟩:=h;exact⟨MemPlace.row ⟨g,0,none⟩ cs.size++p++[],⟨g,t,cs,c,p,[],d,e,f,i,rfl,rfl⟩,by rw[Ui];exact(Aix.1 hn).1,fun b off hb=>hc b off (Iz _ (by rw[Ui]at hb;exact hb))⟩
theorem Rn{P:Program}{W:World}{a:String×DataW Unit}{l:List (String×DataW Unit)}(h:laidMet P (a::l) W):laidMet P l W:=by obtain⟨ps,⟨g,t,cs,d,p,q,e,f,i,j,c,rfl⟩,hn,hc⟩:=h;exact⟨q,c,(Aix.1 hn).2.1,fun b off hb=>hc b off (lZ5 _ hb)⟩
def Bqx(W:World)(a:Nat×Cell):Prop:=∃l t fz,a.2 = .ro (.cells l)/\l.all Big=true/\roW W a.1=some (.cells (l.map Apc).toArray t fz)
def tabK:List (String×FuncId):=[("(crocus/corm.sheet).give",idF (.func 369)),("(crocus/corm.sheet).take",idF (.func 408)),("crocus/pool.kinds$1",idF (.func 404)),("crocus/pool.kinds$2",idF (.func 405)),("crocus/pool.kinds$3",idF (.func 406)),("crocus/pool.kinds$4",idF (.func 407)),("(*crocus/turn.ditch).people",idF (.func 409)),("(*crocus/turn.ditch).times",idF (.func 410)),("(*crocus/turn.ditch).changes",idF (.func 411)),("(*crocus/turn.ditch).ground",idF (.func 412)),("crocus/elder.kinds$1",idF (.func 372)),("crocus/elder.tryCorm",idF (.func 373)),("crocus/elder.kinds$2",idF (.func 374)),("crocus/elder.tryOpen",idF (.func 375)),("crocus/elder.kinds$3",idF (.func 376)),("crocus/elder.tryPay",idF (.func 377)),("crocus/elder.kinds$4",idF (.func 378)),("crocus/elder.trySale",idF (.func 379)),("crocus/elder.kinds$5",idF (.func 380)),("crocus/elder.tryLot",idF (.func 381))]
theorem Bzf:tabK.all (fun p=>Tryz.prog.funcNamed p.1==some p.2)=true:=by kernel_rfl
theorem Ady{W:World}{n:String}{d:DataW Unit}{g:Nat}{l:List CV}(hg:Tryz.prog.globalNamed n=some g)(ht:(Tryz.prog.globals[g]?).map (·.type)=some (Acv Tryz.prog g))(h:funcsAt Tryz.prog W n d)
  (hd:Abx Tryz.prog (Ahu tabK) 8 (Acv Tryz.prog g) d.funcsOut=some (l.map Apc)) (hp:l.all Big=true):Bqx W (g,.ro (.cells l)) :=
 let ⟨t,fz,h⟩:=Bae Bzf hg ht hd h
 ⟨l,t,fz,rfl,hp,h⟩
theorem Blv{W:World}{n:String}{d:DataW Unit}{g:Nat}{l:List CV}(hg:Tryz.prog.globalNamed n=some g)(ht:(Tryz.prog.globals[g]?).map (·.type)=some (Acv Tryz.prog g))(h:laidMet Tryz.prog [(n,d)] W)
  (hd:Abx Tryz.prog (fun _:Unit=>none) 8 (Acv Tryz.prog g) d=some (l.map Apc)) (hp:l.all Big=true):Bqx W (g,.ro (.cells l)) :=
 let ⟨t,fz,h⟩:=Axw hg ht hd h
 ⟨l,t,fz,rfl,hp,h⟩
theorem Bjs{W:World}:∀{l:List (Nat×Cell)},l.foldr (fun a p=>Bqx W a/\p) True->∀a∈l,Bqx W a
 | b::l,h,a,ha=>(lZ8.1 ha).elim (fun e=>e ▸ h.1) (Bjs h.2 a)
def cK23:List CV:=[.f (idF (.func 372)) [] [],.f (idF (.func 373)) [] [],.f (idF (.func 374)) [] [],.f (idF (.func 375)) [] [],.f (idF (.func 376)) [] [],.f (idF (.func 377)) [] [],.f (idF (.func 378)) [] [],.f (idF (.func 379)) [] [],.f (idF (.func 380)) [] [],.f (idF (.func 381)) [] []]
theorem Ccf:Abx Tryz.prog (Ahu tabK) 8 (Acv Tryz.prog (Ho 0)) (Ail Rows.laid_crocus_elder_kinds).funcsOut=some (cK23.map Apc):=by kernel_rfl
def cK24:List CV:=[.s [112,97,121],.f (idF (.func 404)) [] [],.s [108,111,97,110],.f (idF (.func 405)) [] [],.s [98,97,99,107],.f (idF (.func 406)) [] [],.s [100,111,119,114,121],.f (idF (.func 407)) [] []]
theorem Ccg:Abx Tryz.prog (Ahu tabK) 8 (Acv Tryz.prog (Ho 1)) (Ail Rows.laid_crocus_pool_kinds).funcsOut=some (cK24.map Apc):=by kernel_rfl
def cK26:List CV:=[.s [115,116,97,114,116],.fn,.f (idF (.func 369)) [] [],.b false,.s [103,105,102,116],.f (idF (.func 408)) [] [],.f (idF (.func 369)) [] [],.b true,.s [108,111,97,110],.f (idF (.func 408)) [] [],.f (idF (.func 369)) [] [],.b true,.s [98,97,99,107],.f (idF (.func 408)) [] [],.f (idF (.func 369)) [] [],.b true,.s [115,97,108,101],.f (idF (.func 408)) [] [],.fn,.b true,.s [108,111,115,115],.f (idF (.func 408)) [] [],.fn,.b false]
theorem Cch:Abx Tryz.prog (Ahu tabK) 8 (Acv Tryz.prog (Ho 5)) (Ail Rows.laid_crocus_corm_kinds).funcsOut=some (cK26.map Apc):=by kernel_rfl
def cK10:List CV:=[.f (idF (.func 409)) [] [],.f (idF (.func 410)) [] [],.f (idF (.func 411)) [] [],.f (idF (.func 412)) [] []]
theorem Cce:Abx Tryz.prog (Ahu tabK) 8 (Acv Tryz.prog (Ho 6)) (Ail Rows.laid_crocus_turn_checks).funcsOut=some (cK10.map Apc):=by kernel_rfl
def cK27:List CV:=[.i .i64 (.negSucc 0),.i .i64 (.negSucc 0)]
theorem Cci:Abx Tryz.prog (fun _:Unit=>none) 8 (Acv Tryz.prog (Ho 7)) Rows.laid_crocus_turn_nowhere=some (cK27.map Apc):=by kernel_rfl
theorem Aor{W:World}(h:laidMetH Tryz.prog laidLK W):GlobK (roW W):=by have h':laidMet Tryz.prog Bxn W/\handlesMet Tryz.prog Bxo W:=h;refine⟨Bjs ?_⟩;unfold eKnows1;simp only[List.foldr];refine⟨Ady (n:= "crocus/elder.kinds") (d:=Ail Rows.laid_crocus_elder_kinds) Ccl Cdb (h.funcs (lZ0 _ (lZ0 _ (lZ0 _ (lZ0 _ (lZ0 _ (lZ0 _ (lZ0 _ (lZ0 _ (lZ0 _ (lZ0 _ mC))))))))))) Ccf (by kernel_rfl),?_⟩;refine⟨Ady (n:= "crocus/pool.kinds") (d:=Ail Rows.laid_crocus_pool_kinds) Ccm Cdc (h.funcs (lZ0 _ (lZ0 _ (lZ0 _ (lZ0 _ (lZ0 _ (lZ0 _ (lZ0 _ mC)))))))) Ccg (by kernel_rfl),?_⟩;refine⟨Ady (n:= "crocus/corm.kinds") (d:=Ail Rows.laid_crocus_corm_kinds) Ccn Cdd (h.funcs (lZ0 _ (lZ0 _ (lZ0 _ (lZ0 _ (lZ0 _ (lZ0 _ mC))))))) Cch (by kernel_rfl),?_⟩;refine⟨Ady (n:= "crocus/turn.checks") (d:=Ail Rows.laid_crocus_turn_checks) Cck Cda (h.funcs (lZ0 _ (lZ0 _ (lZ0 _ (lZ0 _ (lZ0 _ (lZ0 _ (lZ0 _ (lZ0 _ mC))))))))) Cce (by kernel_rfl),?_⟩;refine⟨Blv (n:= "crocus/turn.nowhere") (d:=Rows.laid_crocus_turn_nowhere) Cco Cde (Bhj (Rn (Rn (Rn (Rn (Rn (Rn h'.1))))))) Cci (by kernel_rfl),?_⟩;trivial
def Cbr:DataW Unit->List Value
 | .agg ds=>ds.map fun d=>match d with | .lit (.int k z)=>.int k z|_=>undef
 | _=>[]
def doorK(os:Os):World:={World.doorLaid Tryz.prog 2000 os with heap:=(World.doorLaid Tryz.prog 2000 os).heap.setIfInBounds (Ho 10) (.cells (Cbr Go.Pinned.utf8First).toArray (Acv Tryz.prog (Ho 10)) (0,0))}
theorem Bsh(os:Os)(args:Array Value):(DataW.laidRun Tryz.prog ((doorK os).forCall (fun _ _=>0) ⟨#[],args,[]⟩).memory 8 ((laidLK.filter fun x=>x.2.handleName?.isNone).map (·.1))).map (·.1)=some (laidLK.filter fun x=>x.2.handleName?.isNone):=by kernel_rfl
theorem Bsi(os:Os)(args:Array Value):(DataW.laidRun Tryz.prog ((doorK os).forCall (fun _ _=>0) ⟨#[],args,[]⟩).memory 8 ((laidLK.filter fun x=>x.2.handleName?.isNone).map (·.1))).map (fun x=>decide x.2.Nodup&&laidRowsB Tryz.prog ((doorK os).forCall (fun _ _=>0) ⟨#[],args,[]⟩).memory x.2)=some true:=by kernel_rfl
theorem Bsj(os:Os)(args:Array Value):(laidLK.filter fun x=>x.2.handleName?.isSome&&x.2.funcsIn?.isNone).all (handleAtB Tryz.prog ((doorK os).forCall (fun _ _=>0) ⟨#[],args,[]⟩).memory)=true:=by kernel_rfl
theorem Bsk(os:Os)(args:Array Value):funcsRun Tryz.prog ((doorK os).forCall (fun _ _=>0) ⟨#[],args,[]⟩).memory 8 ((funcsListed laidLK).map (·.1))=some ((funcsListed laidLK).map (·.2.funcsOut)):=by kernel_rfl
theorem Bgt(os:Os)(args:Array Value):laidMetH Tryz.prog laidLK ((doorK os).forCall (fun _ _=>0) ⟨#[],args,[]⟩).memory :=
 laidMetH_of_parts3 (fuel:=8) (laidMet_of_run' 8 (Bsh os args) (Bsi os args)) (Bsj os args) (Bsk os args)
def Bjo(H:Type)(enc:TypeId×Value->H)(s:ChangeSpec)(fn:Func):World->Array Value->Prop :=
 fun w args=>(s.pre enc Tryz.prog fn [] false w args/\laidMetH Tryz.prog laidLK w)/\sizedMet enc Tryz.prog fn (OpenSpec.ofChange s) false w args
theorem Baw{f:FuncId}{r:Nat}{fn:Func}{s:ChangeSpec}(os:Os)(started:os.Started)(H:Type)(enc:TypeId×Value->H)(hfn:Tryz.prog.funcs[f]?=some fn)(hvars:s.vars=[])(hres:fn.resultTypes = #[4])(hi:Tryz.prog.inits.idxOf? f=none)
  (hts:∀t∈fn.params.toList,Tryz.prog.readableRec t=true/\t<Tryz.prog.types.size)
  (hspec:∀ds:List (DataW H),ds.length=fn.params.toList.length->s.fn H ds={results:=[.lit (.bool true)],args:=ds})
  (witness:∃(w:World) (tape:Tape) (i:Input),w.os=os/\(w.forCall tape i).Shaped Tryz.prog/\i.vars=[]/\Input.okWide Tryz.prog (w.forCall tape i) .any w.heap.size f i/\Bjo H enc s fn (w.forCall tape i).memory i.args/\({}:Assume).holds Tryz.prog (lone (Frame.enter Tryz.prog f i.args .normal) [] (w.forCall tape i)))
  (walk:∀(W:World) (args:List Value) (ds:List (DataW H)) (ps:List MemPlace),(∀(j:Nat) t v,fn.params[j]?=some t->args.toArray[j]?=some v->∃b,Value.okWide Tryz.prog W .any b t v)->DataW.TrodAll enc Tryz.prog W 0 (fun _=>true) true fn.params.toList args ds ps ->
   (DataW.weightsEach Tryz.prog fn.params.toList ds).all (·<=reachBytes)=true->GlobK (roW W)->Agd (CY W) f r args (roW W) [] (fun w Y' Z'=>Y'=roW W/\Z'=[]/\w = .bool true)) :
  ReturnsInLeavingWide {} Tryz.checked os f .any (Bjo H enc s fn) (s.post enc Tryz.prog fn false true false false):=by
 refine returnsInLeavingWide_of_good (C:=Tryz.checked) Art started witness ?_;intro w tape i _ _ _ hok z _;obtain⟨_,_,_,fn',u,_,_,_,_,B⟩:=hok;have e:fn'=fn:=Option.some.inj (u.symm.trans hfn);subst e;obtain⟨⟨⟨ds,gs,E,hw,_⟩,hL⟩,hz⟩:=z;have hsz:=hz.weights hw;have hw':=DataW.Whole.of_heap (w':=w.forCall tape i) (by rfl) hw;have hL':=hL.of_heap (w':=w.forCall tape i) (by rfl);generalize w.forCall tape i=W at *;obtain⟨p,q,hA,hV,hb,hnf,hnd⟩:=hw';have hV':DataW.TrodVars enc Tryz.prog W (fun _=>true) [] gs q:=by rw[<-hvars];exact hV
 obtain⟨rfl,rfl⟩:=trodVars_none hV';simp only[Ui]at hb;replace hb:=hb.symm;subst hb;have hvt:s.plain.varTypes Tryz.prog=[]:=by unfold DataSpec.varTypes ChangeSpec.plain;rw[hvars];rfl
 rw[show (OpenSpec.ofChange s).bare.plain.varTypes Tryz.prog=[] from hvt,Ui,Ui]at hsz;obtain⟨F,y⟩:=Sb hA;have g:i.args.toList.toArray=i.args:=by simp
 have n:=walk W i.args.toList ds p (fun j t v c a=>⟨_,B j t v c (by rw[g]at a;exact a)⟩) hA hsz (Aor hL');have d:DataW.Whole enc Tryz.prog fn'.params.toList s.vars false W i.args.toList ds [] p:=⟨p,[],hA,hV,by simp,hnf,hnd⟩;have hlt:∀x∈p,x.block<W.heap.size:=fun x hx=>by simpa using d.lt x hx
 have hgo:=Auj (W0:=W) (Pst:=fun v W'=>s.post enc Tryz.prog fn' false true false false W i.args v W') n hi fun v Y' Z' ⟨_,hZ,hv⟩=>⟨hZ,fun W' hbw=>by
  subst hv;have er:(s.fn H (ds++[]))={results:=[.lit (.bool true)],args:=ds}:=by rw[Ui];exact hspec ds y
  refine⟨ds,[],p,[],p,[],d,?_,?_,?_,hbw.frame _,fun h=>by cases h⟩
  ·rw[er,hres];exact trodAll_mk1 (shut_bool Tryz.underlying4 true)
  ·rw[er];exact Oo hbw hts hlt hA
  ·rw[er,hvars];rfl⟩
 rw[g]at hgo;obtain⟨M,D,o,w',t',c,a,k,m⟩:=Aue hgo Anl;exact⟨M,D,o,w',t',c,a,k,m.mono fun v hp=>ChangeSpec.post_blind hp⟩
end
section
open Go Go.WideShapes
theorem Bsc:Api LPart 38:=⟨by kernel_rfl,fun H enc W f cs x h hw=>by
 obtain⟨xs,n,_,rfl,hcl,hl,hf⟩:=DataW.trod_struct Cds h;rw[show Tryz.prog.cellsOf 38=2 from by kernel_rfl]at hcl;obtain⟨b,d⟩:=Vy (i:=0) Cds hl hf hw rfl rfl (show _=0 from rfl) (Atd Cdn (by kernel_rfl));obtain⟨a,e⟩:=Vy (i:=1) Cds hl hf hw rfl rfl (show _=1 from rfl) (Bsf Cec (by kernel_rfl));refine⟨⟨b,a⟩,?_⟩;have c:cs=cs.drop 0:=rfl;rw[c];exact⟨(cs.drop 0).take 1,cs.drop 1,(Azt cs 0 1).trans (by rfl),d,(show Dat.rep (roW W) (cs.drop 1) a from by (have:=e;rw[Atr (by rw[Tf,hcl];decide)]at this;exact this))⟩⟩
theorem Bsd:Api LLot 36:=⟨by kernel_rfl,fun H enc W f cs x h hw=>by
 obtain⟨xs,n,_,rfl,hcl,hl,hf⟩:=DataW.trod_struct Cdr h;rw[show Tryz.prog.cellsOf 36=2 from by kernel_rfl]at hcl;obtain⟨b,d⟩:=Vy (i:=0) Cdr hl hf hw rfl rfl (show _=0 from rfl) (Atd Cdn (by kernel_rfl));obtain⟨a,e⟩:=Vy (i:=1) Cdr hl hf hw rfl rfl (show _=1 from rfl) (Adq Cdt (by kernel_rfl) (lZ7 (by kernel_rfl)) (by decide) Bsc);refine⟨⟨b,a⟩,?_⟩;have c:cs=cs.drop 0:=rfl;rw[c];exact⟨(cs.drop 0).take 1,cs.drop 1,(Azt cs 0 1).trans (by rfl),d,(show Dat.rep (roW W) (cs.drop 1) a from by (have:=e;rw[Atr (by rw[Tf,hcl];decide)]at this;exact this))⟩⟩
theorem Bsb:Api LBook 25:=⟨by kernel_rfl,fun H enc W f cs x h hw=>by
 obtain⟨xs,n,_,rfl,hcl,hl,hf⟩:=DataW.trod_struct Cdm h;rw[show Tryz.prog.cellsOf 25=2 from by kernel_rfl]at hcl;obtain⟨b,d⟩:=Vy (i:=0) Cdm hl hf hw rfl rfl (show _=0 from rfl) (Adq Cdq (by kernel_rfl) (lZ7 (by kernel_rfl)) (by decide) (Atd Cdn (by kernel_rfl)));obtain⟨a,e⟩:=Vy (i:=1) Cdm hl hf hw rfl rfl (show _=1 from rfl) (Adq Cdp (by kernel_rfl) (lZ7 (by kernel_rfl)) (by decide) Bsd);refine⟨⟨b,a⟩,?_⟩;have c:cs=cs.drop 0:=rfl;rw[c];exact⟨(cs.drop 0).take 1,cs.drop 1,(Azt cs 0 1).trans (by rfl),d,(show Dat.rep (roW W) (cs.drop 1) a from by (have:=e;rw[Atr (by rw[Tf,hcl];decide)]at this;exact this))⟩⟩
end
section
open Go Go.WideShapes Go.ChangeShapes Go.RowKit Go.Conc
set_option maxRecDepth 100000
theorem Acb(os:Os)(started:os.Started)(H:Type)(enc:TypeId×Value->H):ReturnsInLeavingWide {} Tryz.checked os 5 .any (Bjo H enc Rows.elderTracedSpec Tryz.f5) (Rows.elderTracedSpec.post enc Tryz.prog Tryz.f5 false true false false):=by
 refine Baw (r:=10) os started H enc Tryz.func5 rfl rfl (by kernel_rfl) (by decide) (fun ds hd=>?_)
  (ChangeSpec.witness_shaped (enc:=enc) (C:=Tryz.checked) (os:=os) (X:=fun w _=>laidMetH Tryz.prog laidLK w) false (doorK os) #[.agg #[.slice none 0 0,.slice none 0 0],.int .u8 0,.int .u8 0,.int .u8 0,.slice none 0 0] 8 rfl (World.shaped_of_RefB (by kernel_rfl) (by kernel_rfl)) (by kernel_rfl) (by kernel_rfl) (by kernel_rfl) (Bgt os _)) ?_
 ·match ds,hd with
  | [d1,d2,d3,d4,d5],_=>rfl
 ·intro W a ds ps hv hA hw hg;obtain⟨b,c⟩:=Sb hA
  match a,b,ds,c,hA with
  | [v1,v2,v3,v4,v5],_,[d1,d2,d3,d4,d5],_,⟨p1,q1,h1,⟨p2,q2,h2,⟨p3,q3,h3,⟨p4,q4,h4,⟨p5,q5,h5,_,_⟩,_⟩,_⟩,_⟩,_⟩ =>
   obtain⟨q,d⟩:=hv 0 25 v1 rfl rfl;obtain⟨t,e⟩:=hv 1 5 v2 rfl rfl;obtain⟨u,f⟩:=hv 2 5 v3 rfl rfl;obtain⟨v,g⟩:=hv 3 5 v4 rfl rfl;obtain⟨x,h⟩:=hv 4 43 v5 rfl rfl;obtain⟨y,n⟩:=Azb Bsb rfl Cdm d h1 (Aoh hw (j:=0) rfl rfl);obtain⟨z,rfl,i⟩:=Azc Cdy e h2;obtain⟨B,rfl,k⟩:=Azc Cdy f h3;obtain⟨D,rfl,m⟩:=Azc Cdy g h4;obtain⟨E,p⟩:=Bfw (Adq Cew (by kernel_rfl) (lZ7 (by kernel_rfl)) (by decide) (Bwu Cfg (by kernel_rfl))) Cew h h5 (Aoh hw (j:=4) rfl rfl);exact Aoo hg NoRecv.nil n i k m p
theorem Alj:laidOutB Tryz.prog=true:=by kernel_rfl
theorem Aln:mapsRowed Tryz.prog=true:=by kernel_rfl
theorem Alo:(Rows.elderTracedRow.inPlace==Tryz.prog.inPlace (idF (.func 5)))=true:=by kernel_rfl
theorem Alp:(Rows.elderTracedRow.unfollowed==Tryz.prog.unfollowed (idF (.func 5)))=true:=by kernel_rfl
theorem Alq:(Rows.elderTracedRow.recurses==Tryz.prog.recurses (idF (.func 5)))=true:=by kernel_rfl
theorem Als:(Rows.elderTracedRow.named==Tryz.prog.varsNamed (idF (.func 5)))=true:=by kernel_rfl
theorem Alt:(Rows.elderTracedRow.plainKeys==Tryz.prog.plainKeys)=true:=by kernel_rfl
theorem Alu:Tryz.prog.stopsHeard=true:=by kernel_rfl
theorem Alv:Tryz.prog.mayEnter=true:=by kernel_rfl
theorem elderTraced_name:Tryz.prog.funcNamed "crocus/crocuslaw10.ElderTraced" = some 5:=by kernel_rfl
theorem Aca:joinedFacts Tryz.prog (idF (.func 5)) Tryz.f5 Rows.elderTracedSpec Rows.elderTracedRow=true:=by
 unfold joinedFacts;rw[Alj,Aln,Alo,Alp,Alq,Als,Alt,Alu,Alv]
 kernel_rfl
theorem Ait:Rows.ElderTracedSaid :=
 OpenClaim.holds_of_wide_leaving 5 Tryz.f5 rfl rfl rfl rfl rfl rfl rfl ⟨rfl,rfl,rfl,rfl,rfl⟩ rfl rfl rfl rfl rfl elderTraced_name Tryz.func5 Aca
  (lZ3 (by kernel_rfl)) (by unfold Func.isWrapper;first|(rw[if_pos (by decide +kernel)];kernel_rfl)|(rw[if_neg (by decide +kernel)];exact⟨rfl,rfl⟩))
  (fun os a H enc _=>Acb os a H enc)
theorem elderTraced_holds:Rows.ElderTracedCardSaid :=
 Biy .later [.data,.data,.data,.data,.sentinel,.sentinel,.funcsDeep,.funcsDeep,.funcs,.data,.funcs,.data,.pinned] true (true,"3dd740a78d42a0580a7099bf8da84210d2e96bbe97b1f6fc73161ea9754fcb6b") true Ait (by kernel_rfl) elderTraced_row_tie rfl ⟨rfl,rfl⟩ (by kernel_rfl) rfl
  (fun f fn hf hfn=>by
   obtain rfl:f=5:=Option.some.inj (elderTraced_name.symm.trans hf) |>.symm;obtain rfl:fn=Tryz.f5:=(Option.some.inj (Tryz.func5.symm.trans hfn)).symm;exact⟨by kernel_rfl,fun j t ht=>by
    have a:t=25∨t=5∨t=43:=by
     match j,ht with
     | 0,h=>exact .inl (Option.some.inj h).symm
     | 1,h=>exact .inr (.inl (Option.some.inj h).symm)
     | 2,h=>exact .inr (.inl (Option.some.inj h).symm)
     | 3,h=>exact .inr (.inl (Option.some.inj h).symm)
     | 4,h=>exact .inr (.inr ((Option.some.inj h).symm))
    rcases a with rfl|rfl|rfl
    ·exact(show Tryz.prog.wantsStandIn 25=false by kernel_rfl)
    ·exact(show Tryz.prog.wantsStandIn 5=false by kernel_rfl)
    ·exact(show Tryz.prog.wantsStandIn 43=false by kernel_rfl)⟩)
  (by kernel_rfl)
end
end
end Go.Proofs.YtekhlbdfjkndnaaGreatDoor
