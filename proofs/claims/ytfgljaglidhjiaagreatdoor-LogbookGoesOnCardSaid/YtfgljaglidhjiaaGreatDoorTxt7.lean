import Derived.Test.YtfgljaglidhjiaaGreatDoorBase20
import Derived.Test.YtfgljaglidhjiaaGreatDoorTab
import Derived.ProofKit
import Derived.Test.YtfgljaglidhjiaaGreatDoorTxt6
import Derived.Test.YtfgljaglidhjiaaGreatDoorBase14
set_option linter.all false
set_option maxRecDepth 1000000
namespace Go.Proofs.YtfgljaglidhjiaaGreatDoor
open List(length_flatMap map_take)
open Go Go.Abs
def qI(n:Int):D:=.int .i64 n
def Hx:D:=(.aH 3 [(qI 100),(qI 101),(qI 419),(qI 2676),(qI 150),(qI 150),(qI 476),(qI 632),(qI 2746),(qI 300),(qI 200),(qI 1555),(qI 852),(qI 2793),(qI 600)])
def c8:aE:=.cells 0 []
def dq2:D:=(.aH 1 [(qI 0),(qI 500),(qI 5)])
def dq3:D:=(.aH 8 [(qI 8000),(qI 8000),(qI 500),(qI 400),(qI 900),(qI 400),(qI 0),(qI 10)])
def R6:D:=(.sl 3 13 0 0 0 6)
def dq5:D:=(.aH 8 [(qI 8000),(qI 8000),(qI 500),(qI 400),(qI 900),(qI 500),(qI 0),(qI 10)])
def R7:D:=(.sl 3 4 0 0 0 6)
def SW:D:=(.sl 3 3 0 0 0 2)
def Ua:D:=(.sl 3 12 0 0 0 2)
def dq9:D:=(.sl 3 2 0 0 0 2)
def Lw:D:=(.sl 3 14 2 0 2 4)
def Lx:D:=(.sl 3 11 0 0 0 2)
def Ly:D:=(.sl 3 1 0 0 0 10)
def an0:D:=(.aH 2 [(.aH 1 [(qI (-50))]),(.aH 1 [(qI 50)])])
def Lz:D:=(.sl 3 9 2 0 2 4)
def LA:D:=(.sl 3 5 2 0 2 4)
def LB:D:=(.sl 3 0 2 0 2 4)
def ND:D:=(.sl 3 10 0 0 0 10)
def R4:D:=(.sl 3 10 1 0 1 10)
def R5:D:=(.sl 3 1 1 0 1 10)
def b0:aE:=.cells 0 [(qI 0),(qI 0),(qI 0),(qI 0),.aK,(qI 0),(qI 0),(qI 0),.aK,(.sl 3 0 0 0 0 4),.aK,Ly,dq9,(qI 1000),(qI 500),(qI 0),SW,R7,(.bool false),(.sl 3 5 0 0 0 4),(qI 0)]
def b1:aE:=.cells 0 [(qI 2),(qI 1),(qI 1),(qI 4),.aK,(qI 0),(qI 0),(qI 0),.aK,(.sl 3 0 0 0 0 4),.aK,Ly,dq9,(qI 1000),(qI 500),(qI 0),SW,R7,(.bool false),(.sl 3 5 0 0 0 4),(qI 0)]
def b2:aE:=.cells 0 [(qI 2),(qI 1),(qI 1),(qI 4),Hx,(qI 0),(qI 0),(qI 0),.aK,(.sl 3 0 0 0 0 4),.aK,Ly,dq9,(qI 1000),(qI 500),(qI 0),SW,R7,(.bool false),(.sl 3 5 0 0 0 4),(qI 1)]
def b3:aE:=.cells 0 [(qI 2),(qI 1),(qI 1),(qI 4),Hx,(qI 1000),(qI 0),(qI 800),.aK,(.sl 3 0 0 0 0 4),.aK,Ly,dq9,(qI 1000),(qI 500),(qI 0),SW,R7,(.bool true),(.sl 3 5 0 0 0 4),(qI 2)]
def b4:aE:=.cells 3 [(qI 0),(qI 0),(qI 0)]
def b5:aE:=.cells 0 [(qI 2),(qI 1),(qI 1),(qI 4),Hx,(qI 1000),(qI 0),(qI 800),dq2,(.sl 3 0 0 0 0 4),.aK,Ly,dq9,(qI 1000),(qI 500),(qI 0),SW,R7,(.bool true),(.sl 3 5 0 0 0 4),(qI 3)]
def b6:aE:=.cells 4 [(qI 0),(qI 0),(qI 0),(qI 0)]
def b7:aE:=.cells 1 [(.str [97]),dq3,(.bool true),(qI 0)]
def b8:aE:=.cells 1 [(qI 0),(qI 0),(qI 0),(qI 0)]
def b9:aE:=.cells 0 [(qI 2),(qI 1),(qI 1),(qI 4),Hx,(qI 1000),(qI 0),(qI 800),dq2,(.sl 3 0 1 0 1 4),.aK,Ly,dq9,(qI 1000),(qI 500),(qI 0),SW,R7,(.bool true),(.sl 3 5 1 0 1 4),(qI 4)]
def b10:aE:=.cells 5 [(qI 0),(qI 0),(qI 0),(qI 0),(qI 0)]
def b11:aE:=.cells 2 [(.str [97]),dq3,(.bool true),(qI 0),(.str [98]),dq5,(.bool true),(qI 0)]
def b12:aE:=.cells 2 [(qI 0),(qI 0),(qI 0),(qI 0),(qI 0),(qI 0),(qI 0),(qI 0)]
def b13:aE:=.cells 0 [(qI 2),(qI 1),(qI 1),(qI 4),Hx,(qI 1000),(qI 0),(qI 800),dq2,LB,.aK,Ly,dq9,(qI 1000),(qI 500),(qI 0),SW,R7,(.bool true),LA,(qI 5)]
def b14:aE:=.cells 6 [(qI 0),(qI 0),(qI 0),(qI 0),(qI 0),(qI 0)]
def AT:aE:=.cells 2 [(.str [97]),dq3,(.bool true),(qI 0),(.str [98]),dq5,(.bool false),(qI 6)]
def AU:aE:=.cells 2 [(qI 0),(qI 0),(qI 0),(qI 0),(qI 6),(qI 500),(qI 390),(qI 410)]
def b17:aE:=.cells 0 [(qI 2),(qI 1),(qI 1),(qI 4),Hx,(qI 1000),(qI 0),(qI 800),dq2,LB,.aK,Ly,dq9,(qI 1000),(qI 500),(qI 0),SW,R7,(.bool true),LA,(qI 6)]
def b18:aE:=.cells 7 [(qI 0),(qI 0),(qI 0),(qI 0),(qI 0),(qI 0),(qI 0)]
def xS:aE:=.cells 1 [(qI 0),(qI 0),(qI 0),(qI 9),(qI 9),(qI 9),(qI 20),(qI 5),(qI 1),(.int .u8 (1))]
def b20:aE:=.cells 0 [(qI 2),(qI 1),(qI 1),(qI 4),Hx,(qI 1000),(qI 0),(qI 800),dq2,LB,.aK,R5,dq9,(qI 1000),(qI 500),(qI 0),SW,R7,(.bool true),LA,(qI 7)]
def b21:aE:=.cells 8 [(qI 0),(qI 0),(qI 0),(qI 0),(qI 0),(qI 0),(qI 0),(qI 0)]
def ze:aE:=.cells 1 [(qI 0),(.aH 1 [(qI 1),(qI 1),(qI 1),(qI 25)])]
def b23:aE:=.cells 0 [(qI 2),(qI 1),(qI 1),(qI 4),Hx,(qI 1000),(qI 0),(qI 800),dq2,LB,.aK,R5,(.sl 3 2 1 0 1 2),(qI 1000),(qI 500),(qI 0),SW,R7,(.bool true),LA,(qI 8)]
def b24:aE:=.cells 9 [(qI 0),(qI 0),(qI 0),(qI 0),(qI 0),(qI 0),(qI 0),(qI 0),(qI 0)]
def b25:aE:=.cells 0 [(qI 2),(qI 1),(qI 1),(qI 4),Hx,(qI 1000),(qI 0),(qI 800),dq2,LB,(.aH 1 [(.aH 1 [(qI (-50))])]),R5,(.sl 3 2 1 0 1 2),(qI 1000),(qI 500),(qI 0),SW,R7,(.bool true),LA,(qI 9)]
def b26:aE:=.cells 10 [(qI 0),(qI 0),(qI 0),(qI 0),(qI 0),(qI 0),(qI 0),(qI 0),(qI 0),(qI 0)]
def b27:aE:=.cells 0 [(qI 2),(qI 1),(qI 1),(qI 4),Hx,(qI 1000),(qI 0),(qI 800),dq2,LB,an0,R5,(.sl 3 2 1 0 1 2),(qI 1000),(qI 500),(qI 0),SW,R7,(.bool true),LA,(qI 10)]
def b28:aE:=.cells 11 [(qI 0),(qI 0),(qI 0),(qI 0),(qI 0),(qI 0),(qI 0),(qI 0),(qI 0),(qI 0),(qI 0)]
def DE:aE:=.cells 1 [(qI 0),(.aH 1 [(qI 100),(qI 400)])]
def b30:aE:=.cells 0 [(qI 2),(qI 1),(qI 1),(qI 4),Hx,(qI 1000),(qI 0),(qI 800),dq2,LB,an0,R5,(.sl 3 2 1 0 1 2),(qI 1000),(qI 500),(qI 0),(.sl 3 3 1 0 1 2),R7,(.bool true),LA,(qI 11)]
def b31:aE:=.cells 12 [(qI 0),(qI 0),(qI 0),(qI 0),(qI 0),(qI 0),(qI 0),(qI 0),(qI 0),(qI 0),(qI 0),(qI 0)]
def Gm:aE:=.cells 1 [(qI 2),(qI 0),(qI 4000),(qI 4000),(qI 12000),(qI 12000)]
def Gn:aE:=.cells 0 [(qI 2),(qI 1),(qI 1),(qI 4),Hx,(qI 1000),(qI 0),(qI 800),dq2,LB,an0,R5,(.sl 3 2 1 0 1 2),(qI 1000),(qI 500),(qI 0),(.sl 3 3 1 0 1 2),(.sl 3 4 1 0 1 6),(.bool true),LA,(qI 12)]
def Gx:aE:=.cells 13 [(qI 0),(qI 0),(qI 0),(qI 0),(qI 0),(qI 0),(qI 0),(qI 0),(qI 0),(qI 0),(qI 0),(qI 0),(qI 0)]
def Gy:aE:=.cells 1 [(.str [102,105,101,108,100,32,50,32,49,32,49,32,52]),(.str [116,97,98,108,101,32,49,48,48,32,49,48,49,32,52,49,57,32,50,54,55,54,32,49,53,48,32,49,53,48,32,52,55,54,32,54,51,50,32,50,55,52,54,32,51,48,48,32,50,48,48,32,49,53,53,53,32,56,53,50,32,50,55,57,51,32,54,48,48]),(.str [98,101,100,32,49,48,48,48,32,48,32,56,48,48]),(.str [109,111,100,101,108,32,97,32,56,48,48,48,32,56,48,48,48,32,53,48,48,32,52,48,48,32,57,48,48,32,52,48,48,32,48,32,49,48]),(.str [109,111,100,101,108,32,98,32,56,48,48,48,32,56,48,48,48,32,53,48,48,32,52,48,48,32,57,48,48,32,53,48,48,32,48,32,49,48]),(.str [108,111,103,32,116,49,32,50,32,51,57,48,32,52,49,48,32,49,32,49]),(.str [114,117,108,101,32,48,32,48,32,48,32,57,32,57,32,57,32,50,48,32,53,32,49,32,49]),(.str [113,117,97,107,101,32,49,32,49,32,49,32,50,53]),(.str [116,105,99,107,32,45,49,48,48]),(.str [116,105,99,107,32,53,48]),(.str [117,110,105,116,32,48,32,49,48,48,32,52,48,48]),(.str [115,101,108,108,32,48,32,48,32,48,32,51]),(.str [])]
def b36:aE:=.cells 0 [(qI 0),(qI 0),(qI 0),(qI 0),.aK,(qI 0),(qI 0),(qI 0),.aK,(.sl 3 9 0 0 0 4),.aK,ND,Lx,(qI 1000),(qI 500),(qI 0),Ua,R6,(.bool false),(.sl 3 14 0 0 0 4),(qI 0)]
def b37:aE:=.cells 0 [(qI 2),(qI 1),(qI 1),(qI 4),.aK,(qI 0),(qI 0),(qI 0),.aK,(.sl 3 9 0 0 0 4),.aK,ND,Lx,(qI 1000),(qI 500),(qI 0),Ua,R6,(.bool false),(.sl 3 14 0 0 0 4),(qI 0)]
def b38:aE:=.cells 0 [(qI 2),(qI 1),(qI 1),(qI 4),Hx,(qI 0),(qI 0),(qI 0),.aK,(.sl 3 9 0 0 0 4),.aK,ND,Lx,(qI 1000),(qI 500),(qI 0),Ua,R6,(.bool false),(.sl 3 14 0 0 0 4),(qI 1)]
def b39:aE:=.cells 0 [(qI 2),(qI 1),(qI 1),(qI 4),Hx,(qI 1000),(qI 0),(qI 800),.aK,(.sl 3 9 0 0 0 4),.aK,ND,Lx,(qI 1000),(qI 500),(qI 0),Ua,R6,(.bool true),(.sl 3 14 0 0 0 4),(qI 2)]
def b40:aE:=.cells 0 [(qI 2),(qI 1),(qI 1),(qI 4),Hx,(qI 1000),(qI 0),(qI 800),.aK,(.sl 3 9 1 0 1 4),.aK,ND,Lx,(qI 1000),(qI 500),(qI 0),Ua,R6,(.bool true),(.sl 3 14 1 0 1 4),(qI 3)]
def b41:aE:=.cells 0 [(qI 2),(qI 1),(qI 1),(qI 4),Hx,(qI 1000),(qI 0),(qI 800),.aK,Lz,.aK,ND,Lx,(qI 1000),(qI 500),(qI 0),Ua,R6,(.bool true),Lw,(qI 4)]
def RO:aE:=.cells 2 [(.str [97]),dq3,(.bool true),(qI 0),(.str [98]),dq5,(.bool false),(qI 5)]
def RP:aE:=.cells 2 [(qI 0),(qI 0),(qI 0),(qI 0),(qI 5),(qI 500),(qI 390),(qI 410)]
def b44:aE:=.cells 0 [(qI 2),(qI 1),(qI 1),(qI 4),Hx,(qI 1000),(qI 0),(qI 800),.aK,Lz,.aK,ND,Lx,(qI 1000),(qI 500),(qI 0),Ua,R6,(.bool true),Lw,(qI 5)]
def b45:aE:=.cells 0 [(qI 2),(qI 1),(qI 1),(qI 4),Hx,(qI 1000),(qI 0),(qI 800),.aK,Lz,.aK,R4,Lx,(qI 1000),(qI 500),(qI 0),Ua,R6,(.bool true),Lw,(qI 6)]
def b46:aE:=.cells 0 [(qI 2),(qI 1),(qI 1),(qI 4),Hx,(qI 1000),(qI 0),(qI 800),.aK,Lz,.aK,R4,(.sl 3 11 1 0 1 2),(qI 1000),(qI 500),(qI 0),Ua,R6,(.bool true),Lw,(qI 7)]
def b47:aE:=.cells 0 [(qI 2),(qI 1),(qI 1),(qI 4),Hx,(qI 1000),(qI 0),(qI 800),.aK,Lz,.aK,R4,(.sl 3 11 1 0 1 2),(qI 1000),(qI 500),(qI 0),Ua,R6,(.bool true),Lw,(qI 8)]
def b48:aE:=.cells 9 [(qI 0),(qI 0),(qI 0),(qI 0),(qI 0),(qI 0),(qI 0),(qI 0),(qI 1)]
def b49:aE:=.cells 0 [(qI 2),(qI 1),(qI 1),(qI 4),Hx,(qI 1000),(qI 0),(qI 800),.aK,Lz,.aK,R4,(.sl 3 11 1 0 1 2),(qI 1000),(qI 500),(qI 0),Ua,R6,(.bool true),Lw,(qI 9)]
def b50:aE:=.cells 10 [(qI 0),(qI 0),(qI 0),(qI 0),(qI 0),(qI 0),(qI 0),(qI 0),(qI 1),(qI 1)]
def b51:aE:=.cells 0 [(qI 2),(qI 1),(qI 1),(qI 4),Hx,(qI 1000),(qI 0),(qI 800),.aK,Lz,.aK,R4,(.sl 3 11 1 0 1 2),(qI 1000),(qI 500),(qI 0),(.sl 3 12 1 0 1 2),R6,(.bool true),Lw,(qI 10)]
def b52:aE:=.cells 11 [(qI 0),(qI 0),(qI 0),(qI 0),(qI 0),(qI 0),(qI 0),(qI 0),(qI 1),(qI 1),(qI 0)]
def b53:aE:=.cells 0 [(qI 2),(qI 1),(qI 1),(qI 4),Hx,(qI 1000),(qI 0),(qI 800),.aK,Lz,.aK,R4,(.sl 3 11 1 0 1 2),(qI 1000),(qI 500),(qI 0),(.sl 3 12 1 0 1 2),R6,(.bool true),Lw,(qI 11)]
def s0(F G:List aE):SK:=[[c8,c8,c8,c8,c8,c8,b0,c8],[],F,G]
def s1(F G:List aE):SK:=[[c8,c8,c8,c8,c8,c8,b1,c8],[],F,G]
def s2(F G:List aE):SK:=[[c8,c8,c8,c8,c8,c8,b1,.cells 1 [(qI 0)]],[],F,G]
def s3(F G:List aE):SK:=[[c8,c8,c8,c8,c8,c8,b2,.cells 1 [(qI 0)]],[],F,G]
def s4(F G:List aE):SK:=[[c8,c8,c8,c8,c8,c8,b2,.cells 2 [(qI 0),(qI 0)]],[],F,G]
def s5(F G:List aE):SK:=[[c8,c8,c8,c8,c8,c8,b3,.cells 2 [(qI 0),(qI 0)]],[],F,G]
def s6(F G:List aE):SK:=[[c8,c8,c8,c8,c8,c8,b3,b4],[],F,G]
def s7(F G:List aE):SK:=[[c8,c8,c8,c8,c8,c8,b5,b4],[],F,G]
def s8(F G:List aE):SK:=[[c8,c8,c8,c8,c8,c8,b5,b6],[],F,G]
def s9(F G:List aE):SK:=[[b7,c8,c8,c8,c8,b8,b9,b6],[],F,G]
def s10(F G:List aE):SK:=[[b7,c8,c8,c8,c8,b8,b9,b10],[],F,G]
def s11(F G:List aE):SK:=[[b11,c8,c8,c8,c8,b12,b13,b10],[],F,G]
def s12(F G:List aE):SK:=[[b11,c8,c8,c8,c8,b12,b13,b14],[],F,G]
def s13(F G:List aE):SK:=[[AT,c8,c8,c8,c8,AU,b17,b14],[],F,G]
def s14(F G:List aE):SK:=[[AT,c8,c8,c8,c8,AU,b17,b18],[],F,G]
def s15(F G:List aE):SK:=[[AT,xS,c8,c8,c8,AU,b20,b18],[],F,G]
def s16(F G:List aE):SK:=[[AT,xS,c8,c8,c8,AU,b20,b21],[],F,G]
def s17(F G:List aE):SK:=[[AT,xS,ze,c8,c8,AU,b23,b21],[],F,G]
def s18(F G:List aE):SK:=[[AT,xS,ze,c8,c8,AU,b23,b24],[],F,G]
def s19(F G:List aE):SK:=[[AT,xS,ze,c8,c8,AU,b25,b24],[],F,G]
def s20(F G:List aE):SK:=[[AT,xS,ze,c8,c8,AU,b25,b26],[],F,G]
def s21(F G:List aE):SK:=[[AT,xS,ze,c8,c8,AU,b27,b26],[],F,G]
def s22(F G:List aE):SK:=[[AT,xS,ze,c8,c8,AU,b27,b28],[],F,G]
def s23(F G:List aE):SK:=[[AT,xS,ze,DE,c8,AU,b30,b28],[],F,G]
def s24(F G:List aE):SK:=[[AT,xS,ze,DE,c8,AU,b30,b31],[],F,G]
def s25(F G:List aE):SK:=[[AT,xS,ze,DE,Gm,AU,Gn,b31],[],F,G]
def s26(F G:List aE):SK:=[[AT,xS,ze,DE,Gm,AU,Gn,Gx,Gy,c8,c8,c8,c8,c8,c8,b36,c8],[],F,G]
def s27(F G:List aE):SK:=[[AT,xS,ze,DE,Gm,AU,Gn,Gx,Gy,c8,c8,c8,c8,c8,c8,b37,c8],[],F,G]
def s28(F G:List aE):SK:=[[AT,xS,ze,DE,Gm,AU,Gn,Gx,Gy,c8,c8,c8,c8,c8,c8,b37,.cells 1 [(qI 0)]],[],F,G]
def s29(F G:List aE):SK:=[[AT,xS,ze,DE,Gm,AU,Gn,Gx,Gy,c8,c8,c8,c8,c8,c8,b38,.cells 1 [(qI 0)]],[],F,G]
def s30(F G:List aE):SK:=[[AT,xS,ze,DE,Gm,AU,Gn,Gx,Gy,c8,c8,c8,c8,c8,c8,b38,.cells 2 [(qI 0),(qI 0)]],[],F,G]
def s31(F G:List aE):SK:=[[AT,xS,ze,DE,Gm,AU,Gn,Gx,Gy,c8,c8,c8,c8,c8,c8,b39,.cells 2 [(qI 0),(qI 0)]],[],F,G]
def s32(F G:List aE):SK:=[[AT,xS,ze,DE,Gm,AU,Gn,Gx,Gy,c8,c8,c8,c8,c8,c8,b39,b4],[],F,G]
def s33(F G:List aE):SK:=[[AT,xS,ze,DE,Gm,AU,Gn,Gx,Gy,b7,c8,c8,c8,c8,b8,b40,b4],[],F,G]
def s34(F G:List aE):SK:=[[AT,xS,ze,DE,Gm,AU,Gn,Gx,Gy,b7,c8,c8,c8,c8,b8,b40,b6],[],F,G]
def s35(F G:List aE):SK:=[[AT,xS,ze,DE,Gm,AU,Gn,Gx,Gy,b11,c8,c8,c8,c8,b12,b41,b6],[],F,G]
def s36(F G:List aE):SK:=[[AT,xS,ze,DE,Gm,AU,Gn,Gx,Gy,b11,c8,c8,c8,c8,b12,b41,b10],[],F,G]
def s37(F G:List aE):SK:=[[AT,xS,ze,DE,Gm,AU,Gn,Gx,Gy,RO,c8,c8,c8,c8,RP,b44,b10],[],F,G]
def s38(F G:List aE):SK:=[[AT,xS,ze,DE,Gm,AU,Gn,Gx,Gy,RO,c8,c8,c8,c8,RP,b44,b14],[],F,G]
def s39(F G:List aE):SK:=[[AT,xS,ze,DE,Gm,AU,Gn,Gx,Gy,RO,xS,c8,c8,c8,RP,b45,b14],[],F,G]
def s40(F G:List aE):SK:=[[AT,xS,ze,DE,Gm,AU,Gn,Gx,Gy,RO,xS,c8,c8,c8,RP,b45,b18],[],F,G]
def s41(F G:List aE):SK:=[[AT,xS,ze,DE,Gm,AU,Gn,Gx,Gy,RO,xS,ze,c8,c8,RP,b46,b18],[],F,G]
def s42(F G:List aE):SK:=[[AT,xS,ze,DE,Gm,AU,Gn,Gx,Gy,RO,xS,ze,c8,c8,RP,b46,b21],[],F,G]
def s43(F G:List aE):SK:=[[AT,xS,ze,DE,Gm,AU,Gn,Gx,Gy,RO,xS,ze,c8,c8,RP,b47,b21],[],F,G]
def s44(F G:List aE):SK:=[[AT,xS,ze,DE,Gm,AU,Gn,Gx,Gy,RO,xS,ze,c8,c8,RP,b47,b48],[],F,G]
def s45(F G:List aE):SK:=[[AT,xS,ze,DE,Gm,AU,Gn,Gx,Gy,RO,xS,ze,c8,c8,RP,b49,b48],[],F,G]
def s46(F G:List aE):SK:=[[AT,xS,ze,DE,Gm,AU,Gn,Gx,Gy,RO,xS,ze,c8,c8,RP,b49,b50],[],F,G]
def s47(F G:List aE):SK:=[[AT,xS,ze,DE,Gm,AU,Gn,Gx,Gy,RO,xS,ze,DE,c8,RP,b51,b50],[],F,G]
def s48(F G:List aE):SK:=[[AT,xS,ze,DE,Gm,AU,Gn,Gx,Gy,RO,xS,ze,DE,c8,RP,b51,b52],[],F,G]
def s49(F G:List aE):SK:=[[AT,xS,ze,DE,Gm,AU,Gn,Gx,Gy,RO,xS,ze,DE,c8,RP,b53,b52],[],F,G]
def wm0(F G:List aE):q7:=⟨aJ,[(.ref 3 6 0 0),(qI 0),(.str [102,105,101,108,100,32,50,32,49,32,49,32,52])],s0 F G,(qI 0),s1 F G⟩
def wm1(F G:List aE):q7:=⟨aJ,[(.ref 3 6 0 0),(qI 1),(.str [116,97,98,108,101,32,49,48,48,32,49,48,49,32,52,49,57,32,50,54,55,54,32,49,53,48,32,49,53,48,32,52,55,54,32,54,51,50,32,50,55,52,54,32,51,48,48,32,50,48,48,32,49,53,53,53,32,56,53,50,32,50,55,57,51,32,54,48,48])],s2 F G,(qI 0),s3 F G⟩
def wm2(F G:List aE):q7:=⟨aJ,[(.ref 3 6 0 0),(qI 2),(.str [98,101,100,32,49,48,48,48,32,48,32,56,48,48])],s4 F G,(qI 0),s5 F G⟩
def wm3(F G:List aE):q7:=⟨aJ,[(.ref 3 6 0 0),(qI 3),(.str [119,101,108,108,32,48,32,53,48,48,32,53])],s6 F G,(qI 0),s7 F G⟩
def wm4(F G:List aE):q7:=⟨aJ,[(.ref 3 6 0 0),(qI 4),(.str [109,111,100,101,108,32,97,32,56,48,48,48,32,56,48,48,48,32,53,48,48,32,52,48,48,32,57,48,48,32,52,48,48,32,48,32,49,48])],s8 F G,(qI 0),s9 F G⟩
def wm5(F G:List aE):q7:=⟨aJ,[(.ref 3 6 0 0),(qI 5),(.str [109,111,100,101,108,32,98,32,56,48,48,48,32,56,48,48,48,32,53,48,48,32,52,48,48,32,57,48,48,32,53,48,48,32,48,32,49,48])],s10 F G,(qI 0),s11 F G⟩
def wm6(F G:List aE):q7:=⟨aJ,[(.ref 3 6 0 0),(qI 6),(.str [108,111,103,32,116,49,32,50,32,51,57,48,32,52,49,48,32,49,32,49])],s12 F G,(qI 0),s13 F G⟩
def wm7(F G:List aE):q7:=⟨aJ,[(.ref 3 6 0 0),(qI 7),(.str [114,117,108,101,32,48,32,48,32,48,32,57,32,57,32,57,32,50,48,32,53,32,49,32,49])],s14 F G,(qI 0),s15 F G⟩
def wm8(F G:List aE):q7:=⟨aJ,[(.ref 3 6 0 0),(qI 8),(.str [113,117,97,107,101,32,49,32,49,32,49,32,50,53])],s16 F G,(qI 0),s17 F G⟩
def wm9(F G:List aE):q7:=⟨aJ,[(.ref 3 6 0 0),(qI 9),(.str [116,105,99,107,32,45,49,48,48])],s18 F G,(qI 0),s19 F G⟩
def awL(F G:List aE):q7:=⟨aJ,[(.ref 3 6 0 0),(qI 10),(.str [116,105,99,107,32,53,48])],s20 F G,(qI 0),s21 F G⟩
def awM(F G:List aE):q7:=⟨aJ,[(.ref 3 6 0 0),(qI 11),(.str [117,110,105,116,32,48,32,49,48,48,32,52,48,48])],s22 F G,(qI 0),s23 F G⟩
def awN(F G:List aE):q7:=⟨aJ,[(.ref 3 6 0 0),(qI 12),(.str [115,101,108,108,32,48,32,48,32,48,32,51])],s24 F G,(qI 0),s25 F G⟩
def awO(F G:List aE):q7:=⟨aJ,[(.ref 3 15 0 0),(qI 0),(.str [102,105,101,108,100,32,50,32,49,32,49,32,52])],s26 F G,(qI 0),s27 F G⟩
def awP(F G:List aE):q7:=⟨aJ,[(.ref 3 15 0 0),(qI 1),(.str [116,97,98,108,101,32,49,48,48,32,49,48,49,32,52,49,57,32,50,54,55,54,32,49,53,48,32,49,53,48,32,52,55,54,32,54,51,50,32,50,55,52,54,32,51,48,48,32,50,48,48,32,49,53,53,53,32,56,53,50,32,50,55,57,51,32,54,48,48])],s28 F G,(qI 0),s29 F G⟩
def awQ(F G:List aE):q7:=⟨aJ,[(.ref 3 15 0 0),(qI 2),(.str [98,101,100,32,49,48,48,48,32,48,32,56,48,48])],s30 F G,(qI 0),s31 F G⟩
def awR(F G:List aE):q7:=⟨aJ,[(.ref 3 15 0 0),(qI 3),(.str [109,111,100,101,108,32,97,32,56,48,48,48,32,56,48,48,48,32,53,48,48,32,52,48,48,32,57,48,48,32,52,48,48,32,48,32,49,48])],s32 F G,(qI 0),s33 F G⟩
def awS(F G:List aE):q7:=⟨aJ,[(.ref 3 15 0 0),(qI 4),(.str [109,111,100,101,108,32,98,32,56,48,48,48,32,56,48,48,48,32,53,48,48,32,52,48,48,32,57,48,48,32,53,48,48,32,48,32,49,48])],s34 F G,(qI 0),s35 F G⟩
def awT(F G:List aE):q7:=⟨aJ,[(.ref 3 15 0 0),(qI 5),(.str [108,111,103,32,116,49,32,50,32,51,57,48,32,52,49,48,32,49,32,49])],s36 F G,(qI 0),s37 F G⟩
def awU(F G:List aE):q7:=⟨aJ,[(.ref 3 15 0 0),(qI 6),(.str [114,117,108,101,32,48,32,48,32,48,32,57,32,57,32,57,32,50,48,32,53,32,49,32,49])],s38 F G,(qI 0),s39 F G⟩
def awV(F G:List aE):q7:=⟨aJ,[(.ref 3 15 0 0),(qI 7),(.str [113,117,97,107,101,32,49,32,49,32,49,32,50,53])],s40 F G,(qI 0),s41 F G⟩
def awW(F G:List aE):q7:=⟨aJ,[(.ref 3 15 0 0),(qI 8),(.str [116,105,99,107,32,45,49,48,48])],s42 F G,(qI 1),s43 F G⟩
def awX(F G:List aE):q7:=⟨aJ,[(.ref 3 15 0 0),(qI 9),(.str [116,105,99,107,32,53,48])],s44 F G,(qI 1),s45 F G⟩
def awY(F G:List aE):q7:=⟨aJ,[(.ref 3 15 0 0),(qI 10),(.str [117,110,105,116,32,48,32,49,48,48,32,52,48,48])],s46 F G,(qI 0),s47 F G⟩
def awZ(F G:List aE):q7:=⟨aJ,[(.ref 3 15 0 0),(qI 11),(.str [115,101,108,108,32,48,32,48,32,48,32,51])],s48 F G,(qI 8),s49 F G⟩
end Go.Proofs.YtfgljaglidhjiaaGreatDoor
set_option maxRecDepth 1000000
namespace Go.Proofs.YtfgljaglidhjiaaGreatDoor
open List(length_flatMap map_take)
open Go Go.Abs
theorem wk0:(wm0 [] []).Ok T:=dH.2 ⟨300,by kernel_rfl⟩
theorem wk5:(wm5 [] []).Ok T:=dH.2 ⟨300,by kernel_rfl⟩
theorem ayX:(awL [] []).Ok T:=dH.2 ⟨300,by kernel_rfl⟩
theorem ay2:(awQ [] []).Ok T:=dH.2 ⟨300,by kernel_rfl⟩
theorem ay7:(awV [] []).Ok T:=dH.2 ⟨300,by kernel_rfl⟩
end Go.Proofs.YtfgljaglidhjiaaGreatDoor
set_option maxRecDepth 1000000
namespace Go.Proofs.YtfgljaglidhjiaaGreatDoor
open List(length_flatMap map_take)
open Go Go.Abs
theorem wk1:(wm1 [] []).Ok T:=dH.2 ⟨300,by kernel_rfl⟩
theorem wk6:(wm6 [] []).Ok T:=dH.2 ⟨300,by kernel_rfl⟩
theorem ayY:(awM [] []).Ok T:=dH.2 ⟨300,by kernel_rfl⟩
theorem ay3:(awR [] []).Ok T:=dH.2 ⟨300,by kernel_rfl⟩
theorem ay8:(awW [] []).Ok T:=dH.2 ⟨300,by kernel_rfl⟩
end Go.Proofs.YtfgljaglidhjiaaGreatDoor
set_option maxRecDepth 1000000
namespace Go.Proofs.YtfgljaglidhjiaaGreatDoor
open List(length_flatMap map_take)
open Go Go.Abs
theorem wk2:(wm2 [] []).Ok T:=dH.2 ⟨300,by kernel_rfl⟩
theorem wk7:(wm7 [] []).Ok T:=dH.2 ⟨300,by kernel_rfl⟩
theorem ayZ:(awN [] []).Ok T:=dH.2 ⟨300,by kernel_rfl⟩
theorem ay4:(awS [] []).Ok T:=dH.2 ⟨300,by kernel_rfl⟩
theorem ay9:(awX [] []).Ok T:=dH.2 ⟨300,by kernel_rfl⟩
end Go.Proofs.YtfgljaglidhjiaaGreatDoor
set_option maxRecDepth 1000000
namespace Go.Proofs.YtfgljaglidhjiaaGreatDoor
open List(length_flatMap map_take)
open Go Go.Abs
theorem wk3:(wm3 [] []).Ok T:=dH.2 ⟨300,by kernel_rfl⟩
theorem wk8:(wm8 [] []).Ok T:=dH.2 ⟨300,by kernel_rfl⟩
theorem ay0:(awO [] []).Ok T:=dH.2 ⟨300,by kernel_rfl⟩
theorem ay5:(awT [] []).Ok T:=dH.2 ⟨300,by kernel_rfl⟩
theorem aza:(awY [] []).Ok T:=dH.2 ⟨300,by kernel_rfl⟩
end Go.Proofs.YtfgljaglidhjiaaGreatDoor
set_option maxRecDepth 1000000
namespace Go.Proofs.YtfgljaglidhjiaaGreatDoor
open List(length_flatMap map_take)
open Go Go.Abs
theorem wk4:(wm4 [] []).Ok T:=dH.2 ⟨300,by kernel_rfl⟩
theorem wk9:(wm9 [] []).Ok T:=dH.2 ⟨300,by kernel_rfl⟩
theorem ay1:(awP [] []).Ok T:=dH.2 ⟨300,by kernel_rfl⟩
theorem ay6:(awU [] []).Ok T:=dH.2 ⟨300,by kernel_rfl⟩
theorem azb:(awZ [] []).Ok T:=dH.2 ⟨300,by kernel_rfl⟩
end Go.Proofs.YtfgljaglidhjiaaGreatDoor
set_option maxRecDepth 1000000
namespace Go.Proofs.YtfgljaglidhjiaaGreatDoor
open List(length_flatMap map_take)
section
open Go Go.Abs
def arp:List q7:=[wm0 [] [],wm1 [] [],wm2 [] [],wm3 [] [],wm4 [] [],wm5 [] [],wm6 [] [],wm7 [] [],wm8 [] [],wm9 [] [],awL [] [],awM [] [],awN [] [],awO [] [],awP [] [],awQ [] [],awR [] [],awS [] [],awT [] [],awU [] [],awV [] [],awW [] [],awX [] [],awY [] [],awZ [] []]
theorem ag8:∀m∈arp,m.Ok T:=by
 simp only[arp,bd,List.not_mem_nil,or_false,forall_eq_or_imp,forall_eq];exact⟨wk0,wk1,wk2,wk3,wk4,wk5,wk6,wk7,wk8,wk9,ayX,ayY,ayZ,ay0,ay1,ay2,ay3,ay4,ay5,ay6,ay7,ay8,ay9,aza,azb⟩
theorem aeD:itM T arp 120 (.call false qU [] [[],[]])=some (.val (.bool true) [[],[]]):=by kernel_rfl
theorem afV:lim T (.call false qU [] [[],[]])=some (.val (.bool true) [[],[]]):=QK ag8 aeD
end
section
open Go Go.Abs Go.Rock Go.Book
variable {σ:SK}
theorem anM{l:List (List UInt8)}{r:List Int}(h:HO l):HO (pO l r):=⟨iF JU h.1,fun s hs=>h.2 s (JV hs)⟩
theorem afu(l:List (List UInt8))(k:Nat):(l.flatMap cc).take k=(l.take k).flatMap cc:=by rw[← yE,← yE,List.map_take]
end
section
open Go Go.Abs Go.Book
theorem ahs{α:Type}{T:Ty}{w:Nat}{f:α→List D}{Q:α→Prop}(h:∀ds,T.has ds→∃a,ds=f a∧Q a){d:D}(hd:(Ty.slice w T).has [d]):
  ∃l:List α,d=.aH l.length (l.flatMap f)∧l.length≤maxLen∧∀a∈l,Q a:=by
 simp only[Ty.has,gO,and_true]at hd;obtain⟨xs,rfl,hl,hx⟩:=hd;have key:∀xs:List (List D),(∀x∈xs,x.length=w∧T.has x)→∃l:List α,xs.flatten=l.flatMap f∧l.length=xs.length∧∀a∈l,Q a:=by
  intro xs;induction xs with
  |nil=>intro _;exact⟨[],rfl,rfl,by simp⟩
  |cons x xs ih =>
   intro hx;obtain⟨l,h1,h2,h3⟩:=ih fun y hy=>hx y (by simp[hy])
   obtain⟨a,rfl,ha⟩:=h x (hx x (by simp)).2;exact⟨a::l,by simp[h1],by simp[h2],fun b hb=>by
    rcases bd.1 hb with rfl | hb
    ·exact ha
    ·exact h3 b hb⟩
 obtain⟨l,h1,h2,h3⟩:=key xs hx;exact⟨l,by rw[h1,h2],by omega,h3⟩
theorem ahF{ds:List D}(h:Ty.str.has ds):∃s:List UInt8,ds=cc s∧s.length≤maxLen:=h
end
section
open Go Go.Abs Go.Rock Go.Book
variable {σ:SK}
set_option maxRecDepth 100000 in
set_option maxHeartbeats 4000000 in
theorem NQ{l:List (List UInt8)}{a:Nat}(hl:l.length≤9223372036854775807)(ha:a≤65535):
  lim T (.call false jy [.aH l.length (l.flatMap cc),.int .u16 a] [[]])=some (.val (.bool true) [[]]):=by
 obtain⟨v,hF,hv⟩:=ats (l:=l) (by omega) [[],[]];have hA:=afV;refine aw AN mE.eq_1 rfl ?_;cases v
 ·simp[-length_flatMap,-map_take,hF,hA]
 have hl:l.length≤1000000000:=by have:=hv rfl;omega
 have hR:=RG (σ:=[[],[]]) (l:=l) hl;cases hok:okB l
 ·rw[hok]at hR;simp[-length_flatMap,-map_take,hF,hR,hA]
 rw[hok]at hR;have hk:=En.1 hok;have hlen:=hk.1;have hL:=fun S hS=>Nd (σ:=S) (l:=l) hl hS
 have hAcc:=fun S hS=>M4 (σ:=S) hk hS
 have hrest:=fun n=>agT (l:=l) (n:=n)
 have hall:=arj (l:=l);have hqk:HO (pO l (oW l).2):=anM hk;generalize pO l (oW l).2=q at hAcc hrest hall hqk;have hL2:=fun S hS=>Nd (σ:=S) (l:=q) (by have:=hqk.1;omega) hS
 have hW:=fun S hS=>afT (σ:=S) (l:=q) (by have:=hqk.1;omega) hS
 rw[En.2 hqk]at hW;have hr0:eH 100 []=[]:=rfl;have hRs:=fun S hS=>KT (σ:=S) (lines:=l) (b:=[]) (d:=.aK) (.inr ⟨rfl,rfl⟩) (by simp) hk (by rw[hr0];simpa using hlen) hS
 rw[hr0,show(oW []).1=o6 from rfl,hall]at hRs;obtain⟨bk,hbk⟩:∃b,b=du q:=⟨_,rfl⟩;have hbl:bk.length≤1000000:=by
  have h1:=Lk hqk.2;have:=hqk.1;rw[hbk];omega
 obtain⟨k,hkk⟩:∃k,k=a%(bk.length+1):=⟨_,rfl⟩;have hkl:k≤bk.length:=by rw[hkk];have:=Nat.mod_lt a (show 0<bk.length+1 by omega);omega
 obtain⟨n,hnq,hcut⟩:=Lu (q:=q) (m:=100) (cut:=k) hqk.1 hqk.2;rw[← hbk]at hW hRs hcut;have htl:(bk.take k).length=k:=by simp;omega
 have hRec:=fun S hS=>Rt (σ:=S) (b:=bk.take k) (by omega) hS
 have hdl:(q.drop n).length=q.length-n:=by simp
 have hntl:(q.take n).length=n:=by simp;omega
 have hdk:HO (q.drop n):=⟨by have:=hqk.1;omega,fun s hs=>hqk.2 s (dp hs)⟩;have hL3:=fun S hS=>Nd (σ:=S) (l:=q.drop n) (by have:=hqk.1;omega) hS
 have hRs2:=fun S hS=>KT (σ:=S) (lines:=q.drop n) (b:=bk.take k) (.inl rfl) (by omega) hdk (by rw[hcut,hntl,hdl];have:=hqk.1;omega) hS
 rw[hcut]at hRec;rw[hcut,hrest n,← hbk,htl,hdl]at hRs2;rw[htl,hntl]at hRec;rw[hdl]at hL3;have w1:IntKind.i64.wrap (a:Int)=a:=fN (by omega);have w2:IntKind.i64.wrap ((bk.length:Int)+1)=((bk.length+1:Nat):Int):=(fN (by omega)).trans (by omega);have w3:(a:Int).tmod ((bk.length+1:Nat):Int)=(k:Int):=by rw[Int.tmod_eq_emod_of_nonneg (by omega),hkk];omega
 have w4:IntKind.i64.wrap (k:Int)=k:=fN (by omega);have w5:¬(bk.length:Int)+1=0:=by omega
 have w6:(a:Int).tmod ((bk.length:Int)+1)=(k:Int):=by rw[← w3];rfl
 have k1:(k:Int)≤(bk.length:Int):=by omega
 have k2:¬(q.length:Int)<(n:Int):=by omega
 have s1:(q.flatMap cc).drop n=(q.drop n).flatMap cc:=by rw[← yE,← yE,List.map_drop]
 have s2:((q.drop n).flatMap cc).take (q.length-n)=(q.drop n).flatMap cc:=by rw[afu,ai (by omega)]
 have hrm:k≤room:=by unfold room;omega
 simp[-length_flatMap,-map_take,hkl,hnq,hrm,s1,s2,hF,hR,hL,hAcc,hL2,hW,hRs,hRec,hL3,hRs2,w1,w2,w3,w4,w5,w6,k1,k2,hA,NX,EH,Hl,EZ,J2]
theorem ahQ{d:D}(h:(Ty.int .u16).agW d):∃n:Nat,d=.int .u16 n∧n≤65535:=by
 obtain⟨n,h,hw⟩:=h;cases h;simp only[Lit.wf,af,au]at hw;have hw:0≤n∧n≤65535:=hw;exact⟨n.toNat,by rw[eP hw.1],by omega⟩
theorem Ff(x0 x1:D)(t0:(Ty.slice 1 .str).agW x0)(t1:(Ty.int .u16).agW x1):∃σ',lim T (.call false jy [x0,x1] [[]])=some (.val (.bool true) σ'):=by
 obtain⟨l,rfl,hl,_⟩:=ahs (fun ds h=>ahF h) t0;obtain⟨a,rfl,ha⟩:=ahQ t1;have hm:maxLen≤9223372036854775807:=by decide
 exact⟨_,NQ (by omega) ha⟩
end
end Go.Proofs.YtfgljaglidhjiaaGreatDoor
