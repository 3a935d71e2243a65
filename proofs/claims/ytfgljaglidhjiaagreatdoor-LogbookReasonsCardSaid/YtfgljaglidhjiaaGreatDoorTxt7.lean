import Derived.Test.YtfgljaglidhjiaaGreatDoorBase20
import Derived.Test.YtfgljaglidhjiaaGreatDoorTab
import Derived.ProofKit
import Derived.Test.YtfgljaglidhjiaaGreatDoorTxt6
import Derived.Test.YtfgljaglidhjiaaGreatDoorBase14
set_option linter.all false
set_option maxRecDepth 1000000
namespace Go.Proofs.YtfgljaglidhjiaaGreatDoor
open List(length_flatMap map_take)
open Go Go.Abs
def qI(n:Int):D:=.int .i64 n
def Hc:D:=(.aI 3 [(qI 100),(qI 101),(qI 419),(qI 2676),(qI 150),(qI 150),(qI 476),(qI 632),(qI 2746),(qI 300),(qI 200),(qI 1555),(qI 852),(qI 2793),(qI 600)])
def cX:aE:=.cells 0 []
def dq2:D:=(.aI 1 [(qI 0),(qI 500),(qI 5)])
def dq3:D:=(.aI 8 [(qI 8000),(qI 8000),(qI 500),(qI 400),(qI 900),(qI 400),(qI 0),(qI 10)])
def Ri:D:=(.sl 3 13 0 0 0 6)
def dq5:D:=(.aI 8 [(qI 8000),(qI 8000),(qI 500),(qI 400),(qI 900),(qI 500),(qI 0),(qI 10)])
def Rj:D:=(.sl 3 4 0 0 0 6)
def Se:D:=(.sl 3 3 0 0 0 2)
def TB:D:=(.sl 3 12 0 0 0 2)
def dq9:D:=(.sl 3 2 0 0 0 2)
def K6:D:=(.sl 3 14 2 0 2 4)
def K7:D:=(.sl 3 11 0 0 0 2)
def K8:D:=(.sl 3 1 0 0 0 10)
def anV:D:=(.aI 2 [(.aI 1 [(qI (-50))]),(.aI 1 [(qI 50)])])
def K9:D:=(.sl 3 9 2 0 2 4)
def La:D:=(.sl 3 5 2 0 2 4)
def Lb:D:=(.sl 3 0 2 0 2 4)
def M4:D:=(.sl 3 10 0 0 0 10)
def Rf:D:=(.sl 3 10 1 0 1 10)
def Rh:D:=(.sl 3 1 1 0 1 10)
def b0:aE:=.cells 0 [(qI 0),(qI 0),(qI 0),(qI 0),.aG,(qI 0),(qI 0),(qI 0),.aG,(.sl 3 0 0 0 0 4),.aG,K8,dq9,(qI 1000),(qI 500),(qI 0),Se,Rj,(.bool false),(.sl 3 5 0 0 0 4),(qI 0)]
def b1:aE:=.cells 0 [(qI 2),(qI 1),(qI 1),(qI 4),.aG,(qI 0),(qI 0),(qI 0),.aG,(.sl 3 0 0 0 0 4),.aG,K8,dq9,(qI 1000),(qI 500),(qI 0),Se,Rj,(.bool false),(.sl 3 5 0 0 0 4),(qI 0)]
def b2:aE:=.cells 0 [(qI 2),(qI 1),(qI 1),(qI 4),Hc,(qI 0),(qI 0),(qI 0),.aG,(.sl 3 0 0 0 0 4),.aG,K8,dq9,(qI 1000),(qI 500),(qI 0),Se,Rj,(.bool false),(.sl 3 5 0 0 0 4),(qI 1)]
def b3:aE:=.cells 0 [(qI 2),(qI 1),(qI 1),(qI 4),Hc,(qI 1000),(qI 0),(qI 800),.aG,(.sl 3 0 0 0 0 4),.aG,K8,dq9,(qI 1000),(qI 500),(qI 0),Se,Rj,(.bool true),(.sl 3 5 0 0 0 4),(qI 2)]
def b4:aE:=.cells 3 [(qI 0),(qI 0),(qI 0)]
def b5:aE:=.cells 0 [(qI 2),(qI 1),(qI 1),(qI 4),Hc,(qI 1000),(qI 0),(qI 800),dq2,(.sl 3 0 0 0 0 4),.aG,K8,dq9,(qI 1000),(qI 500),(qI 0),Se,Rj,(.bool true),(.sl 3 5 0 0 0 4),(qI 3)]
def b6:aE:=.cells 4 [(qI 0),(qI 0),(qI 0),(qI 0)]
def b7:aE:=.cells 1 [(.str [97]),dq3,(.bool true),(qI 0)]
def b8:aE:=.cells 1 [(qI 0),(qI 0),(qI 0),(qI 0)]
def b9:aE:=.cells 0 [(qI 2),(qI 1),(qI 1),(qI 4),Hc,(qI 1000),(qI 0),(qI 800),dq2,(.sl 3 0 1 0 1 4),.aG,K8,dq9,(qI 1000),(qI 500),(qI 0),Se,Rj,(.bool true),(.sl 3 5 1 0 1 4),(qI 4)]
def b10:aE:=.cells 5 [(qI 0),(qI 0),(qI 0),(qI 0),(qI 0)]
def b11:aE:=.cells 2 [(.str [97]),dq3,(.bool true),(qI 0),(.str [98]),dq5,(.bool true),(qI 0)]
def b12:aE:=.cells 2 [(qI 0),(qI 0),(qI 0),(qI 0),(qI 0),(qI 0),(qI 0),(qI 0)]
def b13:aE:=.cells 0 [(qI 2),(qI 1),(qI 1),(qI 4),Hc,(qI 1000),(qI 0),(qI 800),dq2,Lb,.aG,K8,dq9,(qI 1000),(qI 500),(qI 0),Se,Rj,(.bool true),La,(qI 5)]
def b14:aE:=.cells 6 [(qI 0),(qI 0),(qI 0),(qI 0),(qI 0),(qI 0)]
def AQ:aE:=.cells 2 [(.str [97]),dq3,(.bool true),(qI 0),(.str [98]),dq5,(.bool false),(qI 6)]
def AR:aE:=.cells 2 [(qI 0),(qI 0),(qI 0),(qI 0),(qI 6),(qI 500),(qI 390),(qI 410)]
def b17:aE:=.cells 0 [(qI 2),(qI 1),(qI 1),(qI 4),Hc,(qI 1000),(qI 0),(qI 800),dq2,Lb,.aG,K8,dq9,(qI 1000),(qI 500),(qI 0),Se,Rj,(.bool true),La,(qI 6)]
def b18:aE:=.cells 7 [(qI 0),(qI 0),(qI 0),(qI 0),(qI 0),(qI 0),(qI 0)]
def xL:aE:=.cells 1 [(qI 0),(qI 0),(qI 0),(qI 9),(qI 9),(qI 9),(qI 20),(qI 5),(qI 1),(.int .u8 (1))]
def b20:aE:=.cells 0 [(qI 2),(qI 1),(qI 1),(qI 4),Hc,(qI 1000),(qI 0),(qI 800),dq2,Lb,.aG,Rh,dq9,(qI 1000),(qI 500),(qI 0),Se,Rj,(.bool true),La,(qI 7)]
def b21:aE:=.cells 8 [(qI 0),(qI 0),(qI 0),(qI 0),(qI 0),(qI 0),(qI 0),(qI 0)]
def y9:aE:=.cells 1 [(qI 0),(.aI 1 [(qI 1),(qI 1),(qI 1),(qI 25)])]
def b23:aE:=.cells 0 [(qI 2),(qI 1),(qI 1),(qI 4),Hc,(qI 1000),(qI 0),(qI 800),dq2,Lb,.aG,Rh,(.sl 3 2 1 0 1 2),(qI 1000),(qI 500),(qI 0),Se,Rj,(.bool true),La,(qI 8)]
def b24:aE:=.cells 9 [(qI 0),(qI 0),(qI 0),(qI 0),(qI 0),(qI 0),(qI 0),(qI 0),(qI 0)]
def b25:aE:=.cells 0 [(qI 2),(qI 1),(qI 1),(qI 4),Hc,(qI 1000),(qI 0),(qI 800),dq2,Lb,(.aI 1 [(.aI 1 [(qI (-50))])]),Rh,(.sl 3 2 1 0 1 2),(qI 1000),(qI 500),(qI 0),Se,Rj,(.bool true),La,(qI 9)]
def b26:aE:=.cells 10 [(qI 0),(qI 0),(qI 0),(qI 0),(qI 0),(qI 0),(qI 0),(qI 0),(qI 0),(qI 0)]
def b27:aE:=.cells 0 [(qI 2),(qI 1),(qI 1),(qI 4),Hc,(qI 1000),(qI 0),(qI 800),dq2,Lb,anV,Rh,(.sl 3 2 1 0 1 2),(qI 1000),(qI 500),(qI 0),Se,Rj,(.bool true),La,(qI 10)]
def b28:aE:=.cells 11 [(qI 0),(qI 0),(qI 0),(qI 0),(qI 0),(qI 0),(qI 0),(qI 0),(qI 0),(qI 0),(qI 0)]
def Dx:aE:=.cells 1 [(qI 0),(.aI 1 [(qI 100),(qI 400)])]
def b30:aE:=.cells 0 [(qI 2),(qI 1),(qI 1),(qI 4),Hc,(qI 1000),(qI 0),(qI 800),dq2,Lb,anV,Rh,(.sl 3 2 1 0 1 2),(qI 1000),(qI 500),(qI 0),(.sl 3 3 1 0 1 2),Rj,(.bool true),La,(qI 11)]
def b31:aE:=.cells 12 [(qI 0),(qI 0),(qI 0),(qI 0),(qI 0),(qI 0),(qI 0),(qI 0),(qI 0),(qI 0),(qI 0),(qI 0)]
def F3:aE:=.cells 1 [(qI 2),(qI 0),(qI 4000),(qI 4000),(qI 12000),(qI 12000)]
def F4:aE:=.cells 0 [(qI 2),(qI 1),(qI 1),(qI 4),Hc,(qI 1000),(qI 0),(qI 800),dq2,Lb,anV,Rh,(.sl 3 2 1 0 1 2),(qI 1000),(qI 500),(qI 0),(.sl 3 3 1 0 1 2),(.sl 3 4 1 0 1 6),(.bool true),La,(qI 12)]
def Gd:aE:=.cells 13 [(qI 0),(qI 0),(qI 0),(qI 0),(qI 0),(qI 0),(qI 0),(qI 0),(qI 0),(qI 0),(qI 0),(qI 0),(qI 0)]
def Ge:aE:=.cells 1 [(.str [102,105,101,108,100,32,50,32,49,32,49,32,52]),(.str [116,97,98,108,101,32,49,48,48,32,49,48,49,32,52,49,57,32,50,54,55,54,32,49,53,48,32,49,53,48,32,52,55,54,32,54,51,50,32,50,55,52,54,32,51,48,48,32,50,48,48,32,49,53,53,53,32,56,53,50,32,50,55,57,51,32,54,48,48]),(.str [98,101,100,32,49,48,48,48,32,48,32,56,48,48]),(.str [109,111,100,101,108,32,97,32,56,48,48,48,32,56,48,48,48,32,53,48,48,32,52,48,48,32,57,48,48,32,52,48,48,32,48,32,49,48]),(.str [109,111,100,101,108,32,98,32,56,48,48,48,32,56,48,48,48,32,53,48,48,32,52,48,48,32,57,48,48,32,53,48,48,32,48,32,49,48]),(.str [108,111,103,32,116,49,32,50,32,51,57,48,32,52,49,48,32,49,32,49]),(.str [114,117,108,101,32,48,32,48,32,48,32,57,32,57,32,57,32,50,48,32,53,32,49,32,49]),(.str [113,117,97,107,101,32,49,32,49,32,49,32,50,53]),(.str [116,105,99,107,32,45,49,48,48]),(.str [116,105,99,107,32,53,48]),(.str [117,110,105,116,32,48,32,49,48,48,32,52,48,48]),(.str [115,101,108,108,32,48,32,48,32,48,32,51]),(.str [])]
def b36:aE:=.cells 0 [(qI 0),(qI 0),(qI 0),(qI 0),.aG,(qI 0),(qI 0),(qI 0),.aG,(.sl 3 9 0 0 0 4),.aG,M4,K7,(qI 1000),(qI 500),(qI 0),TB,Ri,(.bool false),(.sl 3 14 0 0 0 4),(qI 0)]
def b37:aE:=.cells 0 [(qI 2),(qI 1),(qI 1),(qI 4),.aG,(qI 0),(qI 0),(qI 0),.aG,(.sl 3 9 0 0 0 4),.aG,M4,K7,(qI 1000),(qI 500),(qI 0),TB,Ri,(.bool false),(.sl 3 14 0 0 0 4),(qI 0)]
def b38:aE:=.cells 0 [(qI 2),(qI 1),(qI 1),(qI 4),Hc,(qI 0),(qI 0),(qI 0),.aG,(.sl 3 9 0 0 0 4),.aG,M4,K7,(qI 1000),(qI 500),(qI 0),TB,Ri,(.bool false),(.sl 3 14 0 0 0 4),(qI 1)]
def b39:aE:=.cells 0 [(qI 2),(qI 1),(qI 1),(qI 4),Hc,(qI 1000),(qI 0),(qI 800),.aG,(.sl 3 9 0 0 0 4),.aG,M4,K7,(qI 1000),(qI 500),(qI 0),TB,Ri,(.bool true),(.sl 3 14 0 0 0 4),(qI 2)]
def b40:aE:=.cells 0 [(qI 2),(qI 1),(qI 1),(qI 4),Hc,(qI 1000),(qI 0),(qI 800),.aG,(.sl 3 9 1 0 1 4),.aG,M4,K7,(qI 1000),(qI 500),(qI 0),TB,Ri,(.bool true),(.sl 3 14 1 0 1 4),(qI 3)]
def b41:aE:=.cells 0 [(qI 2),(qI 1),(qI 1),(qI 4),Hc,(qI 1000),(qI 0),(qI 800),.aG,K9,.aG,M4,K7,(qI 1000),(qI 500),(qI 0),TB,Ri,(.bool true),K6,(qI 4)]
def Q1:aE:=.cells 2 [(.str [97]),dq3,(.bool true),(qI 0),(.str [98]),dq5,(.bool false),(qI 5)]
def Q2:aE:=.cells 2 [(qI 0),(qI 0),(qI 0),(qI 0),(qI 5),(qI 500),(qI 390),(qI 410)]
def b44:aE:=.cells 0 [(qI 2),(qI 1),(qI 1),(qI 4),Hc,(qI 1000),(qI 0),(qI 800),.aG,K9,.aG,M4,K7,(qI 1000),(qI 500),(qI 0),TB,Ri,(.bool true),K6,(qI 5)]
def b45:aE:=.cells 0 [(qI 2),(qI 1),(qI 1),(qI 4),Hc,(qI 1000),(qI 0),(qI 800),.aG,K9,.aG,Rf,K7,(qI 1000),(qI 500),(qI 0),TB,Ri,(.bool true),K6,(qI 6)]
def b46:aE:=.cells 0 [(qI 2),(qI 1),(qI 1),(qI 4),Hc,(qI 1000),(qI 0),(qI 800),.aG,K9,.aG,Rf,(.sl 3 11 1 0 1 2),(qI 1000),(qI 500),(qI 0),TB,Ri,(.bool true),K6,(qI 7)]
def b47:aE:=.cells 0 [(qI 2),(qI 1),(qI 1),(qI 4),Hc,(qI 1000),(qI 0),(qI 800),.aG,K9,.aG,Rf,(.sl 3 11 1 0 1 2),(qI 1000),(qI 500),(qI 0),TB,Ri,(.bool true),K6,(qI 8)]
def b48:aE:=.cells 9 [(qI 0),(qI 0),(qI 0),(qI 0),(qI 0),(qI 0),(qI 0),(qI 0),(qI 1)]
def b49:aE:=.cells 0 [(qI 2),(qI 1),(qI 1),(qI 4),Hc,(qI 1000),(qI 0),(qI 800),.aG,K9,.aG,Rf,(.sl 3 11 1 0 1 2),(qI 1000),(qI 500),(qI 0),TB,Ri,(.bool true),K6,(qI 9)]
def b50:aE:=.cells 10 [(qI 0),(qI 0),(qI 0),(qI 0),(qI 0),(qI 0),(qI 0),(qI 0),(qI 1),(qI 1)]
def b51:aE:=.cells 0 [(qI 2),(qI 1),(qI 1),(qI 4),Hc,(qI 1000),(qI 0),(qI 800),.aG,K9,.aG,Rf,(.sl 3 11 1 0 1 2),(qI 1000),(qI 500),(qI 0),(.sl 3 12 1 0 1 2),Ri,(.bool true),K6,(qI 10)]
def b52:aE:=.cells 11 [(qI 0),(qI 0),(qI 0),(qI 0),(qI 0),(qI 0),(qI 0),(qI 0),(qI 1),(qI 1),(qI 0)]
def b53:aE:=.cells 0 [(qI 2),(qI 1),(qI 1),(qI 4),Hc,(qI 1000),(qI 0),(qI 800),.aG,K9,.aG,Rf,(.sl 3 11 1 0 1 2),(qI 1000),(qI 500),(qI 0),(.sl 3 12 1 0 1 2),Ri,(.bool true),K6,(qI 11)]
def s0(F G:List aE):SK:=[[cX,cX,cX,cX,cX,cX,b0,cX],[],F,G]
def s1(F G:List aE):SK:=[[cX,cX,cX,cX,cX,cX,b1,cX],[],F,G]
def s2(F G:List aE):SK:=[[cX,cX,cX,cX,cX,cX,b1,.cells 1 [(qI 0)]],[],F,G]
def s3(F G:List aE):SK:=[[cX,cX,cX,cX,cX,cX,b2,.cells 1 [(qI 0)]],[],F,G]
def s4(F G:List aE):SK:=[[cX,cX,cX,cX,cX,cX,b2,.cells 2 [(qI 0),(qI 0)]],[],F,G]
def s5(F G:List aE):SK:=[[cX,cX,cX,cX,cX,cX,b3,.cells 2 [(qI 0),(qI 0)]],[],F,G]
def s6(F G:List aE):SK:=[[cX,cX,cX,cX,cX,cX,b3,b4],[],F,G]
def s7(F G:List aE):SK:=[[cX,cX,cX,cX,cX,cX,b5,b4],[],F,G]
def s8(F G:List aE):SK:=[[cX,cX,cX,cX,cX,cX,b5,b6],[],F,G]
def s9(F G:List aE):SK:=[[b7,cX,cX,cX,cX,b8,b9,b6],[],F,G]
def s10(F G:List aE):SK:=[[b7,cX,cX,cX,cX,b8,b9,b10],[],F,G]
def s11(F G:List aE):SK:=[[b11,cX,cX,cX,cX,b12,b13,b10],[],F,G]
def s12(F G:List aE):SK:=[[b11,cX,cX,cX,cX,b12,b13,b14],[],F,G]
def s13(F G:List aE):SK:=[[AQ,cX,cX,cX,cX,AR,b17,b14],[],F,G]
def s14(F G:List aE):SK:=[[AQ,cX,cX,cX,cX,AR,b17,b18],[],F,G]
def s15(F G:List aE):SK:=[[AQ,xL,cX,cX,cX,AR,b20,b18],[],F,G]
def s16(F G:List aE):SK:=[[AQ,xL,cX,cX,cX,AR,b20,b21],[],F,G]
def s17(F G:List aE):SK:=[[AQ,xL,y9,cX,cX,AR,b23,b21],[],F,G]
def s18(F G:List aE):SK:=[[AQ,xL,y9,cX,cX,AR,b23,b24],[],F,G]
def s19(F G:List aE):SK:=[[AQ,xL,y9,cX,cX,AR,b25,b24],[],F,G]
def s20(F G:List aE):SK:=[[AQ,xL,y9,cX,cX,AR,b25,b26],[],F,G]
def s21(F G:List aE):SK:=[[AQ,xL,y9,cX,cX,AR,b27,b26],[],F,G]
def s22(F G:List aE):SK:=[[AQ,xL,y9,cX,cX,AR,b27,b28],[],F,G]
def s23(F G:List aE):SK:=[[AQ,xL,y9,Dx,cX,AR,b30,b28],[],F,G]
def s24(F G:List aE):SK:=[[AQ,xL,y9,Dx,cX,AR,b30,b31],[],F,G]
def s25(F G:List aE):SK:=[[AQ,xL,y9,Dx,F3,AR,F4,b31],[],F,G]
def s26(F G:List aE):SK:=[[AQ,xL,y9,Dx,F3,AR,F4,Gd,Ge,cX,cX,cX,cX,cX,cX,b36,cX],[],F,G]
def s27(F G:List aE):SK:=[[AQ,xL,y9,Dx,F3,AR,F4,Gd,Ge,cX,cX,cX,cX,cX,cX,b37,cX],[],F,G]
def s28(F G:List aE):SK:=[[AQ,xL,y9,Dx,F3,AR,F4,Gd,Ge,cX,cX,cX,cX,cX,cX,b37,.cells 1 [(qI 0)]],[],F,G]
def s29(F G:List aE):SK:=[[AQ,xL,y9,Dx,F3,AR,F4,Gd,Ge,cX,cX,cX,cX,cX,cX,b38,.cells 1 [(qI 0)]],[],F,G]
def s30(F G:List aE):SK:=[[AQ,xL,y9,Dx,F3,AR,F4,Gd,Ge,cX,cX,cX,cX,cX,cX,b38,.cells 2 [(qI 0),(qI 0)]],[],F,G]
def s31(F G:List aE):SK:=[[AQ,xL,y9,Dx,F3,AR,F4,Gd,Ge,cX,cX,cX,cX,cX,cX,b39,.cells 2 [(qI 0),(qI 0)]],[],F,G]
def s32(F G:List aE):SK:=[[AQ,xL,y9,Dx,F3,AR,F4,Gd,Ge,cX,cX,cX,cX,cX,cX,b39,b4],[],F,G]
def s33(F G:List aE):SK:=[[AQ,xL,y9,Dx,F3,AR,F4,Gd,Ge,b7,cX,cX,cX,cX,b8,b40,b4],[],F,G]
def s34(F G:List aE):SK:=[[AQ,xL,y9,Dx,F3,AR,F4,Gd,Ge,b7,cX,cX,cX,cX,b8,b40,b6],[],F,G]
def s35(F G:List aE):SK:=[[AQ,xL,y9,Dx,F3,AR,F4,Gd,Ge,b11,cX,cX,cX,cX,b12,b41,b6],[],F,G]
def s36(F G:List aE):SK:=[[AQ,xL,y9,Dx,F3,AR,F4,Gd,Ge,b11,cX,cX,cX,cX,b12,b41,b10],[],F,G]
def s37(F G:List aE):SK:=[[AQ,xL,y9,Dx,F3,AR,F4,Gd,Ge,Q1,cX,cX,cX,cX,Q2,b44,b10],[],F,G]
def s38(F G:List aE):SK:=[[AQ,xL,y9,Dx,F3,AR,F4,Gd,Ge,Q1,cX,cX,cX,cX,Q2,b44,b14],[],F,G]
def s39(F G:List aE):SK:=[[AQ,xL,y9,Dx,F3,AR,F4,Gd,Ge,Q1,xL,cX,cX,cX,Q2,b45,b14],[],F,G]
def s40(F G:List aE):SK:=[[AQ,xL,y9,Dx,F3,AR,F4,Gd,Ge,Q1,xL,cX,cX,cX,Q2,b45,b18],[],F,G]
def s41(F G:List aE):SK:=[[AQ,xL,y9,Dx,F3,AR,F4,Gd,Ge,Q1,xL,y9,cX,cX,Q2,b46,b18],[],F,G]
def s42(F G:List aE):SK:=[[AQ,xL,y9,Dx,F3,AR,F4,Gd,Ge,Q1,xL,y9,cX,cX,Q2,b46,b21],[],F,G]
def s43(F G:List aE):SK:=[[AQ,xL,y9,Dx,F3,AR,F4,Gd,Ge,Q1,xL,y9,cX,cX,Q2,b47,b21],[],F,G]
def s44(F G:List aE):SK:=[[AQ,xL,y9,Dx,F3,AR,F4,Gd,Ge,Q1,xL,y9,cX,cX,Q2,b47,b48],[],F,G]
def s45(F G:List aE):SK:=[[AQ,xL,y9,Dx,F3,AR,F4,Gd,Ge,Q1,xL,y9,cX,cX,Q2,b49,b48],[],F,G]
def s46(F G:List aE):SK:=[[AQ,xL,y9,Dx,F3,AR,F4,Gd,Ge,Q1,xL,y9,cX,cX,Q2,b49,b50],[],F,G]
def s47(F G:List aE):SK:=[[AQ,xL,y9,Dx,F3,AR,F4,Gd,Ge,Q1,xL,y9,Dx,cX,Q2,b51,b50],[],F,G]
def s48(F G:List aE):SK:=[[AQ,xL,y9,Dx,F3,AR,F4,Gd,Ge,Q1,xL,y9,Dx,cX,Q2,b51,b52],[],F,G]
def s49(F G:List aE):SK:=[[AQ,xL,y9,Dx,F3,AR,F4,Gd,Ge,Q1,xL,y9,Dx,cX,Q2,b53,b52],[],F,G]
def wm0(F G:List aE):pS:=⟨aM,[(.ref 3 6 0 0),(qI 0),(.str [102,105,101,108,100,32,50,32,49,32,49,32,52])],s0 F G,(qI 0),s1 F G⟩
def wm1(F G:List aE):pS:=⟨aM,[(.ref 3 6 0 0),(qI 1),(.str [116,97,98,108,101,32,49,48,48,32,49,48,49,32,52,49,57,32,50,54,55,54,32,49,53,48,32,49,53,48,32,52,55,54,32,54,51,50,32,50,55,52,54,32,51,48,48,32,50,48,48,32,49,53,53,53,32,56,53,50,32,50,55,57,51,32,54,48,48])],s2 F G,(qI 0),s3 F G⟩
def wm2(F G:List aE):pS:=⟨aM,[(.ref 3 6 0 0),(qI 2),(.str [98,101,100,32,49,48,48,48,32,48,32,56,48,48])],s4 F G,(qI 0),s5 F G⟩
def wm3(F G:List aE):pS:=⟨aM,[(.ref 3 6 0 0),(qI 3),(.str [119,101,108,108,32,48,32,53,48,48,32,53])],s6 F G,(qI 0),s7 F G⟩
def wm4(F G:List aE):pS:=⟨aM,[(.ref 3 6 0 0),(qI 4),(.str [109,111,100,101,108,32,97,32,56,48,48,48,32,56,48,48,48,32,53,48,48,32,52,48,48,32,57,48,48,32,52,48,48,32,48,32,49,48])],s8 F G,(qI 0),s9 F G⟩
def wm5(F G:List aE):pS:=⟨aM,[(.ref 3 6 0 0),(qI 5),(.str [109,111,100,101,108,32,98,32,56,48,48,48,32,56,48,48,48,32,53,48,48,32,52,48,48,32,57,48,48,32,53,48,48,32,48,32,49,48])],s10 F G,(qI 0),s11 F G⟩
def wm6(F G:List aE):pS:=⟨aM,[(.ref 3 6 0 0),(qI 6),(.str [108,111,103,32,116,49,32,50,32,51,57,48,32,52,49,48,32,49,32,49])],s12 F G,(qI 0),s13 F G⟩
def wm7(F G:List aE):pS:=⟨aM,[(.ref 3 6 0 0),(qI 7),(.str [114,117,108,101,32,48,32,48,32,48,32,57,32,57,32,57,32,50,48,32,53,32,49,32,49])],s14 F G,(qI 0),s15 F G⟩
def wm8(F G:List aE):pS:=⟨aM,[(.ref 3 6 0 0),(qI 8),(.str [113,117,97,107,101,32,49,32,49,32,49,32,50,53])],s16 F G,(qI 0),s17 F G⟩
def wm9(F G:List aE):pS:=⟨aM,[(.ref 3 6 0 0),(qI 9),(.str [116,105,99,107,32,45,49,48,48])],s18 F G,(qI 0),s19 F G⟩
def awV(F G:List aE):pS:=⟨aM,[(.ref 3 6 0 0),(qI 10),(.str [116,105,99,107,32,53,48])],s20 F G,(qI 0),s21 F G⟩
def awW(F G:List aE):pS:=⟨aM,[(.ref 3 6 0 0),(qI 11),(.str [117,110,105,116,32,48,32,49,48,48,32,52,48,48])],s22 F G,(qI 0),s23 F G⟩
def awX(F G:List aE):pS:=⟨aM,[(.ref 3 6 0 0),(qI 12),(.str [115,101,108,108,32,48,32,48,32,48,32,51])],s24 F G,(qI 0),s25 F G⟩
def awY(F G:List aE):pS:=⟨aM,[(.ref 3 15 0 0),(qI 0),(.str [102,105,101,108,100,32,50,32,49,32,49,32,52])],s26 F G,(qI 0),s27 F G⟩
def awZ(F G:List aE):pS:=⟨aM,[(.ref 3 15 0 0),(qI 1),(.str [116,97,98,108,101,32,49,48,48,32,49,48,49,32,52,49,57,32,50,54,55,54,32,49,53,48,32,49,53,48,32,52,55,54,32,54,51,50,32,50,55,52,54,32,51,48,48,32,50,48,48,32,49,53,53,53,32,56,53,50,32,50,55,57,51,32,54,48,48])],s28 F G,(qI 0),s29 F G⟩
def aw0(F G:List aE):pS:=⟨aM,[(.ref 3 15 0 0),(qI 2),(.str [98,101,100,32,49,48,48,48,32,48,32,56,48,48])],s30 F G,(qI 0),s31 F G⟩
def aw1(F G:List aE):pS:=⟨aM,[(.ref 3 15 0 0),(qI 3),(.str [109,111,100,101,108,32,97,32,56,48,48,48,32,56,48,48,48,32,53,48,48,32,52,48,48,32,57,48,48,32,52,48,48,32,48,32,49,48])],s32 F G,(qI 0),s33 F G⟩
def aw2(F G:List aE):pS:=⟨aM,[(.ref 3 15 0 0),(qI 4),(.str [109,111,100,101,108,32,98,32,56,48,48,48,32,56,48,48,48,32,53,48,48,32,52,48,48,32,57,48,48,32,53,48,48,32,48,32,49,48])],s34 F G,(qI 0),s35 F G⟩
def aw3(F G:List aE):pS:=⟨aM,[(.ref 3 15 0 0),(qI 5),(.str [108,111,103,32,116,49,32,50,32,51,57,48,32,52,49,48,32,49,32,49])],s36 F G,(qI 0),s37 F G⟩
def aw4(F G:List aE):pS:=⟨aM,[(.ref 3 15 0 0),(qI 6),(.str [114,117,108,101,32,48,32,48,32,48,32,57,32,57,32,57,32,50,48,32,53,32,49,32,49])],s38 F G,(qI 0),s39 F G⟩
def aw5(F G:List aE):pS:=⟨aM,[(.ref 3 15 0 0),(qI 7),(.str [113,117,97,107,101,32,49,32,49,32,49,32,50,53])],s40 F G,(qI 0),s41 F G⟩
def aw6(F G:List aE):pS:=⟨aM,[(.ref 3 15 0 0),(qI 8),(.str [116,105,99,107,32,45,49,48,48])],s42 F G,(qI 1),s43 F G⟩
def aw7(F G:List aE):pS:=⟨aM,[(.ref 3 15 0 0),(qI 9),(.str [116,105,99,107,32,53,48])],s44 F G,(qI 1),s45 F G⟩
def aw8(F G:List aE):pS:=⟨aM,[(.ref 3 15 0 0),(qI 10),(.str [117,110,105,116,32,48,32,49,48,48,32,52,48,48])],s46 F G,(qI 0),s47 F G⟩
def aw9(F G:List aE):pS:=⟨aM,[(.ref 3 15 0 0),(qI 11),(.str [115,101,108,108,32,48,32,48,32,48,32,51])],s48 F G,(qI 8),s49 F G⟩
end Go.Proofs.YtfgljaglidhjiaaGreatDoor
set_option maxRecDepth 1000000
namespace Go.Proofs.YtfgljaglidhjiaaGreatDoor
open List(length_flatMap map_take)
open Go Go.Abs
theorem wk0:(wm0 [] []).Ok T:=dC.2 ⟨300,by kernel_rfl⟩
theorem wk5:(wm5 [] []).Ok T:=dC.2 ⟨300,by kernel_rfl⟩
theorem ay4:(awV [] []).Ok T:=dC.2 ⟨300,by kernel_rfl⟩
theorem ay9:(aw0 [] []).Ok T:=dC.2 ⟨300,by kernel_rfl⟩
theorem aze:(aw5 [] []).Ok T:=dC.2 ⟨300,by kernel_rfl⟩
end Go.Proofs.YtfgljaglidhjiaaGreatDoor
set_option maxRecDepth 1000000
namespace Go.Proofs.YtfgljaglidhjiaaGreatDoor
open List(length_flatMap map_take)
open Go Go.Abs
theorem wk1:(wm1 [] []).Ok T:=dC.2 ⟨300,by kernel_rfl⟩
theorem wk6:(wm6 [] []).Ok T:=dC.2 ⟨300,by kernel_rfl⟩
theorem ay5:(awW [] []).Ok T:=dC.2 ⟨300,by kernel_rfl⟩
theorem aza:(aw1 [] []).Ok T:=dC.2 ⟨300,by kernel_rfl⟩
theorem azf:(aw6 [] []).Ok T:=dC.2 ⟨300,by kernel_rfl⟩
end Go.Proofs.YtfgljaglidhjiaaGreatDoor
set_option maxRecDepth 1000000
namespace Go.Proofs.YtfgljaglidhjiaaGreatDoor
open List(length_flatMap map_take)
open Go Go.Abs
theorem wk2:(wm2 [] []).Ok T:=dC.2 ⟨300,by kernel_rfl⟩
theorem wk7:(wm7 [] []).Ok T:=dC.2 ⟨300,by kernel_rfl⟩
theorem ay6:(awX [] []).Ok T:=dC.2 ⟨300,by kernel_rfl⟩
theorem azb:(aw2 [] []).Ok T:=dC.2 ⟨300,by kernel_rfl⟩
theorem azg:(aw7 [] []).Ok T:=dC.2 ⟨300,by kernel_rfl⟩
end Go.Proofs.YtfgljaglidhjiaaGreatDoor
set_option maxRecDepth 1000000
namespace Go.Proofs.YtfgljaglidhjiaaGreatDoor
open List(length_flatMap map_take)
open Go Go.Abs
theorem wk3:(wm3 [] []).Ok T:=dC.2 ⟨300,by kernel_rfl⟩
theorem wk8:(wm8 [] []).Ok T:=dC.2 ⟨300,by kernel_rfl⟩
theorem ay7:(awY [] []).Ok T:=dC.2 ⟨300,by kernel_rfl⟩
theorem azc:(aw3 [] []).Ok T:=dC.2 ⟨300,by kernel_rfl⟩
theorem azh:(aw8 [] []).Ok T:=dC.2 ⟨300,by kernel_rfl⟩
end Go.Proofs.YtfgljaglidhjiaaGreatDoor
set_option maxRecDepth 1000000
namespace Go.Proofs.YtfgljaglidhjiaaGreatDoor
open List(length_flatMap map_take)
open Go Go.Abs
theorem wk4:(wm4 [] []).Ok T:=dC.2 ⟨300,by kernel_rfl⟩
theorem wk9:(wm9 [] []).Ok T:=dC.2 ⟨300,by kernel_rfl⟩
theorem ay8:(awZ [] []).Ok T:=dC.2 ⟨300,by kernel_rfl⟩
theorem azd:(aw4 [] []).Ok T:=dC.2 ⟨300,by kernel_rfl⟩
theorem azi:(aw9 [] []).Ok T:=dC.2 ⟨300,by kernel_rfl⟩
end Go.Proofs.YtfgljaglidhjiaaGreatDoor
set_option maxRecDepth 1000000
namespace Go.Proofs.YtfgljaglidhjiaaGreatDoor
open List(length_flatMap map_take)
open Go Go.Abs
def arC:List pS:=[wm0 [] [],wm1 [] [],wm2 [] [],wm3 [] [],wm4 [] [],wm5 [] [],wm6 [] [],wm7 [] [],wm8 [] [],wm9 [] [],awV [] [],awW [] [],awX [] [],awY [] [],awZ [] [],aw0 [] [],aw1 [] [],aw2 [] [],aw3 [] [],aw4 [] [],aw5 [] [],aw6 [] [],aw7 [] [],aw8 [] [],aw9 [] []]
theorem agz:∀m∈arC,m.Ok T:=by
 simp only[arC,ba,List.not_mem_nil,or_false,forall_eq_or_imp,forall_eq];exact⟨wk0,wk1,wk2,wk3,wk4,wk5,wk6,wk7,wk8,wk9,ay4,ay5,ay6,ay7,ay8,ay9,aza,azb,azc,azd,aze,azf,azg,azh,azi⟩
theorem ad8:itM T arC 120 (.call false pP [] [[],[]])=some (.val (.bool true) [[],[]]):=by kernel_rfl
theorem aft:lim T (.call false pP [] [[],[]])=some (.val (.bool true) [[],[]]):=P8 agz ad8
end Go.Proofs.YtfgljaglidhjiaaGreatDoor
namespace Go.Proofs.YtfgljaglidhjiaaGreatDoor
open List(length_flatMap map_take)
open Go Go.Abs Go.Rock Go.Book
variable {σ:SK}
theorem QE{l:List (List UInt8)}{n:Nat}(h:Nn l):Nn (l.take n):=⟨by have:=h.1;simp;omega,fun s hs=>h.2 s (cm hs)⟩
theorem Mk(l:List (List UInt8))(k:Nat):(l.flatMap dh).take k=(l.take k).flatMap dh:=by rw[← Cf,← Cf,List.map_take]
end Go.Proofs.YtfgljaglidhjiaaGreatDoor
set_option maxRecDepth 100000
namespace Go.Proofs.YtfgljaglidhjiaaGreatDoor
open List(length_flatMap map_take)
open Go Go.Abs Go.Rock Go.Book
variable {σ:SK}
theorem KN{b:Bk}(hl:b.az.length≤1000000)(hv:∀r∈b.az,r.length=b.bG.ar.length):∀(m i:Nat),i+m=b.az.length →
  WL T [1,3] false sG [(1,.bD (F9 b)),(3,.int .i64 i)] σ (fun x e σ'=>σ'=σ∧x=.exit 0)
 |0,i,hi=>by
  refine aN sG.eq_1 ?_;have h1:¬i<b.az.length:=by omega
  by_cases h0:b.az=[]
  ·obtain rfl:i=0:=by rw[h0]at hi;simpa using hi
   simp[-length_flatMap,-map_take,F9,nl,h0]
  ·simp[-length_flatMap,-map_take,F9,nl,h0,h1]
 |m+1,i,hi=>by
  refine aN sG.eq_1 ?_;have h1:i<b.az.length:=by omega
  have h0:¬b.az=[]:=by intro h;rw[h]at h1;simp at h1
  obtain⟨x,hx⟩:=gE h1;have a1:=bS (f:=pE) (w:=1) (fun _=>rfl) hx;simp only[pE,ea]at a1;have h4:=gD h1 (by omega);have hxl:=hv x (ai hx);have ih:=KN hl hv m (i+1) (by omega);have en:nl pE b.az=.aI b.az.length (b.az.flatMap pE):=if_neg h0;by_cases hw:b.bG.ar=[]
  ·have ew:nl bH.enc b.bG.ar=.aG:=if_pos hw;have h5:x.length=0:=by rw[hxl,hw];rfl
   have h6:x=[]:=bM.1 h5;simp only[F9,en,ew]at ih ⊢;simp[-length_flatMap,-map_take,h1,a1,h4,h6];exact WL.to ih (by simp) rfl fun x e σ' hh=>hh
  ·have ew:nl bH.enc b.bG.ar=.aI b.bG.ar.length (b.bG.ar.flatMap bH.enc):=if_neg hw;simp only[F9,en,ew]at ih ⊢;simp[-length_flatMap,-map_take,h1,a1,h4,hxl];exact WL.to ih (by simp) rfl fun x e σ' hh=>hh
theorem Sx{b:Bk}(hl:b.az.length≤1000000)(hv:∀r∈b.az,r.length=b.bG.ar.length):lim T (.call false uc [.agg (F9 b)] σ)=some (.val (.bool true) σ):=by
 refine aA Js wH.eq_1 rfl ?_;have h:=KN (σ:=[]::σ) hl hv b.az.length 0 (by omega);simp only[F9]at h ⊢;simp[-length_flatMap,-map_take];refine WL.to h (by simp) rfl ?_;rintro x e σ' ⟨rfl,rfl⟩;simp[-length_flatMap,-map_take]
theorem Dl{α:Type}{p:α→Bool}:∀(l:List α),(idxOf p l = -1∧∀x∈l,p x=false)∨∃(k:Nat) (x:α),idxOf p l=k∧l[k]?=some x∧p x=true
 |[] => .inl ⟨rfl,by simp⟩
 |a::l=>by
  cases ha:p a with
  |true=>exact .inr ⟨0,a,by simp[idxOf,ha],rfl,ha⟩
  |false =>
   rcases Dl (p:=p) l with⟨h1,h2⟩ | ⟨k,x,h1,h2,h3⟩
   ·refine .inl ⟨by simp[idxOf,ha,h1],fun x hx=>?_⟩;rcases ba.1 hx with rfl | hx
    ·exact ha
    ·exact h2 x hx
   ·refine .inr ⟨k+1,x,?_,by simpa using h2,h3⟩;have:¬(k:Int)<0:=by omega
    simp[idxOf,ha,h1,this]
def HQ:F1:=⟨0,0,0,0⟩
def PS(b:Bk)(nm:List UInt8):D :=
 if idxOf (fun e=>e.m.name == nm) b.an<0 then .dK [.agg HQ.enc,.int .i64 5]
 else match b.an[(idxOf (fun e=>e.m.name == nm) b.an).toNat]?,b.jt[(idxOf (fun e=>e.m.name == nm) b.an).toNat]? with
  |some e,some v=>if e.left then .dK [.agg HQ.enc,.int .i64 7]else .dK [.agg v.enc,.int .i64 0]
  |_,_ => .undef
theorem afq{e:jb}{nm:List UInt8}:lim T (.call false jz [.agg e.enc,.bD [.str nm]] σ)=some (.val (.bool (e.m.name == nm)) σ):=by
 refine aA Ex rH.eq_1 rfl ?_;simp[-length_flatMap,-map_take,rU]
theorem QO{b:Bk}{er:List Int}{nm:List UInt8}{S:SK}(hl:b.an.length≤1000000)(hs:fX S σ.length=some (b.bw σ.length er)):
  lim T (.call false cC [.sl σ.length 0 b.an.length 0 b.an.length 4,.fn jz [] [.bD [.str nm]]] S)=some (.val (.int .i64 (idxOf (fun e=>e.m.name == nm) b.an)) S) :=
 Hp (enc:=jb.enc) (w:=4) (fun _=>rfl) (F:=b.bw σ.length er) (bi:=0) (v:=b.an.length) (l:=b.an) rfl (by simp[Bk.bw]) (by omega)
  ⟨rfl,rfl,fun e _ σ=>by rw[rk];have h:=afq (σ:=σ) (e:=e) (nm:=nm);have h':lim T (.call false jz ([]++[.agg e.enc]++[.bD [.str nm]]) σ)=_:=h;rw[h'];rfl⟩ hs
theorem am4{lines:List (List UInt8)}{nm:List UInt8}(hl:Nn lines)(hσ:σ≠[]):lim T (.call false ov [.aI lines.length (lines.flatMap dh),.str nm] σ)=some (.val (PS (dE lines).1 nm) σ):=by
 refine aA GI tP.eq_1 rfl ?_;have hC:=fun S=>KA (σ:=S) (l:=lines) (by have:=hl.1;omega)
 have hok:okB lines=true:=JW.2 hl;simp only[hok,if_true]at hC;have hR:=SR (σ:=σ) (lines:=lines) hl;have hK:=vQ (l:=lines) (k:=0) Kv.zero hl.2;rw[show(oI nN 0 lines).1=(dE lines).1 from rfl]at hK;have hml:=hK.ml;have hwl:=hK.wl;generalize dE lines=r at hR hml hwl ⊢;obtain⟨b,er⟩:=r;simp only at hR hml hwl ⊢;have hI:=QO (σ:=σ) (b:=b) (er:=er) (nm:=nm) (S:=b.bw σ.length er::σ) (by omega) (by simp[fX]);simp only[Bk.bw,Bk.cells]at hR hI;unfold PS;rcases Dl (p:=fun e:jb=>e.m.name == nm) b.an with⟨h1,_⟩ | ⟨k,e,h1,h2,h3⟩
 ·rw[h1]at hI ⊢;simp[-length_flatMap,-map_take,hC,hR,hI,HQ]
 ·rw[h1]at hI ⊢;have hk:=(au.1 h2).1;obtain⟨v,hv⟩:∃v,b.jt[k]?=some v:=gE (by omega);have a1:=bS (f:=jb.enc) (w:=4) (fun _=>rfl) h2;have a2:=bS (f:=F1.enc) (w:=4) (fun _=>rfl) hv;have b1:=bT (f:=jb.enc) (w:=4) (fun _=>rfl) b.an;have b2:=bT (f:=F1.enc) (w:=4) (fun _=>rfl) b.jt;have c1:4≤(b.an.flatMap jb.enc).length-k*4:=by omega
  have c2:4≤(b.jt.flatMap F1.enc).length-k*4:=by omega
  have d1:=xn (f:=jb.enc) (w:=4) (fun _=>rfl) h2;have n0:¬(k:Int)<0:=by omega
  have n1:(k:Int)<b.an.length:=by omega
  have n2:(k:Int)<b.jt.length:=by omega
  have hkw:k<b.jt.length:=by omega
  simp only[jb.enc,F1.enc]at a1 a2 d1;have d3:(b.an.flatMap jb.enc).drop (k*4+2)=.bool e.left::.int .i64 e.by_::(b.an.flatMap jb.enc).drop (k*4+4):=by
   have:=congrArg (List.drop 2) d1;simpa[jb.enc,ij]using this
  rw[if_neg n0,Int.toNat_natCast,h2,hv];cases hle:e.left
  ·simp[-length_flatMap,-map_take,hC,hR,hI,HQ,a1,a2,d1,d3,n0,n1,n2,hk,hkw,hle,c1,c2]
  ·simp[-length_flatMap,-map_take,hC,hR,hI,HQ,a1,a2,d1,d3,n0,n1,n2,hk,hkw,hle,c1,c2]
theorem KM{b c:Bk}{l:List (List UInt8)}{er:List Int}(hg:FO b c)(hl:b.an.length≤40)(hl2:c.an.length≤40):∀(m i:Nat),i+m=b.an.length →
  WL T [0,5,6,9,12] false ir [(0,.aI l.length (l.flatMap dh)),(5,.own 0 (F9 c)),(6,.aI er.length (er.flatMap aS)),(9,.own 0 (F9 b)),(12,.int .i64 i)] σ
   (fun x e σ'=>σ'=σ∧x=.exit 0∧get e 0=.aI l.length (l.flatMap dh)∧get e 5=.own 0 (F9 c)∧get e 6=.aI er.length (er.flatMap aS))
 |0,i,hi=>by
  refine aN ir.eq_1 ?_;have h1:¬i<b.an.length:=by omega
  simp[-length_flatMap,-map_take,F9,h1]
 |m+1,i,hi=>by
  refine aN ir.eq_1 ?_;have h1:i<b.an.length:=by omega
  obtain⟨x,hx⟩:=gE h1;obtain⟨y,hy,_,hxy⟩:=hg i x hx;have h1':=(au.1 hy).1;have d1:=xn (f:=jb.enc) (w:=4) (fun _=>rfl) hx;have d2:=xn (f:=jb.enc) (w:=4) (fun _=>rfl) hy;have h4:=gD h1 (by omega);have ih:=KM (l:=l) (er:=er) hg hl hl2 m (i+1) (by omega);simp only[jb.enc]at d1 d2;simp only[F9]at ih ⊢;cases hle:x.left
  ·obtain rfl:=hxy hle;simp[-length_flatMap,-map_take,h1,h1',d1,d2,h4,hle];exact WL.to ih (by simp) rfl fun x e σ' hh=>hh
  ·simp[-length_flatMap,-map_take,h1,h1',d1,d2,h4,hle];exact WL.to ih (by simp) rfl fun x e σ' hh=>hh
def LQ(ps:List (Int×Int)):List Abs.aE:=[.cells ps.length ((ps.map (·.1)).flatMap aS),.cells ps.length ((ps.map (·.2)).flatMap aS)]
theorem S7{ps:List (Int×Int)}(hps:ps.length≤1000000){nm:List UInt8}{k lo hi:Int}{X0 X5 X6 X13 X14 X15:D}(h0:X0.calm=X0)(h5:X5.calm=X5)(h6:X6.calm=X6)(h13:X13.calm=X13)(h14:X14.calm=X14)(h15:X15.calm=X15):∀(m j:Nat),j+m=ps.length →
  WL T [0,5,6,13,14,15,19,21,22] false iu [(0,X0),(5,X5),(6,X6),(13,X13),(14,X14),(15,X15),(19,.aI (ps.length*2+3) (.int .i64 k::.int .i64 lo::.int .i64 hi::ps.flatMap tG)),
    (21,.own 0 [.str nm,.int .i64 k,.sl σ.length 0 j 0 j 1,.sl σ.length 1 j 0 j 1,.int .i64 lo,.int .i64 hi]),(22,.int .i64 (3+j*2))] (LQ (ps.take j)::σ)
   (fun x e σ'=>x=.exit 4∧get e 0=X0∧get e 5=X5∧get e 6=X6∧get e 13=X13∧get e 14=X14∧get e 15=X15∧get e 19=.aI (ps.length*2+3) (.int .i64 k::.int .i64 lo::.int .i64 hi::ps.flatMap tG) ∧
    get e 21=.own 0 [.str nm,.int .i64 k,.sl σ.length 0 ps.length 0 ps.length 1,.sl σ.length 1 ps.length 0 ps.length 1,.int .i64 lo,.int .i64 hi]∧σ'=LQ ps::σ)
 |0,j,h=>by
  refine aN iu.eq_1 ?_;have h1:¬(3:Int)+(j:Int)*2<(ps.length:Int)*2+3:=by omega
  have h2:ps.take j=ps:=aj (by omega);obtain rfl:j=ps.length:=by omega
  simp[-length_flatMap,-map_take,h0,h5,h6,h13,h14,h15,h1,h2]
 |m+1,j,h=>by
  refine aN iu.eq_1 ?_;have h1:j<ps.length:=by omega
  have h2:(3:Int)+(j:Int)*2<(ps.length:Int)*2+3:=by omega
  have h3:(3:Int)+(j:Int)*2+1<(ps.length:Int)*2+3:=by omega
  have g0:0≤(3:Int)+(j:Int)*2:=by omega
  have g0':0≤(3:Int)+(j:Int)*2+1:=by omega
  obtain⟨p,hp⟩:=gE h1;have hd:=xn (f:=tG) (w:=2) (fun _=>rfl) hp;have hd2:(ps.flatMap tG).drop (j*2+1)=.int .i64 p.2::(ps.flatMap tG).drop (j*2+2):=by
   have:=congrArg (List.drop 1) hd;simpa[tG,ij]using this
  have hd1:(ps.flatMap tG).drop (j*2)=.int .i64 p.1::.int .i64 p.2::(ps.flatMap tG).drop (j*2+2):=by simpa[tG]using hd
  have t1:((3:Int)+(j:Int)*2).toNat=j*2+1+1+1:=by omega
  have t2:((3:Int)+(j:Int)*2+1).toNat=j*2+1+1+1+1:=by omega
  have w1:IntKind.i64.wrap ((3:Int)+(j:Int)*2+1)=3+j*2+1:=fT (by omega);have w2:IntKind.i64.wrap ((3:Int)+(j:Int)*2+2)=3+j*2+2:=fT (by omega);have hl:(ps.take j).length=j:=by simp;omega
  have hr:(j+1)*8≤room:=by unfold room;omega
  have ha:=xm ((ps.take j).map (·.1));have hb:=xm ((ps.take j).map (·.2));simp only[cT,hl]at ha hb;have ta:(((ps.take j).map (·.1)).flatMap aS).take j=((ps.take j).map (·.1)).flatMap aS:=aj (by omega);have tb:(((ps.take j).map (·.2)).flatMap aS).take j=((ps.take j).map (·.2)).flatMap aS:=aj (by omega);have ih:=S7 hps (nm:=nm) (k:=k) (lo:=lo) (hi:=hi) h0 h5 h6 h13 h14 h15 m (j+1) (by omega);have htk:ps.take (j+1)=ps.take j++[p]:=by rw[List.take_add_one,hp];rfl
  rw[htk]at ih;have hj1:(3:Int)+((j+1:Nat):Int)*2=3+(j:Int)*2+2:=by omega
  rw[hj1]at ih;simp[-length_flatMap,-map_take,h0,h5,h6,h13,h14,h15,LQ,hl,g0,g0',h1,h2,h3,t1,t2,hd1,hd2,w1,w2,hr,ha,hb,ta,tb];refine WL.to ih (by simp) (by simp[LQ,hl]) fun x e σ' hh=>hh
end Go.Proofs.YtfgljaglidhjiaaGreatDoor
namespace Go.Proofs.YtfgljaglidhjiaaGreatDoor
open List(length_flatMap map_take)
open Go Go.Abs Go.Rock Go.Book
theorem Kv.oks{n:Nat}{b:Bk}(h:Kv n b){e:jb}(he:e∈b.an):Ok b.bG [e.m] b.az:=by
 have hm:b.an≠[]:=fun hh=>by rw[hh]at he;cases he
 have:=(h.fit e he).2.1;exact Ok.one (h.ready (h.ms hm)) (h.fit e he).1 h.pl (by omega)
end Go.Proofs.YtfgljaglidhjiaaGreatDoor
set_option maxRecDepth 100000
namespace Go.Proofs.YtfgljaglidhjiaaGreatDoor
open List(length_flatMap map_take)
open Go Go.Abs Go.Rock Go.Book
variable {σ:SK}
theorem agf{b:Bk}(h2:Inv2 b){i:Nat}{e:jb}{v:F1}(he:b.an[i]?=some e)(hv:b.jt[i]?=some v):
  PS b e.m.name=if e.left then .dK [.agg HQ.enc,.int .i64 7]else .dK [.agg v.enc,.int .i64 0]:=by
 unfold PS;rcases Dl (p:=fun x:jb=>x.m.name == e.m.name) b.an with⟨_,h⟩ | ⟨k,x,h1,h3,h4⟩
 ·have:=h e (ai he);simp at this
 ·have hk:=h2 k i x e h3 he (by simpa using h4);subst hk;rw[h1,if_neg (by omega),Int.toNat_natCast,he,hv]
theorem ay2{a:List UInt8}{w:Wd}(h:(a,w)∈oN):(w.k=5→a=[108,111,103]∧w=⟨true,3,2,5⟩)∧(w.k=10→a=[114,101,97,100]):=by
 simp only[oN,ba,ak,List.not_mem_nil,or_false]at h;rcases h with⟨rfl,rfl⟩ | ⟨rfl,rfl⟩ | ⟨rfl,rfl⟩ | ⟨rfl,rfl⟩ | ⟨rfl,rfl⟩ | ⟨rfl,rfl⟩ | ⟨rfl,rfl⟩ | ⟨rfl,rfl⟩ | ⟨rfl,rfl⟩ | ⟨rfl,rfl⟩ | ⟨rfl,rfl⟩ | ⟨rfl,rfl⟩ | ⟨rfl,rfl⟩<;>simp
theorem Tt{l:List (List UInt8)}:D.bg (l.flatMap dh)=true:=dX (f:=dh) (fun _=>by simp[dh]) l
theorem Tr{b:Bk}:D.bg (F9 b)=true:=by
 have c1:(nl Rw.enc b.bG.cq).clean=true:=ID (fun _=>by simp[D.clean]) _;have c2:(nl bH.enc b.bG.ar).clean=true:=ID (fun _=>by simp[D.clean]) _;have c3:(nl pE b.az).clean=true:=ID (fun x=>by simp[pE,D.clean,aY]) _;have q1:D.bg (b.an.flatMap jb.enc)=true:=dX (fun x=>by simp[D.clean,aY]) _;have q2:D.bg (b.rules.flatMap Trem.eE.enc)=true:=dX (fun x=>by simp[D.clean]) _;have q3:D.bg (b.zl.flatMap Trem.Ev.enc)=true:=dX (fun x=>by simp[D.clean,dX (f:=Trem.wC.enc) (fun _=>by simp[D.clean])]) _;have q4:D.bg (b.fg.flatMap xQ.enc)=true:=dX (fun x=>by simp[D.clean,dX (f:=Prt.enc) (fun _=>by simp[D.clean])]) _;have q5:D.bg (b.mK.flatMap Sd.enc)=true:=dX (fun x=>by simp[D.clean]) _;simp[F9,D.clean,c1,c2,c3,q1,q2,q3,q4,q5]
theorem adV{S:SK}{L:Nat}(hS:S.length=L)(hL:0<L){nm:List UInt8}{k lo hi:Int}{ps:List (Int×Int)}:
  cr.frzL (cr 0 16) [.str nm,.int .i64 k,.sl L 0 ps.length 0 ps.length 1,.sl L 1 ps.length 0 ps.length 1,.int .i64 lo,.int .i64 hi] (LQ ps::S)=((lM nm k lo hi ps).enc,[.dead,.dead]::S):=by
 have hne:S≠[]:=by intro h;subst h;simp at hS;omega
 have h1:=BB (f:=aS) (w:=1) (fun _=>rfl) (fun _=>by simp[D.clean]) (l:=ps.map (·.1)) (j:=0) (v:=ps.length) (bs:=[.cells ps.length ((ps.map (·.1)).flatMap aS),.cells ps.length ((ps.map (·.2)).flatMap aS)]) (σ:=S) hne (by simp);have h2:=BB (f:=aS) (w:=1) (fun _=>rfl) (fun _=>by simp[D.clean]) (l:=ps.map (·.2)) (j:=1) (v:=ps.length) (bs:=[.dead,.cells ps.length ((ps.map (·.2)).flatMap aS)]) (σ:=S) hne (by simp);rw[hS]at h1 h2;simp only[cT,List.set_cons_succ,List.set_cons_zero]at h1 h2;simp[LQ,h1,h2,lM]
set_option maxHeartbeats 4000000 in
theorem ahs{l:List (List UInt8)}{er:List Int}(hk:Nn l)(her:er=(dE l).2){b:Bk}(hb:b=(dE l).1)(hσ:σ≠[]):∀(m i:Nat),i+m=b.an.length →
  WL T [0,5,6,13] true iw [(0,.aI l.length (l.flatMap dh)),(5,.own 0 (F9 b)),(6,.aI er.length (er.flatMap aS)),(13,.int .i64 i)] σ
   (fun x e σ'=>σ'=σ∧x=.exit 2)
 |0,i,hi=>by
  refine zh iw.eq_1 ?_;have h1:¬i<b.an.length:=by omega
  have c1:=Tt (l:=l);have c2:=Tr (b:=b);simp only[F9]at c2;simp[-length_flatMap,-map_take,F9,h1,c1,c2,aY]
 |m+1,i,hi=>by
  refine zh iw.eq_1 ?_;have hll:=hk.1;have hK:=vQ (l:=l) (k:=0) Kv.zero hk.2;rw[show(oI nN 0 l).1=b from hb.symm]at hK;obtain⟨i1,i2⟩:=JR hk.2 l.length (aK _);rw[List.take_length,← hb]at i1 i2;have h1:i<b.an.length:=by omega
  have hml:=hK.ml;have hwl:=hK.wl;obtain⟨e,he⟩:=gE h1;obtain⟨v,hv⟩:∃v,b.jt[i]?=some v:=gE (by omega);have hem:=ai he;obtain⟨j1,j2⟩:=i1 i e v he hv;have hfa:=agf i2 he hv;have hF:=fun S hS=>am4 (σ:=S) (lines:=l) (nm:=e.m.name) hk hS
  rw[← hb,hfa]at hF;have hL:=fun S hS=>Jk (σ:=S) (l:=l) (by omega) hS
  have a1:=bS (f:=jb.enc) (w:=4) (fun _=>rfl) he;have a2:=bT (f:=jb.enc) (w:=4) (fun _=>rfl) b.an;have a3:4≤(b.an.flatMap jb.enc).length-i*4:=by omega
  have h4:=gD h1 (by omega);have c1:=Tt (l:=l);have c2:=Tr (b:=b);have ih:=ahs hk her hb hσ m (i+1) (by omega);simp only[jb.enc]at a1;have hlp:=aL.2 hσ;simp only[F9]at ih c2 ⊢;cases hle:e.left with
  |true =>
   have j1:=j1 hle;rw[hle,if_pos rfl]at hF;simp[-length_flatMap,-map_take,h1,a1,a3,hL,hF,hle,j1,HQ,h4,c1,c2,aY];exact WL.to ih (by simp) (by simp) fun x e σ' hh=>hh
  |false =>
   obtain⟨j,s,w,nm,ns,g1,g2,g3,g4,g5,g6,g7⟩:=j2 hle;rw[hle,if_neg (by simp)]at hF;have hjl:=(au.1 g3).1;rw[← her]at g4;have hje:=(au.1 g4).1;have b1:=bS (f:=dh) (w:=1) (fun _=>rfl) g3;have b2:=bS (f:=aS) (w:=1) (fun _=>rfl) g4;simp only[dh,aS,ea]at b1 b2;have hsl:=hk.2 s (ai g3);have hP:=fun S hS=>afF (σ:=S) (s:=s) (by omega) hS
   obtain⟨a,haw,hr⟩:=aeG g5;rw[hr]at hP;obtain⟨wd1,wd2⟩:=ay2 haw;obtain⟨_,hfit,hnm,hnl⟩:=BF g5;have hin:(v.lo≤v.value∧v.value≤v.hi)→False:=by
    intro h;have:=bf.2 h;rw[g6]at this;cases this
   have n0:¬(j:Int)<0:=by omega
   have n1:¬(l.length:Int)≤j:=by omega
   have tst:¬v.lo≤v.value∨(v.lo≤v.value∧¬v.value≤v.hi):=by
    by_cases z:v.lo≤v.value
    ·exact .inr ⟨z,fun z2=>hin ⟨z,z2⟩⟩
    ·exact .inl z
   simp only[F1.enc,g2]at hF;rcases g7 with⟨hw,kd,q,rfl,hck,hva⟩ | ⟨hw,wh,ix,rfl,hwh,hrd,⟨e0,he0,hem0,hel0⟩,hva⟩
   ·obtain⟨rfl,rfl⟩:=wd1 hw;obtain⟨f1,f2⟩:=DW hfit (by decide) (by decide);simp only[aJ]at f1 f2 hnl;obtain⟨h5,h6⟩:=Gl (q.length / 2) (l:=q) (by omega);obtain⟨ps,hps⟩:∃ps,ps=Dj q:=⟨_,rfl⟩;rw[← hps]at h5 h6 hck hva;have hlen:(kd::v.lo::v.hi::q).length=ps.length*2+3:=by simp only[aJ];omega
    simp only[hlen,aW,aS,dH]at hP;rw[← h5]at hP;have hM:=S7 (σ:=σ) (ps:=ps) (by omega) (nm:=nm) (k:=kd) (lo:=v.lo) (hi:=v.hi) (X0:=.aI l.length (l.flatMap dh)) (X5:=.own 0 (F9 b)) (X6:=.aI er.length (er.flatMap aS)) (X13:=.int .i64 i)
     (X14:=.own 0 [.str e.m.name,.aI e.m.bh.length (e.m.bh.flatMap aS),.bool false,.int .i64 j]) (X15:=.own 0 [.int .i64 j,.int .i64 v.value,.int .i64 v.lo,.int .i64 v.hi]) rfl rfl rfl rfl rfl rfl ps.length 0 (by omega)
    have hbv:=hK.ready (hK.ms (fun hh=>by rw[hh]at hem;cases hem));have hfv:=(Bv.of hbv).fv;have hmz:=Ht hbv (hK.fit e hem).1;have hmx:b.bG.f.measure (lM nm kd v.lo v.hi ps)=0:=by
     unfold si at hck;rw[if_pos hfv]at hck;exact hck
    have hS:=fun S=>Sm (σ:=S) (f:=b.bG.f) (m:=e.m) (x:=lM nm kd v.lo v.hi ps) hfv hmz hmx (by have:=(hK.fit e hem).2.1;omega) (by have:=(hK.fit e hem).2.2;omega) (by simp only[lM];omega) (by simp only[lM,cT];omega)
    rw[← hva]at hS;have hfz:=adV (S:=σ) (L:=σ.length) rfl hlp (nm:=nm) (k:=kd) (lo:=v.lo) (hi:=v.hi) (ps:=ps);have q0:(0:Int)<(ps.length:Int)*2+3:=by omega
    have q1:(1:Int)<(ps.length:Int)*2+3:=by omega
    have q2:(2:Int)<(ps.length:Int)*2+3:=by omega
    simp only[F9,hle,g1,wV.enc]at a1 hM hfz hS;rcases tst with z1 | ⟨z1,z2⟩
    ·simp[-length_flatMap,-map_take,rU,h1,a1,a3,hL,hF,b1,b2,hP,n0,n1,hjl,hje,hle,z1,hσ,q0,q1,q2];refine WL.to hM (by simp) (by simp[LQ]) ?_;rintro x e' σ' ⟨rfl,k0,k5,k6,k13,k14,k15,k19,k21,rfl⟩;simp[-length_flatMap,-map_take,k0,k5,k6,k13,k14,k15,k19,k21,hfz,hS,q1,q2,h4,c1,c2,aY];exact WL.to ih (by simp) (by simp) fun x e σ' hh=>hh
    ·simp[-length_flatMap,-map_take,rU,h1,a1,a3,hL,hF,b1,b2,hP,n0,n1,hjl,hje,hle,z1,z2,hσ,q0,q1,q2];refine WL.to hM (by simp) (by simp[LQ]) ?_;rintro x e' σ' ⟨rfl,k0,k5,k6,k13,k14,k15,k19,k21,rfl⟩;simp[-length_flatMap,-map_take,k0,k5,k6,k13,k14,k15,k19,k21,hfz,hS,q1,q2,h4,c1,c2,aY];exact WL.to ih (by simp) (by simp) fun x e σ' hh=>hh
   ·obtain rfl:=wd2 hw;have tk:=QE (n:=j) hk;have tl:(l.take j).length=j:=by simp;omega
    have hL1:=fun S hS=>Jk (σ:=S) (l:=l.take j) (by omega) hS
    have hR1:=fun S hS=>Sq (σ:=S) tk hS
    have hKc:=vQ (l:=l.take j) (k:=0) Kv.zero tk.2;rw[show(oI nN 0 (l.take j)).1=(dE (l.take j)).1 from rfl]at hKc;rw[tl,← Mk]at hL1 hR1;generalize (dE (l.take j)).1=c at hR1 hKc hrd he0 hva;generalize (dE (l.take j)).2=r2 at hR1;have hO:=hKc.oks he0;obtain⟨r,hrr⟩:=hKc.AG e0 he0 hel0;rw[hem0]at hO hrr;have hwi:=bf.1 hwh;have hS:=fun S hS=>zK (σ:=S) (b:=c) (m:=e.m) (x:=⟨c.az.length,wh,ix,v.lo,v.hi⟩) (BL hO.bv.cq) hO hwi hS
    obtain⟨n,A,hs1,hA⟩:=Km (b:=c.bG) (m:=e.m) (az:=c.az) (x:=⟨c.az.length,wh,ix,v.lo,v.hi⟩) (by rw[zz];exact hrd) hrr;rw[hs1]at hS;have hd:=Rdv.of hrd;obtain⟨e1,e2,e3⟩:=hd.ends;have hbd:=J6 (hO.fv e.m (by simp)) (Ks.of (hO.fv e.m (by simp)) hO.aR hrr) hd;simp only[vq,hrr]at hva;simp only at e1 e2 e3 hS;generalize uQ c.bG e.m r ⟨c.az.length,wh,ix,v.lo,v.hi⟩=z at hS hbd hva;have hz:v.value=z∧(v.hi<z∨z<v.lo):=by
     unfold Kp at hva;split at hva
     ·rename_i hc;exact⟨hva,hc⟩
     ·exact absurd (show v.lo≤v.value∧v.value≤v.hi by omega) hin
    obtain⟨rfl,hz2⟩:=hz;have hm0:vN v.lo v.hi v.value≠0:=by unfold vN;omega
    rw[if_neg hm0,if_neg hm0]at hS;have w1:IntKind.i64.wrap (v.value-v.hi)=v.value-v.hi:=fT (by omega);have w2:IntKind.i64.wrap (v.value-v.lo)=v.value-v.lo:=fT (by omega);have w3:IntKind.i64.wrap (vN v.lo v.hi v.value)=vN v.lo v.hi v.value:=fT (by unfold vN;omega);have w4:IntKind.u8.wrap wh=wh:=wu8 (by omega);have jl:(j:Int)≤l.length:=by omega
    have jl2:j≤l.length:=by omega
    unfold vN at w3 hS;have en:nl pE c.az=.aG∧c.az=[]∨nl pE c.az=.aI c.az.length (c.az.flatMap pE):=by
     by_cases hpn:c.az=[]
     ·exact .inl ⟨if_pos hpn,hpn⟩
     ·exact .inr (if_neg hpn)
    simp only[F9,hle,g1,wa.enc]at a1 hR1 hS;rcases en with⟨en,hpn⟩ | en<;>simp only[en]at hR1 hS<;>rcases tst with z1 | ⟨z1,z2⟩
    ·have hp0:c.az.length=0:=by rw[hpn];rfl
     have z0:((0:Nat):Int)=0:=rfl;simp only[hp0,z0]at hS;simp[-length_flatMap,-map_take,rU,h1,a1,a3,hL,hF,b1,b2,hP,n0,n1,hjl,hje,hle,z1,hσ,hL1,hR1,jl,jl2,w1,w2,w3,w4,hS,xJ,h4,c1,c2,aY];exact WL.to ih (by simp) (by simp) fun x e σ' hh=>hh
    ·have hp0:c.az.length=0:=by rw[hpn];rfl
     have z0:((0:Nat):Int)=0:=rfl;simp only[hp0,z0]at hS;simp[-length_flatMap,-map_take,rU,h1,a1,a3,hL,hF,b1,b2,hP,n0,n1,hjl,hje,hle,z1,z2,hσ,hL1,hR1,jl,jl2,w1,w2,w3,w4,hS,xJ,h4,c1,c2,aY];exact WL.to ih (by simp) (by simp) fun x e σ' hh=>hh
    ·simp[-length_flatMap,-map_take,rU,h1,a1,a3,hL,hF,b1,b2,hP,n0,n1,hjl,hje,hle,z1,hσ,hL1,hR1,jl,jl2,w1,w2,w3,w4,hS,xJ,h4,c1,c2,aY];exact WL.to ih (by simp) (by simp) fun x e σ' hh=>hh
    ·simp[-length_flatMap,-map_take,rU,h1,a1,a3,hL,hF,b1,b2,hP,n0,n1,hjl,hje,hle,z1,z2,hσ,hL1,hR1,jl,jl2,w1,w2,w3,w4,hS,xJ,h4,c1,c2,aY];exact WL.to ih (by simp) (by simp) fun x e σ' hh=>hh
theorem LG{l:List (List UInt8)}{a:Nat}(hl:l.length≤9223372036854775807)(ha:a≤255):
  lim T (.call false iD [.aI l.length (l.flatMap dh),.int .u8 a] [[]])=some (.val (.bool true) [[]]):=by
 obtain⟨v,hF,hv⟩:=atE (l:=l) (by omega) [[],[]];have hA:=aft;refine aA zP ln.eq_1 rfl ?_;cases v
 ·simp[-length_flatMap,-map_take,hF,hA]
 have hl:l.length≤1000000000:=by have:=hv rfl;omega
 have hR:=QV (σ:=[[],[]]) (l:=l) hl;cases hok:okB l
 ·rw[hok]at hR;simp[-length_flatMap,-map_take,hF,hR,hA]
 rw[hok]at hR;have hk:=JW.1 hok;have hk1:=hk.1;have hL:=fun S hS=>Jk (σ:=S) (l:=l) hl hS
 have hRun:=fun S hS=>Sq (σ:=S) hk hS
 have hel:(dE l).2.length=l.length:=Fb;have hK:=vQ (l:=l) (k:=0) Kv.zero hk.2;rw[show(oI nN 0 l).1=(dE l).1 from rfl]at hK;obtain⟨p1,p2⟩:=xB hK.pl;have hFi:=fun σ=>Sx (σ:=σ) (b:=(dE l).1) (by omega) (fun r hr=>(p2 r hr).len)
 obtain⟨k,hk2,hk3⟩:∃k:Nat,((a:Int).tmod ((l.length:Int)+1))=k∧k≤l.length:=by
  refine⟨a%(l.length+1),?_,by have:=Nat.mod_lt a (show 0<l.length+1 by omega);omega⟩;rw[Int.tmod_eq_emod_of_nonneg (by omega)];push_cast;rfl
 have tk:=QE (n:=k) hk;have tl:(l.take k).length=k:=by simp;omega
 have hL1:=fun S hS=>Jk (σ:=S) (l:=l.take k) (by omega) hS
 have hR1:=fun S hS=>Sq (σ:=S) tk hS
 have hKk:=vQ (l:=l.take k) (k:=0) Kv.zero tk.2;rw[show(oI nN 0 (l.take k)).1=(dE (l.take k)).1 from rfl]at hKk;have hg:=Ls hk.2 (n:=k) (l.length-k) (by omega);rw[show k+(l.length-k)=l.length by omega,List.take_length]at hg;have hgl:(dE (l.take k)).1.an.length≤(dE l).1.an.length:=by
  by_cases h:(dE (l.take k)).1.an.length≤(dE l).1.an.length
  ·exact h
  ·obtain⟨x,hx,_⟩:=hg (dE l).1.an.length _ (aF (by omega));have:=(au.1 hx).1;omega
 have hin1:=KM (σ:=[[],[]]) (l:=l) (er:=(dE l).2) hg hKk.ml hK.ml (dE (l.take k)).1.an.length 0 (by omega);have hin2:=ahs (σ:=[[],[]]) hk rfl rfl (by simp) (dE l).1.an.length 0 (by omega);have hm1:=hK.ml;rw[hel]at hin1 hin2;rw[tl,← Mk]at hL1 hR1;simp only[F9]at hRun hR1 hFi hin1 hin2;generalize (dE (l.take k)).1=c at hR1 hin1 hgl;generalize (dE l).1=b at hRun hFi hin1 hin2 hgl;generalize (dE l).2=er at hRun hin1 hin2;have w0:IntKind.i64.wrap (a:Int)=a:=fT (by omega);have w1:IntKind.i64.wrap ((l.length:Int)+1)=l.length+1:=fT (by omega);have w2:¬(l.length:Int)+1=0:=by omega
 have w3:(k:Int)≤l.length:=by omega
 have w4:¬(b.an.length:Int)<c.an.length:=by omega
 have w5:IntKind.i64.wrap (k:Int)=k:=fT (by omega);have w6:¬b.an.length<c.an.length:=by omega
 simp[-length_flatMap,-map_take,hF,hR,hL,hRun,hFi,hL1,hR1,w0,w1,w2,w3,w4,w5,w6,hk2,hk3];refine WL.to hin1 (by simp) rfl ?_;rintro x e σ' ⟨rfl,rfl,g0,g5,g6⟩;simp[-length_flatMap,-map_take,g0,g5,g6];refine WL.to hin2 (by simp) rfl ?_;rintro x e σ' ⟨rfl,rfl⟩;simp[-length_flatMap,-map_take,hA]
end Go.Proofs.YtfgljaglidhjiaaGreatDoor
namespace Go.Proofs.YtfgljaglidhjiaaGreatDoor
open List(length_flatMap map_take)
open Go Go.Abs Go.Book
theorem agT{α:Type}{T:Ty}{w:Nat}{f:α→List D}{Q:α→Prop}(h:∀ds,T.has ds→∃a,ds=f a∧Q a){d:D}(hd:(Ty.slice w T).has [d]):
  ∃l:List α,d=.aI l.length (l.flatMap f)∧l.length≤maxLen∧∀a∈l,Q a:=by
 simp only[Ty.has,kN,and_true]at hd;obtain⟨xs,rfl,hl,hx⟩:=hd;have key:∀xs:List (List D),(∀x∈xs,x.length=w∧T.has x)→∃l:List α,xs.flatten=l.flatMap f∧l.length=xs.length∧∀a∈l,Q a:=by
  intro xs;induction xs with
  |nil=>intro _;exact⟨[],rfl,rfl,by simp⟩
  |cons x xs ih =>
   intro hx;obtain⟨l,h1,h2,h3⟩:=ih fun y hy=>hx y (by simp[hy])
   obtain⟨a,rfl,ha⟩:=h x (hx x (by simp)).2;exact⟨a::l,by simp[h1],by simp[h2],fun b hb=>by
    rcases ba.1 hb with rfl | hb
    ·exact ha
    ·exact h3 b hb⟩
 obtain⟨l,h1,h2,h3⟩:=key xs hx;exact⟨l,by rw[h1,h2],by omega,h3⟩
theorem ag5{ds:List D}(h:Ty.str.has ds):∃s:List UInt8,ds=dh s∧s.length≤maxLen:=h
theorem asQ{d:D}(h:(Ty.int .u8).agp d):∃n:Nat,d=.int .u8 n∧n≤255:=by
 obtain⟨n,h,hw⟩:=h;cases h;simp only[Lit.wf,af,av]at hw;have hw:0≤n∧n≤255:=hw;exact⟨n.toNat,by rw[eO hw.1],by omega⟩
theorem D2(x0 x1:D)(t0:(Ty.slice 1 .str).agp x0)(t1:(Ty.int .u8).agp x1):∃σ',lim T (.call false iD [x0,x1] [[]])=some (.val (.bool true) σ'):=by
 obtain⟨l,rfl,hl,_⟩:=agT (fun ds h=>ag5 h) t0;obtain⟨a,rfl,ha⟩:=asQ t1;have hm:maxLen≤9223372036854775807:=by decide
 exact⟨_,LG (by omega) ha⟩
end Go.Proofs.YtfgljaglidhjiaaGreatDoor
