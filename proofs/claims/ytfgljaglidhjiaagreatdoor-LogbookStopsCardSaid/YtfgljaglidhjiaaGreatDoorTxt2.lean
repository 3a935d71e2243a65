/- What functions of the program answer, and what follows; part 2. -/
import Derived.Test.YtfgljaglidhjiaaGreatDoorBase4
import Derived.Test.YtfgljaglidhjiaaGreatDoorTab
import Derived.ProofKit
/-
  The day's stores.
-/
set_option linter.unusedVariables false
set_option maxRecDepth 1000000
namespace Go.Proofs.YtfgljaglidhjiaaGreatDoor
open Go Go.Abs
def qI (n : Int) : D := .int .i64 n
def b0 : Blk := .cells 0 [(qI 0), (qI 0), (qI 0), (qI 0), .nils, (qI 0), (qI 0), (qI 0), .nils, (.sl 3 0 0 0 0 4), .nils, (.sl 3 1 0 0 0 10), (.sl 3 2 0 0 0 2), (qI 1000), (qI 500), (qI 0), (.sl 3 3 0 0 0 2), (.sl 3 4 0 0 0 6), (.bool false), (.sl 3 5 0 0 0 4), (qI 0)]
def b1 : Blk := .cells 0 [(qI 2), (qI 1), (qI 1), (qI 4), .nils, (qI 0), (qI 0), (qI 0), .nils, (.sl 3 0 0 0 0 4), .nils, (.sl 3 1 0 0 0 10), (.sl 3 2 0 0 0 2), (qI 1000), (qI 500), (qI 0), (.sl 3 3 0 0 0 2), (.sl 3 4 0 0 0 6), (.bool false), (.sl 3 5 0 0 0 4), (qI 0)]
def b2 : Blk := .cells 0 [(qI 2), (qI 1), (qI 1), (qI 4), (.lst 3 [(qI 100), (qI 101), (qI 419), (qI 2676), (qI 150), (qI 150), (qI 476), (qI 632), (qI 2746), (qI 300), (qI 200), (qI 1555), (qI 852), (qI 2793), (qI 600)]), (qI 0), (qI 0), (qI 0), .nils, (.sl 3 0 0 0 0 4), .nils, (.sl 3 1 0 0 0 10), (.sl 3 2 0 0 0 2), (qI 1000), (qI 500), (qI 0), (.sl 3 3 0 0 0 2), (.sl 3 4 0 0 0 6), (.bool false), (.sl 3 5 0 0 0 4), (qI 1)]
def b3 : Blk := .cells 0 [(qI 2), (qI 1), (qI 1), (qI 4), (.lst 3 [(qI 100), (qI 101), (qI 419), (qI 2676), (qI 150), (qI 150), (qI 476), (qI 632), (qI 2746), (qI 300), (qI 200), (qI 1555), (qI 852), (qI 2793), (qI 600)]), (qI 1000), (qI 0), (qI 800), .nils, (.sl 3 0 0 0 0 4), .nils, (.sl 3 1 0 0 0 10), (.sl 3 2 0 0 0 2), (qI 1000), (qI 500), (qI 0), (.sl 3 3 0 0 0 2), (.sl 3 4 0 0 0 6), (.bool true), (.sl 3 5 0 0 0 4), (qI 2)]
def b4 : Blk := .cells 3 [(qI 0), (qI 0), (qI 0)]
def b5 : Blk := .cells 0 [(qI 2), (qI 1), (qI 1), (qI 4), (.lst 3 [(qI 100), (qI 101), (qI 419), (qI 2676), (qI 150), (qI 150), (qI 476), (qI 632), (qI 2746), (qI 300), (qI 200), (qI 1555), (qI 852), (qI 2793), (qI 600)]), (qI 1000), (qI 0), (qI 800), (.lst 1 [(qI 0), (qI 500), (qI 5)]), (.sl 3 0 0 0 0 4), .nils, (.sl 3 1 0 0 0 10), (.sl 3 2 0 0 0 2), (qI 1000), (qI 500), (qI 0), (.sl 3 3 0 0 0 2), (.sl 3 4 0 0 0 6), (.bool true), (.sl 3 5 0 0 0 4), (qI 3)]
def b6 : Blk := .cells 4 [(qI 0), (qI 0), (qI 0), (qI 0)]
def b7 : Blk := .cells 1 [(.str [97]), (.lst 8 [(qI 8000), (qI 8000), (qI 500), (qI 400), (qI 900), (qI 400), (qI 0), (qI 10)]), (.bool true), (qI 0)]
def b8 : Blk := .cells 1 [(qI 0), (qI 0), (qI 0), (qI 0)]
def b9 : Blk := .cells 0 [(qI 2), (qI 1), (qI 1), (qI 4), (.lst 3 [(qI 100), (qI 101), (qI 419), (qI 2676), (qI 150), (qI 150), (qI 476), (qI 632), (qI 2746), (qI 300), (qI 200), (qI 1555), (qI 852), (qI 2793), (qI 600)]), (qI 1000), (qI 0), (qI 800), (.lst 1 [(qI 0), (qI 500), (qI 5)]), (.sl 3 0 1 0 1 4), .nils, (.sl 3 1 0 0 0 10), (.sl 3 2 0 0 0 2), (qI 1000), (qI 500), (qI 0), (.sl 3 3 0 0 0 2), (.sl 3 4 0 0 0 6), (.bool true), (.sl 3 5 1 0 1 4), (qI 4)]
def b10 : Blk := .cells 5 [(qI 0), (qI 0), (qI 0), (qI 0), (qI 0)]
def b11 : Blk := .cells 2 [(.str [97]), (.lst 8 [(qI 8000), (qI 8000), (qI 500), (qI 400), (qI 900), (qI 400), (qI 0), (qI 10)]), (.bool true), (qI 0), (.str [98]), (.lst 8 [(qI 8000), (qI 8000), (qI 500), (qI 400), (qI 900), (qI 500), (qI 0), (qI 10)]), (.bool true), (qI 0)]
def b12 : Blk := .cells 2 [(qI 0), (qI 0), (qI 0), (qI 0), (qI 0), (qI 0), (qI 0), (qI 0)]
def b13 : Blk := .cells 0 [(qI 2), (qI 1), (qI 1), (qI 4), (.lst 3 [(qI 100), (qI 101), (qI 419), (qI 2676), (qI 150), (qI 150), (qI 476), (qI 632), (qI 2746), (qI 300), (qI 200), (qI 1555), (qI 852), (qI 2793), (qI 600)]), (qI 1000), (qI 0), (qI 800), (.lst 1 [(qI 0), (qI 500), (qI 5)]), (.sl 3 0 2 0 2 4), .nils, (.sl 3 1 0 0 0 10), (.sl 3 2 0 0 0 2), (qI 1000), (qI 500), (qI 0), (.sl 3 3 0 0 0 2), (.sl 3 4 0 0 0 6), (.bool true), (.sl 3 5 2 0 2 4), (qI 5)]
def b14 : Blk := .cells 6 [(qI 0), (qI 0), (qI 0), (qI 0), (qI 0), (qI 0)]
def b15 : Blk := .cells 2 [(.str [97]), (.lst 8 [(qI 8000), (qI 8000), (qI 500), (qI 400), (qI 900), (qI 400), (qI 0), (qI 10)]), (.bool true), (qI 0), (.str [98]), (.lst 8 [(qI 8000), (qI 8000), (qI 500), (qI 400), (qI 900), (qI 500), (qI 0), (qI 10)]), (.bool false), (qI 6)]
def b16 : Blk := .cells 2 [(qI 0), (qI 0), (qI 0), (qI 0), (qI 6), (qI 500), (qI 390), (qI 410)]
def b17 : Blk := .cells 0 [(qI 2), (qI 1), (qI 1), (qI 4), (.lst 3 [(qI 100), (qI 101), (qI 419), (qI 2676), (qI 150), (qI 150), (qI 476), (qI 632), (qI 2746), (qI 300), (qI 200), (qI 1555), (qI 852), (qI 2793), (qI 600)]), (qI 1000), (qI 0), (qI 800), (.lst 1 [(qI 0), (qI 500), (qI 5)]), (.sl 3 0 2 0 2 4), .nils, (.sl 3 1 0 0 0 10), (.sl 3 2 0 0 0 2), (qI 1000), (qI 500), (qI 0), (.sl 3 3 0 0 0 2), (.sl 3 4 0 0 0 6), (.bool true), (.sl 3 5 2 0 2 4), (qI 6)]
def b18 : Blk := .cells 7 [(qI 0), (qI 0), (qI 0), (qI 0), (qI 0), (qI 0), (qI 0)]
def b19 : Blk := .cells 1 [(qI 0), (qI 0), (qI 0), (qI 9), (qI 9), (qI 9), (qI 20), (qI 5), (qI 1), (.int .u8 (1))]
def b20 : Blk := .cells 0 [(qI 2), (qI 1), (qI 1), (qI 4), (.lst 3 [(qI 100), (qI 101), (qI 419), (qI 2676), (qI 150), (qI 150), (qI 476), (qI 632), (qI 2746), (qI 300), (qI 200), (qI 1555), (qI 852), (qI 2793), (qI 600)]), (qI 1000), (qI 0), (qI 800), (.lst 1 [(qI 0), (qI 500), (qI 5)]), (.sl 3 0 2 0 2 4), .nils, (.sl 3 1 1 0 1 10), (.sl 3 2 0 0 0 2), (qI 1000), (qI 500), (qI 0), (.sl 3 3 0 0 0 2), (.sl 3 4 0 0 0 6), (.bool true), (.sl 3 5 2 0 2 4), (qI 7)]
def b21 : Blk := .cells 8 [(qI 0), (qI 0), (qI 0), (qI 0), (qI 0), (qI 0), (qI 0), (qI 0)]
def b22 : Blk := .cells 1 [(qI 0), (.lst 1 [(qI 1), (qI 1), (qI 1), (qI 25)])]
def b23 : Blk := .cells 0 [(qI 2), (qI 1), (qI 1), (qI 4), (.lst 3 [(qI 100), (qI 101), (qI 419), (qI 2676), (qI 150), (qI 150), (qI 476), (qI 632), (qI 2746), (qI 300), (qI 200), (qI 1555), (qI 852), (qI 2793), (qI 600)]), (qI 1000), (qI 0), (qI 800), (.lst 1 [(qI 0), (qI 500), (qI 5)]), (.sl 3 0 2 0 2 4), .nils, (.sl 3 1 1 0 1 10), (.sl 3 2 1 0 1 2), (qI 1000), (qI 500), (qI 0), (.sl 3 3 0 0 0 2), (.sl 3 4 0 0 0 6), (.bool true), (.sl 3 5 2 0 2 4), (qI 8)]
def b24 : Blk := .cells 9 [(qI 0), (qI 0), (qI 0), (qI 0), (qI 0), (qI 0), (qI 0), (qI 0), (qI 0)]
def b25 : Blk := .cells 0 [(qI 2), (qI 1), (qI 1), (qI 4), (.lst 3 [(qI 100), (qI 101), (qI 419), (qI 2676), (qI 150), (qI 150), (qI 476), (qI 632), (qI 2746), (qI 300), (qI 200), (qI 1555), (qI 852), (qI 2793), (qI 600)]), (qI 1000), (qI 0), (qI 800), (.lst 1 [(qI 0), (qI 500), (qI 5)]), (.sl 3 0 2 0 2 4), (.lst 1 [(.lst 1 [(qI (-50))])]), (.sl 3 1 1 0 1 10), (.sl 3 2 1 0 1 2), (qI 1000), (qI 500), (qI 0), (.sl 3 3 0 0 0 2), (.sl 3 4 0 0 0 6), (.bool true), (.sl 3 5 2 0 2 4), (qI 9)]
def b26 : Blk := .cells 10 [(qI 0), (qI 0), (qI 0), (qI 0), (qI 0), (qI 0), (qI 0), (qI 0), (qI 0), (qI 0)]
def b27 : Blk := .cells 0 [(qI 2), (qI 1), (qI 1), (qI 4), (.lst 3 [(qI 100), (qI 101), (qI 419), (qI 2676), (qI 150), (qI 150), (qI 476), (qI 632), (qI 2746), (qI 300), (qI 200), (qI 1555), (qI 852), (qI 2793), (qI 600)]), (qI 1000), (qI 0), (qI 800), (.lst 1 [(qI 0), (qI 500), (qI 5)]), (.sl 3 0 2 0 2 4), (.lst 2 [(.lst 1 [(qI (-50))]), (.lst 1 [(qI 50)])]), (.sl 3 1 1 0 1 10), (.sl 3 2 1 0 1 2), (qI 1000), (qI 500), (qI 0), (.sl 3 3 0 0 0 2), (.sl 3 4 0 0 0 6), (.bool true), (.sl 3 5 2 0 2 4), (qI 10)]
def b28 : Blk := .cells 11 [(qI 0), (qI 0), (qI 0), (qI 0), (qI 0), (qI 0), (qI 0), (qI 0), (qI 0), (qI 0), (qI 0)]
def b29 : Blk := .cells 1 [(qI 0), (.lst 1 [(qI 100), (qI 400)])]
def b30 : Blk := .cells 0 [(qI 2), (qI 1), (qI 1), (qI 4), (.lst 3 [(qI 100), (qI 101), (qI 419), (qI 2676), (qI 150), (qI 150), (qI 476), (qI 632), (qI 2746), (qI 300), (qI 200), (qI 1555), (qI 852), (qI 2793), (qI 600)]), (qI 1000), (qI 0), (qI 800), (.lst 1 [(qI 0), (qI 500), (qI 5)]), (.sl 3 0 2 0 2 4), (.lst 2 [(.lst 1 [(qI (-50))]), (.lst 1 [(qI 50)])]), (.sl 3 1 1 0 1 10), (.sl 3 2 1 0 1 2), (qI 1000), (qI 500), (qI 0), (.sl 3 3 1 0 1 2), (.sl 3 4 0 0 0 6), (.bool true), (.sl 3 5 2 0 2 4), (qI 11)]
def b31 : Blk := .cells 12 [(qI 0), (qI 0), (qI 0), (qI 0), (qI 0), (qI 0), (qI 0), (qI 0), (qI 0), (qI 0), (qI 0), (qI 0)]
def b32 : Blk := .cells 1 [(qI 2), (qI 0), (qI 4000), (qI 4000), (qI 12000), (qI 12000)]
def b33 : Blk := .cells 0 [(qI 2), (qI 1), (qI 1), (qI 4), (.lst 3 [(qI 100), (qI 101), (qI 419), (qI 2676), (qI 150), (qI 150), (qI 476), (qI 632), (qI 2746), (qI 300), (qI 200), (qI 1555), (qI 852), (qI 2793), (qI 600)]), (qI 1000), (qI 0), (qI 800), (.lst 1 [(qI 0), (qI 500), (qI 5)]), (.sl 3 0 2 0 2 4), (.lst 2 [(.lst 1 [(qI (-50))]), (.lst 1 [(qI 50)])]), (.sl 3 1 1 0 1 10), (.sl 3 2 1 0 1 2), (qI 1000), (qI 500), (qI 0), (.sl 3 3 1 0 1 2), (.sl 3 4 1 0 1 6), (.bool true), (.sl 3 5 2 0 2 4), (qI 12)]
def b34 : Blk := .cells 13 [(qI 0), (qI 0), (qI 0), (qI 0), (qI 0), (qI 0), (qI 0), (qI 0), (qI 0), (qI 0), (qI 0), (qI 0), (qI 0)]
def b35 : Blk := .cells 1 [(.str [102, 105, 101, 108, 100, 32, 50, 32, 49, 32, 49, 32, 52]), (.str [116, 97, 98, 108, 101, 32, 49, 48, 48, 32, 49, 48, 49, 32, 52, 49, 57, 32, 50, 54, 55, 54, 32, 49, 53, 48, 32, 49, 53, 48, 32, 52, 55, 54, 32, 54, 51, 50, 32, 50, 55, 52, 54, 32, 51, 48, 48, 32, 50, 48, 48, 32, 49, 53, 53, 53, 32, 56, 53, 50, 32, 50, 55, 57, 51, 32, 54, 48, 48]), (.str [98, 101, 100, 32, 49, 48, 48, 48, 32, 48, 32, 56, 48, 48]), (.str [109, 111, 100, 101, 108, 32, 97, 32, 56, 48, 48, 48, 32, 56, 48, 48, 48, 32, 53, 48, 48, 32, 52, 48, 48, 32, 57, 48, 48, 32, 52, 48, 48, 32, 48, 32, 49, 48]), (.str [109, 111, 100, 101, 108, 32, 98, 32, 56, 48, 48, 48, 32, 56, 48, 48, 48, 32, 53, 48, 48, 32, 52, 48, 48, 32, 57, 48, 48, 32, 53, 48, 48, 32, 48, 32, 49, 48]), (.str [108, 111, 103, 32, 116, 49, 32, 50, 32, 51, 57, 48, 32, 52, 49, 48, 32, 49, 32, 49]), (.str [114, 117, 108, 101, 32, 48, 32, 48, 32, 48, 32, 57, 32, 57, 32, 57, 32, 50, 48, 32, 53, 32, 49, 32, 49]), (.str [113, 117, 97, 107, 101, 32, 49, 32, 49, 32, 49, 32, 50, 53]), (.str [116, 105, 99, 107, 32, 45, 49, 48, 48]), (.str [116, 105, 99, 107, 32, 53, 48]), (.str [117, 110, 105, 116, 32, 48, 32, 49, 48, 48, 32, 52, 48, 48]), (.str [115, 101, 108, 108, 32, 48, 32, 48, 32, 48, 32, 51]), (.str [])]
def b36 : Blk := .cells 0 [(qI 0), (qI 0), (qI 0), (qI 0), .nils, (qI 0), (qI 0), (qI 0), .nils, (.sl 3 9 0 0 0 4), .nils, (.sl 3 10 0 0 0 10), (.sl 3 11 0 0 0 2), (qI 1000), (qI 500), (qI 0), (.sl 3 12 0 0 0 2), (.sl 3 13 0 0 0 6), (.bool false), (.sl 3 14 0 0 0 4), (qI 0)]
def b37 : Blk := .cells 0 [(qI 2), (qI 1), (qI 1), (qI 4), .nils, (qI 0), (qI 0), (qI 0), .nils, (.sl 3 9 0 0 0 4), .nils, (.sl 3 10 0 0 0 10), (.sl 3 11 0 0 0 2), (qI 1000), (qI 500), (qI 0), (.sl 3 12 0 0 0 2), (.sl 3 13 0 0 0 6), (.bool false), (.sl 3 14 0 0 0 4), (qI 0)]
def b38 : Blk := .cells 0 [(qI 2), (qI 1), (qI 1), (qI 4), (.lst 3 [(qI 100), (qI 101), (qI 419), (qI 2676), (qI 150), (qI 150), (qI 476), (qI 632), (qI 2746), (qI 300), (qI 200), (qI 1555), (qI 852), (qI 2793), (qI 600)]), (qI 0), (qI 0), (qI 0), .nils, (.sl 3 9 0 0 0 4), .nils, (.sl 3 10 0 0 0 10), (.sl 3 11 0 0 0 2), (qI 1000), (qI 500), (qI 0), (.sl 3 12 0 0 0 2), (.sl 3 13 0 0 0 6), (.bool false), (.sl 3 14 0 0 0 4), (qI 1)]
def b39 : Blk := .cells 0 [(qI 2), (qI 1), (qI 1), (qI 4), (.lst 3 [(qI 100), (qI 101), (qI 419), (qI 2676), (qI 150), (qI 150), (qI 476), (qI 632), (qI 2746), (qI 300), (qI 200), (qI 1555), (qI 852), (qI 2793), (qI 600)]), (qI 1000), (qI 0), (qI 800), .nils, (.sl 3 9 0 0 0 4), .nils, (.sl 3 10 0 0 0 10), (.sl 3 11 0 0 0 2), (qI 1000), (qI 500), (qI 0), (.sl 3 12 0 0 0 2), (.sl 3 13 0 0 0 6), (.bool true), (.sl 3 14 0 0 0 4), (qI 2)]
def b40 : Blk := .cells 0 [(qI 2), (qI 1), (qI 1), (qI 4), (.lst 3 [(qI 100), (qI 101), (qI 419), (qI 2676), (qI 150), (qI 150), (qI 476), (qI 632), (qI 2746), (qI 300), (qI 200), (qI 1555), (qI 852), (qI 2793), (qI 600)]), (qI 1000), (qI 0), (qI 800), .nils, (.sl 3 9 1 0 1 4), .nils, (.sl 3 10 0 0 0 10), (.sl 3 11 0 0 0 2), (qI 1000), (qI 500), (qI 0), (.sl 3 12 0 0 0 2), (.sl 3 13 0 0 0 6), (.bool true), (.sl 3 14 1 0 1 4), (qI 3)]
def b41 : Blk := .cells 0 [(qI 2), (qI 1), (qI 1), (qI 4), (.lst 3 [(qI 100), (qI 101), (qI 419), (qI 2676), (qI 150), (qI 150), (qI 476), (qI 632), (qI 2746), (qI 300), (qI 200), (qI 1555), (qI 852), (qI 2793), (qI 600)]), (qI 1000), (qI 0), (qI 800), .nils, (.sl 3 9 2 0 2 4), .nils, (.sl 3 10 0 0 0 10), (.sl 3 11 0 0 0 2), (qI 1000), (qI 500), (qI 0), (.sl 3 12 0 0 0 2), (.sl 3 13 0 0 0 6), (.bool true), (.sl 3 14 2 0 2 4), (qI 4)]
def b42 : Blk := .cells 2 [(.str [97]), (.lst 8 [(qI 8000), (qI 8000), (qI 500), (qI 400), (qI 900), (qI 400), (qI 0), (qI 10)]), (.bool true), (qI 0), (.str [98]), (.lst 8 [(qI 8000), (qI 8000), (qI 500), (qI 400), (qI 900), (qI 500), (qI 0), (qI 10)]), (.bool false), (qI 5)]
def b43 : Blk := .cells 2 [(qI 0), (qI 0), (qI 0), (qI 0), (qI 5), (qI 500), (qI 390), (qI 410)]
def b44 : Blk := .cells 0 [(qI 2), (qI 1), (qI 1), (qI 4), (.lst 3 [(qI 100), (qI 101), (qI 419), (qI 2676), (qI 150), (qI 150), (qI 476), (qI 632), (qI 2746), (qI 300), (qI 200), (qI 1555), (qI 852), (qI 2793), (qI 600)]), (qI 1000), (qI 0), (qI 800), .nils, (.sl 3 9 2 0 2 4), .nils, (.sl 3 10 0 0 0 10), (.sl 3 11 0 0 0 2), (qI 1000), (qI 500), (qI 0), (.sl 3 12 0 0 0 2), (.sl 3 13 0 0 0 6), (.bool true), (.sl 3 14 2 0 2 4), (qI 5)]
def b45 : Blk := .cells 0 [(qI 2), (qI 1), (qI 1), (qI 4), (.lst 3 [(qI 100), (qI 101), (qI 419), (qI 2676), (qI 150), (qI 150), (qI 476), (qI 632), (qI 2746), (qI 300), (qI 200), (qI 1555), (qI 852), (qI 2793), (qI 600)]), (qI 1000), (qI 0), (qI 800), .nils, (.sl 3 9 2 0 2 4), .nils, (.sl 3 10 1 0 1 10), (.sl 3 11 0 0 0 2), (qI 1000), (qI 500), (qI 0), (.sl 3 12 0 0 0 2), (.sl 3 13 0 0 0 6), (.bool true), (.sl 3 14 2 0 2 4), (qI 6)]
def b46 : Blk := .cells 0 [(qI 2), (qI 1), (qI 1), (qI 4), (.lst 3 [(qI 100), (qI 101), (qI 419), (qI 2676), (qI 150), (qI 150), (qI 476), (qI 632), (qI 2746), (qI 300), (qI 200), (qI 1555), (qI 852), (qI 2793), (qI 600)]), (qI 1000), (qI 0), (qI 800), .nils, (.sl 3 9 2 0 2 4), .nils, (.sl 3 10 1 0 1 10), (.sl 3 11 1 0 1 2), (qI 1000), (qI 500), (qI 0), (.sl 3 12 0 0 0 2), (.sl 3 13 0 0 0 6), (.bool true), (.sl 3 14 2 0 2 4), (qI 7)]
def b47 : Blk := .cells 0 [(qI 2), (qI 1), (qI 1), (qI 4), (.lst 3 [(qI 100), (qI 101), (qI 419), (qI 2676), (qI 150), (qI 150), (qI 476), (qI 632), (qI 2746), (qI 300), (qI 200), (qI 1555), (qI 852), (qI 2793), (qI 600)]), (qI 1000), (qI 0), (qI 800), .nils, (.sl 3 9 2 0 2 4), .nils, (.sl 3 10 1 0 1 10), (.sl 3 11 1 0 1 2), (qI 1000), (qI 500), (qI 0), (.sl 3 12 0 0 0 2), (.sl 3 13 0 0 0 6), (.bool true), (.sl 3 14 2 0 2 4), (qI 8)]
def b48 : Blk := .cells 9 [(qI 0), (qI 0), (qI 0), (qI 0), (qI 0), (qI 0), (qI 0), (qI 0), (qI 1)]
def b49 : Blk := .cells 0 [(qI 2), (qI 1), (qI 1), (qI 4), (.lst 3 [(qI 100), (qI 101), (qI 419), (qI 2676), (qI 150), (qI 150), (qI 476), (qI 632), (qI 2746), (qI 300), (qI 200), (qI 1555), (qI 852), (qI 2793), (qI 600)]), (qI 1000), (qI 0), (qI 800), .nils, (.sl 3 9 2 0 2 4), .nils, (.sl 3 10 1 0 1 10), (.sl 3 11 1 0 1 2), (qI 1000), (qI 500), (qI 0), (.sl 3 12 0 0 0 2), (.sl 3 13 0 0 0 6), (.bool true), (.sl 3 14 2 0 2 4), (qI 9)]
def b50 : Blk := .cells 10 [(qI 0), (qI 0), (qI 0), (qI 0), (qI 0), (qI 0), (qI 0), (qI 0), (qI 1), (qI 1)]
def b51 : Blk := .cells 0 [(qI 2), (qI 1), (qI 1), (qI 4), (.lst 3 [(qI 100), (qI 101), (qI 419), (qI 2676), (qI 150), (qI 150), (qI 476), (qI 632), (qI 2746), (qI 300), (qI 200), (qI 1555), (qI 852), (qI 2793), (qI 600)]), (qI 1000), (qI 0), (qI 800), .nils, (.sl 3 9 2 0 2 4), .nils, (.sl 3 10 1 0 1 10), (.sl 3 11 1 0 1 2), (qI 1000), (qI 500), (qI 0), (.sl 3 12 1 0 1 2), (.sl 3 13 0 0 0 6), (.bool true), (.sl 3 14 2 0 2 4), (qI 10)]
def b52 : Blk := .cells 11 [(qI 0), (qI 0), (qI 0), (qI 0), (qI 0), (qI 0), (qI 0), (qI 0), (qI 1), (qI 1), (qI 0)]
def b53 : Blk := .cells 0 [(qI 2), (qI 1), (qI 1), (qI 4), (.lst 3 [(qI 100), (qI 101), (qI 419), (qI 2676), (qI 150), (qI 150), (qI 476), (qI 632), (qI 2746), (qI 300), (qI 200), (qI 1555), (qI 852), (qI 2793), (qI 600)]), (qI 1000), (qI 0), (qI 800), .nils, (.sl 3 9 2 0 2 4), .nils, (.sl 3 10 1 0 1 10), (.sl 3 11 1 0 1 2), (qI 1000), (qI 500), (qI 0), (.sl 3 12 1 0 1 2), (.sl 3 13 0 0 0 6), (.bool true), (.sl 3 14 2 0 2 4), (qI 11)]
def s0 (F G : List Blk) : Stack := [[.cells 0 [], .cells 0 [], .cells 0 [], .cells 0 [], .cells 0 [], .cells 0 [], b0, .cells 0 []], [], F, G]
def s1 (F G : List Blk) : Stack := [[.cells 0 [], .cells 0 [], .cells 0 [], .cells 0 [], .cells 0 [], .cells 0 [], b1, .cells 0 []], [], F, G]
def s2 (F G : List Blk) : Stack := [[.cells 0 [], .cells 0 [], .cells 0 [], .cells 0 [], .cells 0 [], .cells 0 [], b1, .cells 1 [(qI 0)]], [], F, G]
def s3 (F G : List Blk) : Stack := [[.cells 0 [], .cells 0 [], .cells 0 [], .cells 0 [], .cells 0 [], .cells 0 [], b2, .cells 1 [(qI 0)]], [], F, G]
def s4 (F G : List Blk) : Stack := [[.cells 0 [], .cells 0 [], .cells 0 [], .cells 0 [], .cells 0 [], .cells 0 [], b2, .cells 2 [(qI 0), (qI 0)]], [], F, G]
def s5 (F G : List Blk) : Stack := [[.cells 0 [], .cells 0 [], .cells 0 [], .cells 0 [], .cells 0 [], .cells 0 [], b3, .cells 2 [(qI 0), (qI 0)]], [], F, G]
def s6 (F G : List Blk) : Stack := [[.cells 0 [], .cells 0 [], .cells 0 [], .cells 0 [], .cells 0 [], .cells 0 [], b3, b4], [], F, G]
def s7 (F G : List Blk) : Stack := [[.cells 0 [], .cells 0 [], .cells 0 [], .cells 0 [], .cells 0 [], .cells 0 [], b5, b4], [], F, G]
def s8 (F G : List Blk) : Stack := [[.cells 0 [], .cells 0 [], .cells 0 [], .cells 0 [], .cells 0 [], .cells 0 [], b5, b6], [], F, G]
def s9 (F G : List Blk) : Stack := [[b7, .cells 0 [], .cells 0 [], .cells 0 [], .cells 0 [], b8, b9, b6], [], F, G]
def s10 (F G : List Blk) : Stack := [[b7, .cells 0 [], .cells 0 [], .cells 0 [], .cells 0 [], b8, b9, b10], [], F, G]
def s11 (F G : List Blk) : Stack := [[b11, .cells 0 [], .cells 0 [], .cells 0 [], .cells 0 [], b12, b13, b10], [], F, G]
def s12 (F G : List Blk) : Stack := [[b11, .cells 0 [], .cells 0 [], .cells 0 [], .cells 0 [], b12, b13, b14], [], F, G]
def s13 (F G : List Blk) : Stack := [[b15, .cells 0 [], .cells 0 [], .cells 0 [], .cells 0 [], b16, b17, b14], [], F, G]
def s14 (F G : List Blk) : Stack := [[b15, .cells 0 [], .cells 0 [], .cells 0 [], .cells 0 [], b16, b17, b18], [], F, G]
def s15 (F G : List Blk) : Stack := [[b15, b19, .cells 0 [], .cells 0 [], .cells 0 [], b16, b20, b18], [], F, G]
def s16 (F G : List Blk) : Stack := [[b15, b19, .cells 0 [], .cells 0 [], .cells 0 [], b16, b20, b21], [], F, G]
def s17 (F G : List Blk) : Stack := [[b15, b19, b22, .cells 0 [], .cells 0 [], b16, b23, b21], [], F, G]
def s18 (F G : List Blk) : Stack := [[b15, b19, b22, .cells 0 [], .cells 0 [], b16, b23, b24], [], F, G]
def s19 (F G : List Blk) : Stack := [[b15, b19, b22, .cells 0 [], .cells 0 [], b16, b25, b24], [], F, G]
def s20 (F G : List Blk) : Stack := [[b15, b19, b22, .cells 0 [], .cells 0 [], b16, b25, b26], [], F, G]
def s21 (F G : List Blk) : Stack := [[b15, b19, b22, .cells 0 [], .cells 0 [], b16, b27, b26], [], F, G]
def s22 (F G : List Blk) : Stack := [[b15, b19, b22, .cells 0 [], .cells 0 [], b16, b27, b28], [], F, G]
def s23 (F G : List Blk) : Stack := [[b15, b19, b22, b29, .cells 0 [], b16, b30, b28], [], F, G]
def s24 (F G : List Blk) : Stack := [[b15, b19, b22, b29, .cells 0 [], b16, b30, b31], [], F, G]
def s25 (F G : List Blk) : Stack := [[b15, b19, b22, b29, b32, b16, b33, b31], [], F, G]
def s26 (F G : List Blk) : Stack := [[b15, b19, b22, b29, b32, b16, b33, b34, b35, .cells 0 [], .cells 0 [], .cells 0 [], .cells 0 [], .cells 0 [], .cells 0 [], b36, .cells 0 []], [], F, G]
def s27 (F G : List Blk) : Stack := [[b15, b19, b22, b29, b32, b16, b33, b34, b35, .cells 0 [], .cells 0 [], .cells 0 [], .cells 0 [], .cells 0 [], .cells 0 [], b37, .cells 0 []], [], F, G]
def s28 (F G : List Blk) : Stack := [[b15, b19, b22, b29, b32, b16, b33, b34, b35, .cells 0 [], .cells 0 [], .cells 0 [], .cells 0 [], .cells 0 [], .cells 0 [], b37, .cells 1 [(qI 0)]], [], F, G]
def s29 (F G : List Blk) : Stack := [[b15, b19, b22, b29, b32, b16, b33, b34, b35, .cells 0 [], .cells 0 [], .cells 0 [], .cells 0 [], .cells 0 [], .cells 0 [], b38, .cells 1 [(qI 0)]], [], F, G]
def s30 (F G : List Blk) : Stack := [[b15, b19, b22, b29, b32, b16, b33, b34, b35, .cells 0 [], .cells 0 [], .cells 0 [], .cells 0 [], .cells 0 [], .cells 0 [], b38, .cells 2 [(qI 0), (qI 0)]], [], F, G]
def s31 (F G : List Blk) : Stack := [[b15, b19, b22, b29, b32, b16, b33, b34, b35, .cells 0 [], .cells 0 [], .cells 0 [], .cells 0 [], .cells 0 [], .cells 0 [], b39, .cells 2 [(qI 0), (qI 0)]], [], F, G]
def s32 (F G : List Blk) : Stack := [[b15, b19, b22, b29, b32, b16, b33, b34, b35, .cells 0 [], .cells 0 [], .cells 0 [], .cells 0 [], .cells 0 [], .cells 0 [], b39, b4], [], F, G]
def s33 (F G : List Blk) : Stack := [[b15, b19, b22, b29, b32, b16, b33, b34, b35, b7, .cells 0 [], .cells 0 [], .cells 0 [], .cells 0 [], b8, b40, b4], [], F, G]
def s34 (F G : List Blk) : Stack := [[b15, b19, b22, b29, b32, b16, b33, b34, b35, b7, .cells 0 [], .cells 0 [], .cells 0 [], .cells 0 [], b8, b40, b6], [], F, G]
def s35 (F G : List Blk) : Stack := [[b15, b19, b22, b29, b32, b16, b33, b34, b35, b11, .cells 0 [], .cells 0 [], .cells 0 [], .cells 0 [], b12, b41, b6], [], F, G]
def s36 (F G : List Blk) : Stack := [[b15, b19, b22, b29, b32, b16, b33, b34, b35, b11, .cells 0 [], .cells 0 [], .cells 0 [], .cells 0 [], b12, b41, b10], [], F, G]
def s37 (F G : List Blk) : Stack := [[b15, b19, b22, b29, b32, b16, b33, b34, b35, b42, .cells 0 [], .cells 0 [], .cells 0 [], .cells 0 [], b43, b44, b10], [], F, G]
def s38 (F G : List Blk) : Stack := [[b15, b19, b22, b29, b32, b16, b33, b34, b35, b42, .cells 0 [], .cells 0 [], .cells 0 [], .cells 0 [], b43, b44, b14], [], F, G]
def s39 (F G : List Blk) : Stack := [[b15, b19, b22, b29, b32, b16, b33, b34, b35, b42, b19, .cells 0 [], .cells 0 [], .cells 0 [], b43, b45, b14], [], F, G]
def s40 (F G : List Blk) : Stack := [[b15, b19, b22, b29, b32, b16, b33, b34, b35, b42, b19, .cells 0 [], .cells 0 [], .cells 0 [], b43, b45, b18], [], F, G]
def s41 (F G : List Blk) : Stack := [[b15, b19, b22, b29, b32, b16, b33, b34, b35, b42, b19, b22, .cells 0 [], .cells 0 [], b43, b46, b18], [], F, G]
def s42 (F G : List Blk) : Stack := [[b15, b19, b22, b29, b32, b16, b33, b34, b35, b42, b19, b22, .cells 0 [], .cells 0 [], b43, b46, b21], [], F, G]
def s43 (F G : List Blk) : Stack := [[b15, b19, b22, b29, b32, b16, b33, b34, b35, b42, b19, b22, .cells 0 [], .cells 0 [], b43, b47, b21], [], F, G]
def s44 (F G : List Blk) : Stack := [[b15, b19, b22, b29, b32, b16, b33, b34, b35, b42, b19, b22, .cells 0 [], .cells 0 [], b43, b47, b48], [], F, G]
def s45 (F G : List Blk) : Stack := [[b15, b19, b22, b29, b32, b16, b33, b34, b35, b42, b19, b22, .cells 0 [], .cells 0 [], b43, b49, b48], [], F, G]
def s46 (F G : List Blk) : Stack := [[b15, b19, b22, b29, b32, b16, b33, b34, b35, b42, b19, b22, .cells 0 [], .cells 0 [], b43, b49, b50], [], F, G]
def s47 (F G : List Blk) : Stack := [[b15, b19, b22, b29, b32, b16, b33, b34, b35, b42, b19, b22, b29, .cells 0 [], b43, b51, b50], [], F, G]
def s48 (F G : List Blk) : Stack := [[b15, b19, b22, b29, b32, b16, b33, b34, b35, b42, b19, b22, b29, .cells 0 [], b43, b51, b52], [], F, G]
def s49 (F G : List Blk) : Stack := [[b15, b19, b22, b29, b32, b16, b33, b34, b35, b42, b19, b22, b29, .cells 0 [], b43, b53, b52], [], F, G]
def wm0 (F G : List Blk) : Memo := ⟨i_logbook_book_line, [(.ref 3 6 0 0), (qI 0), (.str [102, 105, 101, 108, 100, 32, 50, 32, 49, 32, 49, 32, 52])], s0 F G, (qI 0), s1 F G⟩
def wm1 (F G : List Blk) : Memo := ⟨i_logbook_book_line, [(.ref 3 6 0 0), (qI 1), (.str [116, 97, 98, 108, 101, 32, 49, 48, 48, 32, 49, 48, 49, 32, 52, 49, 57, 32, 50, 54, 55, 54, 32, 49, 53, 48, 32, 49, 53, 48, 32, 52, 55, 54, 32, 54, 51, 50, 32, 50, 55, 52, 54, 32, 51, 48, 48, 32, 50, 48, 48, 32, 49, 53, 53, 53, 32, 56, 53, 50, 32, 50, 55, 57, 51, 32, 54, 48, 48])], s2 F G, (qI 0), s3 F G⟩
def wm2 (F G : List Blk) : Memo := ⟨i_logbook_book_line, [(.ref 3 6 0 0), (qI 2), (.str [98, 101, 100, 32, 49, 48, 48, 48, 32, 48, 32, 56, 48, 48])], s4 F G, (qI 0), s5 F G⟩
def wm3 (F G : List Blk) : Memo := ⟨i_logbook_book_line, [(.ref 3 6 0 0), (qI 3), (.str [119, 101, 108, 108, 32, 48, 32, 53, 48, 48, 32, 53])], s6 F G, (qI 0), s7 F G⟩
def wm4 (F G : List Blk) : Memo := ⟨i_logbook_book_line, [(.ref 3 6 0 0), (qI 4), (.str [109, 111, 100, 101, 108, 32, 97, 32, 56, 48, 48, 48, 32, 56, 48, 48, 48, 32, 53, 48, 48, 32, 52, 48, 48, 32, 57, 48, 48, 32, 52, 48, 48, 32, 48, 32, 49, 48])], s8 F G, (qI 0), s9 F G⟩
def wm5 (F G : List Blk) : Memo := ⟨i_logbook_book_line, [(.ref 3 6 0 0), (qI 5), (.str [109, 111, 100, 101, 108, 32, 98, 32, 56, 48, 48, 48, 32, 56, 48, 48, 48, 32, 53, 48, 48, 32, 52, 48, 48, 32, 57, 48, 48, 32, 53, 48, 48, 32, 48, 32, 49, 48])], s10 F G, (qI 0), s11 F G⟩
def wm6 (F G : List Blk) : Memo := ⟨i_logbook_book_line, [(.ref 3 6 0 0), (qI 6), (.str [108, 111, 103, 32, 116, 49, 32, 50, 32, 51, 57, 48, 32, 52, 49, 48, 32, 49, 32, 49])], s12 F G, (qI 0), s13 F G⟩
def wm7 (F G : List Blk) : Memo := ⟨i_logbook_book_line, [(.ref 3 6 0 0), (qI 7), (.str [114, 117, 108, 101, 32, 48, 32, 48, 32, 48, 32, 57, 32, 57, 32, 57, 32, 50, 48, 32, 53, 32, 49, 32, 49])], s14 F G, (qI 0), s15 F G⟩
def wm8 (F G : List Blk) : Memo := ⟨i_logbook_book_line, [(.ref 3 6 0 0), (qI 8), (.str [113, 117, 97, 107, 101, 32, 49, 32, 49, 32, 49, 32, 50, 53])], s16 F G, (qI 0), s17 F G⟩
def wm9 (F G : List Blk) : Memo := ⟨i_logbook_book_line, [(.ref 3 6 0 0), (qI 9), (.str [116, 105, 99, 107, 32, 45, 49, 48, 48])], s18 F G, (qI 0), s19 F G⟩
def wm10 (F G : List Blk) : Memo := ⟨i_logbook_book_line, [(.ref 3 6 0 0), (qI 10), (.str [116, 105, 99, 107, 32, 53, 48])], s20 F G, (qI 0), s21 F G⟩
def wm11 (F G : List Blk) : Memo := ⟨i_logbook_book_line, [(.ref 3 6 0 0), (qI 11), (.str [117, 110, 105, 116, 32, 48, 32, 49, 48, 48, 32, 52, 48, 48])], s22 F G, (qI 0), s23 F G⟩
def wm12 (F G : List Blk) : Memo := ⟨i_logbook_book_line, [(.ref 3 6 0 0), (qI 12), (.str [115, 101, 108, 108, 32, 48, 32, 48, 32, 48, 32, 51])], s24 F G, (qI 0), s25 F G⟩
def wm13 (F G : List Blk) : Memo := ⟨i_logbook_book_line, [(.ref 3 15 0 0), (qI 0), (.str [102, 105, 101, 108, 100, 32, 50, 32, 49, 32, 49, 32, 52])], s26 F G, (qI 0), s27 F G⟩
def wm14 (F G : List Blk) : Memo := ⟨i_logbook_book_line, [(.ref 3 15 0 0), (qI 1), (.str [116, 97, 98, 108, 101, 32, 49, 48, 48, 32, 49, 48, 49, 32, 52, 49, 57, 32, 50, 54, 55, 54, 32, 49, 53, 48, 32, 49, 53, 48, 32, 52, 55, 54, 32, 54, 51, 50, 32, 50, 55, 52, 54, 32, 51, 48, 48, 32, 50, 48, 48, 32, 49, 53, 53, 53, 32, 56, 53, 50, 32, 50, 55, 57, 51, 32, 54, 48, 48])], s28 F G, (qI 0), s29 F G⟩
def wm15 (F G : List Blk) : Memo := ⟨i_logbook_book_line, [(.ref 3 15 0 0), (qI 2), (.str [98, 101, 100, 32, 49, 48, 48, 48, 32, 48, 32, 56, 48, 48])], s30 F G, (qI 0), s31 F G⟩
def wm16 (F G : List Blk) : Memo := ⟨i_logbook_book_line, [(.ref 3 15 0 0), (qI 3), (.str [109, 111, 100, 101, 108, 32, 97, 32, 56, 48, 48, 48, 32, 56, 48, 48, 48, 32, 53, 48, 48, 32, 52, 48, 48, 32, 57, 48, 48, 32, 52, 48, 48, 32, 48, 32, 49, 48])], s32 F G, (qI 0), s33 F G⟩
def wm17 (F G : List Blk) : Memo := ⟨i_logbook_book_line, [(.ref 3 15 0 0), (qI 4), (.str [109, 111, 100, 101, 108, 32, 98, 32, 56, 48, 48, 48, 32, 56, 48, 48, 48, 32, 53, 48, 48, 32, 52, 48, 48, 32, 57, 48, 48, 32, 53, 48, 48, 32, 48, 32, 49, 48])], s34 F G, (qI 0), s35 F G⟩
def wm18 (F G : List Blk) : Memo := ⟨i_logbook_book_line, [(.ref 3 15 0 0), (qI 5), (.str [108, 111, 103, 32, 116, 49, 32, 50, 32, 51, 57, 48, 32, 52, 49, 48, 32, 49, 32, 49])], s36 F G, (qI 0), s37 F G⟩
def wm19 (F G : List Blk) : Memo := ⟨i_logbook_book_line, [(.ref 3 15 0 0), (qI 6), (.str [114, 117, 108, 101, 32, 48, 32, 48, 32, 48, 32, 57, 32, 57, 32, 57, 32, 50, 48, 32, 53, 32, 49, 32, 49])], s38 F G, (qI 0), s39 F G⟩
def wm20 (F G : List Blk) : Memo := ⟨i_logbook_book_line, [(.ref 3 15 0 0), (qI 7), (.str [113, 117, 97, 107, 101, 32, 49, 32, 49, 32, 49, 32, 50, 53])], s40 F G, (qI 0), s41 F G⟩
def wm21 (F G : List Blk) : Memo := ⟨i_logbook_book_line, [(.ref 3 15 0 0), (qI 8), (.str [116, 105, 99, 107, 32, 45, 49, 48, 48])], s42 F G, (qI 1), s43 F G⟩
def wm22 (F G : List Blk) : Memo := ⟨i_logbook_book_line, [(.ref 3 15 0 0), (qI 9), (.str [116, 105, 99, 107, 32, 53, 48])], s44 F G, (qI 1), s45 F G⟩
def wm23 (F G : List Blk) : Memo := ⟨i_logbook_book_line, [(.ref 3 15 0 0), (qI 10), (.str [117, 110, 105, 116, 32, 48, 32, 49, 48, 48, 32, 52, 48, 48])], s46 F G, (qI 0), s47 F G⟩
def wm24 (F G : List Blk) : Memo := ⟨i_logbook_book_line, [(.ref 3 15 0 0), (qI 11), (.str [115, 101, 108, 108, 32, 48, 32, 48, 32, 48, 32, 51])], s48 F G, (qI 8), s49 F G⟩
end Go.Proofs.YtfgljaglidhjiaaGreatDoor

/-
  The day's lines, part 1.
-/
set_option linter.unusedVariables false
set_option maxRecDepth 1000000
namespace Go.Proofs.YtfgljaglidhjiaaGreatDoor
open Go Go.Abs
theorem wk0 : (wm0 [] []).Ok T := lim_iff.2 ⟨300, by kernel_rfl⟩
theorem wk5 : (wm5 [] []).Ok T := lim_iff.2 ⟨300, by kernel_rfl⟩
theorem wk10 : (wm10 [] []).Ok T := lim_iff.2 ⟨300, by kernel_rfl⟩
theorem wk15 : (wm15 [] []).Ok T := lim_iff.2 ⟨300, by kernel_rfl⟩
theorem wk20 : (wm20 [] []).Ok T := lim_iff.2 ⟨300, by kernel_rfl⟩
end Go.Proofs.YtfgljaglidhjiaaGreatDoor

/-
  The day's lines, part 2.
-/
set_option linter.unusedVariables false
set_option maxRecDepth 1000000
namespace Go.Proofs.YtfgljaglidhjiaaGreatDoor
open Go Go.Abs
theorem wk1 : (wm1 [] []).Ok T := lim_iff.2 ⟨300, by kernel_rfl⟩
theorem wk6 : (wm6 [] []).Ok T := lim_iff.2 ⟨300, by kernel_rfl⟩
theorem wk11 : (wm11 [] []).Ok T := lim_iff.2 ⟨300, by kernel_rfl⟩
theorem wk16 : (wm16 [] []).Ok T := lim_iff.2 ⟨300, by kernel_rfl⟩
theorem wk21 : (wm21 [] []).Ok T := lim_iff.2 ⟨300, by kernel_rfl⟩
end Go.Proofs.YtfgljaglidhjiaaGreatDoor

/-
  The day's lines, part 3.
-/
set_option linter.unusedVariables false
set_option maxRecDepth 1000000
namespace Go.Proofs.YtfgljaglidhjiaaGreatDoor
open Go Go.Abs
theorem wk2 : (wm2 [] []).Ok T := lim_iff.2 ⟨300, by kernel_rfl⟩
theorem wk7 : (wm7 [] []).Ok T := lim_iff.2 ⟨300, by kernel_rfl⟩
theorem wk12 : (wm12 [] []).Ok T := lim_iff.2 ⟨300, by kernel_rfl⟩
theorem wk17 : (wm17 [] []).Ok T := lim_iff.2 ⟨300, by kernel_rfl⟩
theorem wk22 : (wm22 [] []).Ok T := lim_iff.2 ⟨300, by kernel_rfl⟩
end Go.Proofs.YtfgljaglidhjiaaGreatDoor

/-
  The day's lines, part 4.
-/
set_option linter.unusedVariables false
set_option maxRecDepth 1000000
namespace Go.Proofs.YtfgljaglidhjiaaGreatDoor
open Go Go.Abs
theorem wk3 : (wm3 [] []).Ok T := lim_iff.2 ⟨300, by kernel_rfl⟩
theorem wk8 : (wm8 [] []).Ok T := lim_iff.2 ⟨300, by kernel_rfl⟩
theorem wk13 : (wm13 [] []).Ok T := lim_iff.2 ⟨300, by kernel_rfl⟩
theorem wk18 : (wm18 [] []).Ok T := lim_iff.2 ⟨300, by kernel_rfl⟩
theorem wk23 : (wm23 [] []).Ok T := lim_iff.2 ⟨300, by kernel_rfl⟩
end Go.Proofs.YtfgljaglidhjiaaGreatDoor

/-
  The day's lines, part 5.
-/
set_option linter.unusedVariables false
set_option maxRecDepth 1000000
namespace Go.Proofs.YtfgljaglidhjiaaGreatDoor
open Go Go.Abs
theorem wk4 : (wm4 [] []).Ok T := lim_iff.2 ⟨300, by kernel_rfl⟩
theorem wk9 : (wm9 [] []).Ok T := lim_iff.2 ⟨300, by kernel_rfl⟩
theorem wk14 : (wm14 [] []).Ok T := lim_iff.2 ⟨300, by kernel_rfl⟩
theorem wk19 : (wm19 [] []).Ok T := lim_iff.2 ⟨300, by kernel_rfl⟩
theorem wk24 : (wm24 [] []).Ok T := lim_iff.2 ⟨300, by kernel_rfl⟩
end Go.Proofs.YtfgljaglidhjiaaGreatDoor

/-
  A day.
-/
set_option linter.unusedVariables false
set_option maxRecDepth 1000000
namespace Go.Proofs.YtfgljaglidhjiaaGreatDoor
open Go Go.Abs
def mDay : List Memo := [wm0 [] [], wm1 [] [], wm2 [] [], wm3 [] [], wm4 [] [], wm5 [] [], wm6 [] [], wm7 [] [], wm8 [] [], wm9 [] [], wm10 [] [], wm11 [] [], wm12 [] [], wm13 [] [], wm14 [] [], wm15 [] [], wm16 [] [], wm17 [] [], wm18 [] [], wm19 [] [], wm20 [] [], wm21 [] [], wm22 [] [], wm23 [] [], wm24 [] []]
theorem mDay_ok : ∀ m ∈ mDay, m.Ok T := by
  simp only [mDay, List.mem_cons, List.not_mem_nil, or_false, forall_eq_or_imp, forall_eq]
  exact ⟨wk0, wk1, wk2, wk3, wk4, wk5, wk6, wk7, wk8, wk9, wk10, wk11, wk12, wk13, wk14, wk15, wk16, wk17, wk18, wk19, wk20, wk21, wk22, wk23, wk24⟩
theorem it_awake : itM T mDay 120 (.call false i_law12_awake [] [[], []]) = some (.val (.bool true) [[], []]) := by kernel_rfl
theorem C_awake : lim T (.call false i_law12_awake [] [[], []]) = some (.val (.bool true) [[], []]) := itM_lim mDay_ok it_awake
end Go.Proofs.YtfgljaglidhjiaaGreatDoor

/-
  The day's lines, part 1.
-/
set_option linter.unusedVariables false
set_option maxRecDepth 1000000
namespace Go.Proofs.YtfgljaglidhjiaaGreatDoor
open Go Go.Abs
theorem wkD0 : (wm0 [.dead] []).Ok T := lim_iff.2 ⟨300, by kernel_rfl⟩
theorem wkD5 : (wm5 [.dead] []).Ok T := lim_iff.2 ⟨300, by kernel_rfl⟩
theorem wkD10 : (wm10 [.dead] []).Ok T := lim_iff.2 ⟨300, by kernel_rfl⟩
theorem wkD15 : (wm15 [.dead] []).Ok T := lim_iff.2 ⟨300, by kernel_rfl⟩
theorem wkD20 : (wm20 [.dead] []).Ok T := lim_iff.2 ⟨300, by kernel_rfl⟩
end Go.Proofs.YtfgljaglidhjiaaGreatDoor

/-
  The day's lines, part 2.
-/
set_option linter.unusedVariables false
set_option maxRecDepth 1000000
namespace Go.Proofs.YtfgljaglidhjiaaGreatDoor
open Go Go.Abs
theorem wkD1 : (wm1 [.dead] []).Ok T := lim_iff.2 ⟨300, by kernel_rfl⟩
theorem wkD6 : (wm6 [.dead] []).Ok T := lim_iff.2 ⟨300, by kernel_rfl⟩
theorem wkD11 : (wm11 [.dead] []).Ok T := lim_iff.2 ⟨300, by kernel_rfl⟩
theorem wkD16 : (wm16 [.dead] []).Ok T := lim_iff.2 ⟨300, by kernel_rfl⟩
theorem wkD21 : (wm21 [.dead] []).Ok T := lim_iff.2 ⟨300, by kernel_rfl⟩
end Go.Proofs.YtfgljaglidhjiaaGreatDoor

/-
  The day's lines, part 3.
-/
set_option linter.unusedVariables false
set_option maxRecDepth 1000000
namespace Go.Proofs.YtfgljaglidhjiaaGreatDoor
open Go Go.Abs
theorem wkD2 : (wm2 [.dead] []).Ok T := lim_iff.2 ⟨300, by kernel_rfl⟩
theorem wkD7 : (wm7 [.dead] []).Ok T := lim_iff.2 ⟨300, by kernel_rfl⟩
theorem wkD12 : (wm12 [.dead] []).Ok T := lim_iff.2 ⟨300, by kernel_rfl⟩
theorem wkD17 : (wm17 [.dead] []).Ok T := lim_iff.2 ⟨300, by kernel_rfl⟩
theorem wkD22 : (wm22 [.dead] []).Ok T := lim_iff.2 ⟨300, by kernel_rfl⟩
end Go.Proofs.YtfgljaglidhjiaaGreatDoor

/-
  The day's lines, part 4.
-/
set_option linter.unusedVariables false
set_option maxRecDepth 1000000
namespace Go.Proofs.YtfgljaglidhjiaaGreatDoor
open Go Go.Abs
theorem wkD3 : (wm3 [.dead] []).Ok T := lim_iff.2 ⟨300, by kernel_rfl⟩
theorem wkD8 : (wm8 [.dead] []).Ok T := lim_iff.2 ⟨300, by kernel_rfl⟩
theorem wkD13 : (wm13 [.dead] []).Ok T := lim_iff.2 ⟨300, by kernel_rfl⟩
theorem wkD18 : (wm18 [.dead] []).Ok T := lim_iff.2 ⟨300, by kernel_rfl⟩
theorem wkD23 : (wm23 [.dead] []).Ok T := lim_iff.2 ⟨300, by kernel_rfl⟩
end Go.Proofs.YtfgljaglidhjiaaGreatDoor

/-
  The day's lines, part 5.
-/
set_option linter.unusedVariables false
set_option maxRecDepth 1000000
namespace Go.Proofs.YtfgljaglidhjiaaGreatDoor
open Go Go.Abs
theorem wkD4 : (wm4 [.dead] []).Ok T := lim_iff.2 ⟨300, by kernel_rfl⟩
theorem wkD9 : (wm9 [.dead] []).Ok T := lim_iff.2 ⟨300, by kernel_rfl⟩
theorem wkD14 : (wm14 [.dead] []).Ok T := lim_iff.2 ⟨300, by kernel_rfl⟩
theorem wkD19 : (wm19 [.dead] []).Ok T := lim_iff.2 ⟨300, by kernel_rfl⟩
theorem wkD24 : (wm24 [.dead] []).Ok T := lim_iff.2 ⟨300, by kernel_rfl⟩
end Go.Proofs.YtfgljaglidhjiaaGreatDoor

/-
  A day.
-/
set_option linter.unusedVariables false
set_option maxRecDepth 1000000
namespace Go.Proofs.YtfgljaglidhjiaaGreatDoor
open Go Go.Abs
def mDayD : List Memo := [wm0 [.dead] [], wm1 [.dead] [], wm2 [.dead] [], wm3 [.dead] [], wm4 [.dead] [], wm5 [.dead] [], wm6 [.dead] [], wm7 [.dead] [], wm8 [.dead] [], wm9 [.dead] [], wm10 [.dead] [], wm11 [.dead] [], wm12 [.dead] [], wm13 [.dead] [], wm14 [.dead] [], wm15 [.dead] [], wm16 [.dead] [], wm17 [.dead] [], wm18 [.dead] [], wm19 [.dead] [], wm20 [.dead] [], wm21 [.dead] [], wm22 [.dead] [], wm23 [.dead] [], wm24 [.dead] []]
theorem mDayD_ok : ∀ m ∈ mDayD, m.Ok T := by
  simp only [mDayD, List.mem_cons, List.not_mem_nil, or_false, forall_eq_or_imp, forall_eq]
  exact ⟨wkD0, wkD1, wkD2, wkD3, wkD4, wkD5, wkD6, wkD7, wkD8, wkD9, wkD10, wkD11, wkD12, wkD13, wkD14, wkD15, wkD16, wkD17, wkD18, wkD19, wkD20, wkD21, wkD22, wkD23, wkD24⟩
theorem it_awakeD : itM T mDayD 120 (.call false i_law12_awake [] [[.dead], []]) = some (.val (.bool true) [[.dead], []]) := by kernel_rfl
theorem C_awakeD : lim T (.call false i_law12_awake [] [[.dead], []]) = some (.val (.bool true) [[.dead], []]) := itM_lim mDayD_ok it_awakeD
end Go.Proofs.YtfgljaglidhjiaaGreatDoor
