/- SolveNames: the values that calls are told to answer. -/
import Derived.Test.YtnpknclpnogagaaGreatDoorW0
import Derived.Test.YtnpknclpnogagaaGreatDoorMt
import Derived.Test.YtnpknclpnogagaaGreatDoorSF
namespace Go.Proofs.YtnpknclpnogagaaGreatDoor
open Go.Ax
/-- The functions that are walked with all outcomes; those whose answers are told anew. -/
noncomputable abbrev nkW (T : PTab) : NK := ⟨fun f => memF f [22, 62, 64, 66, 104, 109, 114, 158], fun f => memF f [22, 62, 64, 66], fun f => memF f [], prOr sortedEP (prT T), ctL [(9, 98, ⟨[0, 3, 6, 7], false, [], [3], [], 1, []⟩), (11, 98, ⟨[], true, [], [], [], 30, [0, 12]⟩), (14, 141, ⟨[0, 8], false, [], [8], [111], 1, [8]⟩), (12, 104, ⟨[1, 2, 4, 5, 6], false, [2], [], [], 1, []⟩)]⟩
def iW (n : Nat) : AV := .int .i64 (.ofNat n)
def uW (n : Nat) : AV := .int .u64 (.ofNat n)
def bW (n : Nat) : AV := .int .u8 (.ofNat n)
def lW0 : List AV := [.str [116, 121, 112, 101, 32, 105, 110, 116, 10, 116, 121, 112, 101, 32, 112, 116, 114, 32, 116, 48, 10, 116, 121, 112, 101, 32, 102, 110, 32, 116, 48, 10, 116, 121, 112, 101, 32, 102, 110, 32, 116, 49, 32, 116, 49, 10, 102, 117, 110, 99, 32, 116, 50, 10, 98, 108, 111, 99, 107, 10, 114, 48, 32, 116, 49, 32, 61, 32, 110, 101, 119, 10, 114, 49, 32, 116, 48, 32, 61, 32, 105, 110, 116, 32, 51, 10, 106, 117, 109, 112, 32, 98, 49, 10, 98, 108, 111, 99, 107, 10, 114, 50, 32, 116, 49, 32, 61, 32, 112, 104, 105, 32, 98, 48, 32, 114, 48, 32, 98, 50, 32, 114, 53, 10, 114, 51, 32, 116, 48, 32, 61, 32, 112, 104, 105, 32, 98, 48, 32, 114, 49, 32, 98, 50, 32, 114, 54, 10, 98, 114, 97, 110, 99, 104, 32, 114, 51, 32, 98, 50, 32, 98, 51, 10, 98, 108, 111, 99, 107, 10, 114, 52, 32, 116, 51, 32, 61, 32, 102, 110, 32, 102, 49, 10, 114, 53, 32, 116, 49, 32, 61, 32, 105, 99, 97, 108, 108, 32, 114, 52, 32, 114, 50, 10, 114, 54, 32, 116, 48, 32, 61, 32, 115, 117, 98, 32, 114, 51, 32, 114, 51, 10, 106, 117, 109, 112, 32, 98, 49, 10, 98, 108, 111, 99, 107, 10, 114, 55, 32, 116, 48, 32, 61, 32, 105, 110, 116, 32, 48, 10, 114, 101, 116, 117, 114, 110, 32, 114, 55, 10, 102, 117, 110, 99, 32, 116, 51, 10, 98, 108, 111, 99, 107, 10, 114, 49, 32, 116, 49, 32, 61, 32, 108, 111, 99, 97, 108, 10, 114, 101, 116, 117, 114, 110, 32, 114, 48, 10]]
def lW1 : List AV := [.str [116, 121, 112, 101]]
def lW2 : List AV := [.isl [lW1, [.str [105, 110, 116]]]]
def lW3 : List AV := [.isl [lW1, [.str [112, 116, 114]], [.str [116, 48]]]]
def lW4 : List AV := [.isl [lW1, [.str [102, 110]], [.str [116, 48]]]]
def lW5 : List AV := [.str [102, 117, 110, 99]]
def lW6 : List AV := [.isl [[.str [98, 108, 111, 99, 107]]]]
def lW7 : List AV := [.isl [[.str [106, 117, 109, 112]], [.str [98, 49]]]]
def lW8 : List AV := [.str [114, 101, 116, 117, 114, 110]]
def lW9 : List AV := [.isl [lW5, [.str [116, 51]]]]
def lW10 : List AV := [bW 1, iW 0, iW 0, iW 0, iW 0, .nilsl, .nilsl]
def lW11 : List AV := [bW 1, iW 0, iW 0, .nilsl]
def lW12 : List AV := [bW 2, iW 0, iW 0, .nilsl]
def lW13 : List AV := [bW 3, iW 0, iW 0, .nilsl]
def vW14 : AV := .isl [lW11, lW12, lW13, [bW 3, iW 1, iW 0, .isl [[iW 1]]]]
def lW15 : List AV := [bW 11, iW 1, iW 0, iW 0, iW 0, .nilsl, .nilsl]
def lW16 : List AV := [bW 1, iW 0, iW 0, iW 0, iW 3, .nilsl, .nilsl]
def lW17 : List AV := [bW 22, iW 1, iW 0, iW 0, iW 0, .isl [[iW 0], [iW 5]], .isl [[iW 0], [iW 2]]]
def lW18 : List AV := [bW 22, iW 0, iW 0, iW 0, iW 0, .isl [[iW 1], [iW 6]], .isl [[iW 0], [iW 2]]]
def lW19 : List AV := [bW 3, iW 3, iW 0, iW 0, iW 1, .nilsl, .nilsl]
def lW20 : List AV := [bW 19, iW 1, iW 4, iW 0, iW 0, .isl [[iW 2]], .nilsl]
def lW21 : List AV := [bW 5, iW 0, iW 3, iW 3, iW 0, .nilsl, .nilsl]
def lW22 : List AV := [bW 12, iW 1, iW 0, iW 0, iW 0, .nilsl, .nilsl]
def vW23 : AV := .isl [[iW 2, .isl [[.isl [lW15, lW16], bW 1, iW 0, iW 1, iW 0], [.isl [lW17, lW18], bW 2, iW 3, iW 2, iW 3], [.isl [lW19, lW20, lW21], bW 1, iW 0, iW 1, iW 0], [.isl [lW10], bW 3, iW 7, iW 0, iW 0]]], [iW 3, .isl [[.isl [lW22], bW 3, iW 0, iW 0, iW 0]]]]
def lW24 : List AV := [.agg [vW14, vW23], iW 0]
def lW25 : List AV := [.int .i64 (.negSucc 0)]
def lW26 : List AV := [.agg [vW14, vW23], iW 0, iW 2]
def vW27 : AV := .tup [.isl [[iW 1]], iW 0]
def lW28 : List AV := [.agg [vW14, vW23], iW 1]
def vW29 : AV := .tup [.isl [[iW 0]], iW 0]
def vW30 : AV := .tup [.isl [lW25], iW 0]
def lW31 : List AV := [.agg [vW14, vW23], iW 1, iW 0]
def vW32 : AV := .isl [[iW 0], [iW 1], [iW 2], [iW 3], [iW 4], [iW 5], [iW 6], [iW 7], [iW 8], [iW 9], [iW 10], [iW 11], [iW 12], [iW 13]]
def lW33 : List AV := [bW 6, iW 5, iW 4, iW 0, .isl [[iW 2]]]
def vW34 : AV := .isl [[iW 0], [iW 1], [iW 2], [iW 3], [iW 4], [iW 2], [iW 6], [iW 7], [iW 2], [iW 9], [iW 10], [iW 2], [iW 12], [iW 13]]
def vW35 : AV := .isl [[iW 0], [iW 1], [iW 2], [iW 3], [iW 4], [iW 2], [iW 6], [iW 7], [iW 8], [iW 9], [iW 10], [iW 11], [iW 12], [iW 13]]
def vW36 : AV := .isl [[iW 0], [iW 1], [iW 2], [iW 3], [iW 4], [iW 2], [iW 6], [iW 7], [iW 2], [iW 9], [iW 10], [iW 11], [iW 12], [iW 13]]
def vW37 : AV := .tup [.isl [[iW 3]], iW 0]
def lW38 : List AV := [.agg [vW14, vW23], iW 2, iW 0]
def lW39 : List AV := [.str [116, 121, 112, 101, 32, 105, 110, 116, 10, 116, 121, 112, 101, 32, 112, 116, 114, 32, 116, 48, 10, 116, 121, 112, 101, 32, 112, 116, 114, 32, 116, 49, 10, 116, 121, 112, 101, 32, 102, 110, 32, 116, 48, 10, 102, 117, 110, 99, 32, 116, 51, 10, 98, 108, 111, 99, 107, 10, 114, 48, 32, 116, 50, 32, 61, 32, 110, 101, 119, 10, 114, 49, 32, 116, 49, 32, 61, 32, 108, 111, 97, 100, 32, 114, 48, 10, 114, 50, 32, 116, 48, 32, 61, 32, 105, 110, 116, 32, 49, 10, 114, 101, 116, 117, 114, 110, 32, 114, 50, 10]]
def vW40 : AV := .isl [lW11, lW12, [bW 2, iW 1, iW 0, .nilsl], lW13]
def lW41 : List AV := [bW 11, iW 2, iW 0, iW 0, iW 0, .nilsl, .nilsl]
def lW42 : List AV := [bW 16, iW 1, iW 0, iW 0, iW 0, .nilsl, .nilsl]
def lW43 : List AV := [bW 1, iW 0, iW 0, iW 0, iW 1, .nilsl, .nilsl]
def vW44 : AV := .isl [[iW 3, .isl [[.isl [lW41, lW42, lW43], bW 3, iW 2, iW 0, iW 0]]]]
def lW45 : List AV := [.agg [vW40, vW44], iW 0]
def lW46 : List AV := [.agg [vW40, vW44], iW 0, iW 0]
def vW47 : AV := .isl [[iW 0], [iW 1], [iW 2], [iW 3], [iW 4]]
def lW48 : List AV := [bW 4, iW 1, iW 0, iW 0, .nilsl]
def vW49 : AV := .tup [.isl [[iW 2]], iW 0]
def lW50 : List AV := [.agg [vW40, vW44], iW 0, iW 1]
def lW51 : List AV := [.agg [vW40, vW44], iW 0, iW 2]
def lW52 : List AV := [.agg [vW14, vW23], iW 0, iW 5]
def lW53 : List AV := [.agg [vW14, vW23], iW 0, iW 4]
def lW54 : List AV := [.agg [vW14, vW23], iW 1, iW 1]
def vW55 : AV := .tup [.isl [[iW 4]], iW 0]
def lW56 : List AV := [.ptr 5 0, .agg [iW 0, iW 2]]
def tW57 : Tr AObj := .n .e (some (.cells 79 [iW 0, uW 8])) .e
def oW58 : AObj := .cells 3 [iW 0, iW 0, iW 1, iW 0, iW 1]
def tW59 : Tr AObj := .n (.n .e none tW57) none .e
def tW60 : Tr AObj := .n (.n (.n .e none tW57) (some oW58) .e) none tW59
def oW61 : AObj := .map [(.agg [iW 0, iW 2], iW 1, 0), (.agg [iW 5, iW 2], iW 1, 1), (.agg [iW 8, iW 11], iW 1, 2)] 3
def tW62 : Tr AObj := .n .e (some (.cells 79 [iW 0, uW 16])) .e
def tW63 : Tr AObj := .n (.n (.n .e none tW57) none (.n tW62 none .e)) none (.n .e (some (.cells 79 [iW 0, uW 8])) (.n tW57 none .e))
def tW64 : Tr AObj := .n .e none (.n .e (some (.cells 3 [iW 3])) .e)
def tW65 : Tr AObj := .n tW64 (some (.cells 75 [.nilsl, .nilsl, .sl 98 0 1 1 2 false, .nilsl, .sl 142 0 1 1 2 false, .nilsl, .nilsl, .nilsl, .nilsl, .sl 180 0 1 1 2 false, .nilsl, .nilsl, .nilsl, .nilsl])) .e
def tW66 : Tr AObj := .n .e (some (.cells 79 [iW 0, uW 0])) .e
def tW67 : Tr AObj := .n (.n .e none tW66) none .e
def tW68 : Tr AObj := .n tW57 none (.n (.n .e (some (.cells 3 [iW 0, iW 2, iW 4, iW 9])) .e) none .e)
def oW69 : AObj := .cells 68 [vW14, vW23, iW 14, iW 5, .sl 29 0 5 5 1 false, .sl 31 0 5 5 1 false, .sl 17 0 2 2 1 false, iW 10, vW32, .sl 32 0 14 14 1 true, .sl 33 0 14 14 1 true, .map 2, .map 3, .map 4, .sl 34 0 14 14 1 true]
def tW70 : Tr AObj := .n .e (some (.cells 79 [iW 0, uW 4])) .e
def tW71 : Tr AObj := .n .e (some (.cells 213 [.fn (.func 144) [] []])) .e
def oW72 : AObj := .cells 5 [bW 0, bW 1, bW 1, bW 2, bW 2]
def tW73 : Tr AObj := .n .e (some (.defd none)) .e
def tW74 : Tr AObj := .n tW59 (some oW72) (.n .e none (.n tW73 none .e))
def tW75 : Tr AObj := .n (.n (.n tW60 none (.n tW59 none .e)) (some oW61) (.n (.n (.n (.n .e none (.n .e (some (.cells 141 [iW 0, iW 2, iW 5, iW 2, iW 8, iW 11])) .e)) none .e) none .e) none tW63)) none (.n (.n (.n tW65 (some (.cells 3 [iW 0, iW 8])) .e) none (.n tW67 none tW68)) (some oW69) (.n (.n (.n (.n tW70 none tW71) none .e) none .e) none tW74))
def tW76 : Tr AObj := .n .e (some (.cells 64 [.map 2])) .e
def tW77 : Tr AObj := .n (.n (.n tW64 (some (.cells 75 [.sl 59 0 1 1 2 false, .nilsl, .sl 89 0 1 1 2 false, .nilsl, .sl 133 0 1 1 2 false, .nilsl, .nilsl, .nilsl, .nilsl, .sl 171 0 1 1 2 false, .nilsl, .nilsl, .nilsl, .nilsl])) .e) none tW59) none (.n tW59 none (.n .e none (.n tW76 none .e)))
def tW78 : Tr AObj := .n .e (some (.cells 141 [iW 0, iW 2])) .e
def tW79 : Tr AObj := .n .e none (.n tW62 none .e)
def tW80 : Tr AObj := .n tW59 none (.n .e none (.n (.n .e (some (.cells 75 [.sl 68 0 1 1 2 false])) .e) none .e))
def tW81 : Tr AObj := .n (.n (.n (.n .e (some (.cells 79 [iW 0, uW 8])) tW78) none .e) none tW79) none tW80
def oW82 : AObj := .map [(iW 2, iW 1, 1), (iW 4, iW 1, 2), (iW 9, iW 1, 3)] 4
def tW83 : Tr AObj := .n .e (some (.cells 65 [.map 3])) .e
def oW84 : AObj := .cells 57 [.nilsl, .nilsl, .nilsl, .nilsl, .sl 146 0 1 1 5 false, .nilsl, .nilsl, .nilsl, .nilsl, .nilsl, .nilsl, .nilsl, .nilsl, .nilsl]
def tW85 : Tr AObj := .n .e (some (.cells 61 lW33)) .e
def tW86 : Tr AObj := .n (.n (.n .e none tW83) (some oW84) tW57) none (.n (.n tW85 none .e) none .e)
def tW87 : Tr AObj := .n .e none (.n (.n .e (some (.cells 29 [.sl 193 0 1 1 1 false])) .e) none .e)
def tW88 : Tr AObj := .n .e none (.n .e (some (.cells 75 [.nilsl])) .e)
def tW89 : Tr AObj := .n (.n tW88 none .e) none .e
def tW90 : Tr AObj := .n (.n (.n tW70 none tW57) none .e) none .e
def tW91 : Tr AObj := .n (.n tW86 none (.n tW59 none tW87)) none (.n tW89 none tW90)
def oW92 : AObj := .map [(.agg [iW 0, iW 2], iW 1, 0)] 1
def tW93 : Tr AObj := .n (.n (.n tW60 none tW89) (some oW61) (.n (.n (.n (.n .e none (.n .e (some (.cells 141 [iW 5, iW 2, iW 0, iW 2, iW 8, iW 11])) .e)) none .e) none .e) none tW63)) none (.n (.n (.n tW65 (some (.cells 3 [iW 0, iW 8])) tW59) none (.n tW59 none tW68)) (some oW69) (.n (.n (.n (.n tW70 none tW78) none .e) none .e) none tW74))
def tW94 : Tr AObj := .n .e (some (.cells 141 [iW 5, iW 2])) .e
def tW95 : Tr AObj := .n (.n (.n (.n .e (some (.cells 79 [iW 0, uW 8])) tW94) none .e) none tW79) none tW80
def tW96 : Tr AObj := .n (.n .e none tW71) none .e
def tW97 : Tr AObj := .n (.n tW86 none (.n tW67 none tW87)) none (.n (.n tW96 none .e) none tW90)
def tW98 : Tr AObj := .n .e none (.n .e (some (.cells 141 [iW 2, iW 8])) .e)
def tW99 : Tr AObj := .n (.n .e none tW57) none (.n .e none tW57)
def tW100 : Tr AObj := .n (.n (.n (.n .e none tW57) (some oW58) (.n .e none tW66)) none (.n tW98 none .e)) none (.n tW99 none tW67)
def oW101 : AObj := .map [(.agg [iW 0, iW 2], iW 1, 0), (.agg [iW 5, iW 2], iW 1, 1), (.agg [iW 8, iW 11], iW 1, 2), (.agg [iW 2, iW 8], iW 1, 3), (.agg [iW 11, iW 5], iW 1, 4)] 5
def tW102 : Tr AObj := .n .e (some (.cells 213 [.fn (.func 145) [] []])) .e
def tW103 : Tr AObj := .n (.n (.n .e none tW57) none (.n .e none tW102)) none tW59
def tW104 : Tr AObj := .n .e none (.n .e (some (.cells 141 [iW 0, iW 2, iW 5, iW 2, iW 11, iW 5, iW 2, iW 8, iW 8, iW 11])) .e)
def tW105 : Tr AObj := .n tW104 none (.n tW62 none tW57)
def tW106 : Tr AObj := .n .e (some (.cells 75 [.sl 226 0 1 1 2 false])) .e
def tW107 : Tr AObj := .n (.n .e none tW106) (some (.cells 79 [iW 0, uW 8])) .e
def tW108 : Tr AObj := .n tW103 none (.n tW105 none tW107)
def tW109 : Tr AObj := .n .e (some (.cells 3 [iW 8, iW 9])) .e
def tW110 : Tr AObj := .n tW64 none (.n .e none tW57)
def tW111 : Tr AObj := .n tW110 none (.n (.n .e (some (.cells 79 [iW 0, uW 8])) tW57) none .e)
def tW112 : Tr AObj := .n (.n (.n (.n .e none tW109) (some (.cells 75 [.nilsl, .nilsl, .nilsl, .nilsl, .nilsl, .nilsl, .nilsl, .nilsl, .nilsl, .sl 180 0 1 1 2 false, .nilsl, .sl 235 0 1 1 2 false, .nilsl, .nilsl])) (.n .e none tW57)) (some (.cells 3 [iW 0, iW 8])) tW96) none tW111
def tW113 : Tr AObj := .n (.n (.n tW70 none tW73) none (.n .e none tW57)) none tW59
def tW114 : Tr AObj := .n (.n .e none tW94) none .e
def tW115 : Tr AObj := .n (.n tW100 (some oW101) tW108) none (.n tW112 (some oW69) (.n tW113 none (.n tW114 (some oW72) tW67)))
def tW116 : Tr AObj := .n .e (some (.cells 141 [iW 8, iW 11])) .e
def tW117 : Tr AObj := .n (.n .e none tW116) none .e
def tW118 : Tr AObj := .n tW64 none (.n .e none tW66)
def tW119 : Tr AObj := .n (.n (.n (.n .e none tW76) (some (.cells 75 [.sl 59 0 1 1 2 false, .nilsl, .sl 89 0 1 1 2 false, .nilsl, .sl 133 0 1 1 2 false, .nilsl, .nilsl, .nilsl, .sl 190 0 1 1 2 false, .sl 171 0 1 1 2 false, .nilsl, .sl 226 0 1 1 2 false, .nilsl, .nilsl])) (.n .e none tW57)) none tW117) none (.n tW118 none tW59)
def oW120 : AObj := .map [(.agg [iW 0, iW 2], iW 1, 0), (.agg [iW 8, iW 11], iW 1, 1)] 2
def tW121 : Tr AObj := .n .e (some (.cells 75 [.sl 191 0 1 1 2 false])) .e
def tW122 : Tr AObj := .n .e none (.n .e (some (.cells 75 [.sl 235 0 1 1 2 false])) .e)
def tW123 : Tr AObj := .n (.n .e none tW66) none (.n tW62 none .e)
def tW124 : Tr AObj := .n (.n (.n .e none tW121) none tW122) none tW123
def tW125 : Tr AObj := .n (.n .e none tW78) none (.n .e none tW116)
def oW126 : AObj := .map [(iW 9, iW 1, 3), (iW 11, iW 1, 5)] 6
def tW127 : Tr AObj := .n .e (some (.cells 29 [.sl 201 0 1 1 1 false])) .e
def tW128 : Tr AObj := .n .e (some (.cells 75 [.sl 217 0 1 1 2 false])) .e
def tW129 : Tr AObj := .n (.n tW85 none tW128) none .e
def tW130 : Tr AObj := .n (.n .e none tW83) none (.n .e none tW57)
def tW131 : Tr AObj := .n tW130 none (.n (.n .e none tW102) none .e)
def tW132 : Tr AObj := .n .e none (.n .e none tW66)
def tW133 : Tr AObj := .n .e none (.n .e (some (.cells 141 [iW 11, iW 5])) .e)
def tW134 : Tr AObj := .n (.n (.n (.n (.n .e none tW127) (some oW84) (.n .e none tW57)) none tW129) none tW131) none (.n (.n tW132 none tW59) none (.n (.n tW133 none .e) none (.n (.n .e none tW57) none (.n tW57 none .e))))
def tW135 : Tr AObj := .n (.n tW57 none .e) none tW57
def tW136 : Tr AObj := .n (.n (.n tW135 (some oW58) (.n .e none tW66)) none (.n tW98 none .e)) none (.n tW99 none tW67)
def tW137 : Tr AObj := .n (.n tW66 none .e) none tW57
def tW138 : Tr AObj := .n tW137 none (.n .e none tW102)
def tW139 : Tr AObj := .n (.n tW57 none .e) none tW109
def tW140 : Tr AObj := .n (.n (.n tW139 (some (.cells 75 [.nilsl, .nilsl, .sl 261 0 1 1 2 false, .nilsl, .nilsl, .nilsl, .nilsl, .nilsl, .nilsl, .sl 180 0 1 1 2 false, .nilsl, .sl 235 0 1 1 2 false, .nilsl, .nilsl])) (.n .e none tW57)) (some (.cells 3 [iW 0, iW 8])) tW96) none tW111
def oW141 : AObj := .cells 68 [vW14, vW23, iW 14, iW 5, .sl 29 0 5 5 1 false, .sl 31 0 5 5 1 false, .sl 17 0 2 2 1 false, iW 10, vW35, .sl 32 0 14 14 1 true, .sl 33 0 14 14 1 true, .map 2, .map 262, .map 4, .sl 34 0 14 14 1 true]
def tW142 : Tr AObj := .n (.n (.n tW57 (some (.cells 79 [iW 0, uW 4])) .e) none tW73) none (.n .e none tW57)
def tW143 : Tr AObj := .n (.n .e none tW66) none (.n .e none tW102)
def tW144 : Tr AObj := .n (.n tW136 none (.n (.n tW138 none tW59) none (.n tW105 none tW107))) none (.n tW140 (some oW141) (.n (.n tW142 none tW59) none (.n tW114 (some oW72) tW143)))
def tW145 : Tr AObj := .n (.n tW66 none .e) none tW76
def tW146 : Tr AObj := .n (.n (.n tW145 (some (.cells 75 [.sl 59 0 1 1 2 false, .nilsl, .sl 261 0 1 1 2 false, .nilsl, .sl 133 0 1 1 2 false, .nilsl, .nilsl, .nilsl, .sl 190 0 1 1 2 false, .sl 171 0 1 1 2 false, .nilsl, .sl 226 0 1 1 2 false, .nilsl, .nilsl])) (.n .e none tW57)) none tW117) none (.n tW118 none tW59)
def tW147 : Tr AObj := .n (.n (.n tW57 none .e) none tW121) none tW122
def tW148 : Tr AObj := .n tW146 (some oW120) (.n (.n tW147 none tW123) none (.n tW125 none tW59))
def oW149 : AObj := .map [(iW 9, iW 1, 3), (iW 11, iW 1, 5), (iW 2, iW 1, 6)] 7
def tW150 : Tr AObj := .n (.n (.n tW57 none .e) none tW127) (some oW84) (.n .e none tW57)
def tW151 : Tr AObj := .n (.n tW150 none tW129) none tW131
def tW152 : Tr AObj := .n tW57 none (.n .e (some (.cells 75 [.sl 261 0 1 1 2 false])) .e)
def tW153 : Tr AObj := .n (.n tW133 none .e) none (.n (.n .e none tW57) none tW152)
def tW154 : Tr AObj := .n tW151 none (.n (.n (.n (.n (.n (.n .e (some (.map [(.agg [iW 0, iW 2], iW 1, 0), (.agg [iW 8, iW 11], iW 1, 1), (.agg [iW 2, iW 8], iW 1, 2), (.agg [iW 11, iW 2], iW 1, 3)] 4)) .e) none .e) none .e) none (.n .e none tW66)) none tW59) none tW153)
def hW155 : Hp := { nx := 274, m := (.n tW144 (some (.cells 25 [vW14, vW23])) (.n tW148 (some oW149) tW154)), lo := 0 }
def tW156 : Tr AObj := .n tW151 none (.n (.n (.n (.n (.n (.n .e (some (.map [(.agg [iW 0, iW 2], iW 1, 0), (.agg [iW 8, iW 11], iW 1, 1), (.agg [iW 11, iW 2], iW 1, 2), (.agg [iW 2, iW 8], iW 1, 3)] 4)) .e) none .e) none .e) none (.n .e none tW66)) none tW59) none tW153)
def hW157 : Hp := { nx := 274, m := (.n tW144 (some (.cells 25 [vW14, vW23])) (.n tW148 (some oW149) tW156)), lo := 0 }
def tW158 : Tr AObj := .n tW151 none (.n (.n (.n (.n (.n (.n .e (some (.map [(.agg [iW 0, iW 2], iW 1, 0), (.agg [iW 2, iW 8], iW 1, 1), (.agg [iW 8, iW 11], iW 1, 2), (.agg [iW 11, iW 2], iW 1, 3)] 4)) .e) none .e) none .e) none (.n .e none tW66)) none tW59) none tW153)
def hW159 : Hp := { nx := 274, m := (.n tW144 (some (.cells 25 [vW14, vW23])) (.n tW148 (some oW149) tW158)), lo := 0 }
def tW160 : Tr AObj := .n tW151 none (.n (.n (.n (.n (.n (.n .e (some (.map [(.agg [iW 0, iW 2], iW 1, 0), (.agg [iW 2, iW 8], iW 1, 1), (.agg [iW 11, iW 2], iW 1, 2), (.agg [iW 8, iW 11], iW 1, 3)] 4)) .e) none .e) none .e) none (.n .e none tW66)) none tW59) none tW153)
def hW161 : Hp := { nx := 274, m := (.n tW144 (some (.cells 25 [vW14, vW23])) (.n tW148 (some oW149) tW160)), lo := 0 }
def tW162 : Tr AObj := .n tW151 none (.n (.n (.n (.n (.n (.n .e (some (.map [(.agg [iW 0, iW 2], iW 1, 0), (.agg [iW 11, iW 2], iW 1, 1), (.agg [iW 8, iW 11], iW 1, 2), (.agg [iW 2, iW 8], iW 1, 3)] 4)) .e) none .e) none .e) none (.n .e none tW66)) none tW59) none tW153)
def hW163 : Hp := { nx := 274, m := (.n tW144 (some (.cells 25 [vW14, vW23])) (.n tW148 (some oW149) tW162)), lo := 0 }
def tW164 : Tr AObj := .n tW151 none (.n (.n (.n (.n (.n (.n .e (some (.map [(.agg [iW 0, iW 2], iW 1, 0), (.agg [iW 11, iW 2], iW 1, 1), (.agg [iW 2, iW 8], iW 1, 2), (.agg [iW 8, iW 11], iW 1, 3)] 4)) .e) none .e) none .e) none (.n .e none tW66)) none tW59) none tW153)
def hW165 : Hp := { nx := 274, m := (.n tW144 (some (.cells 25 [vW14, vW23])) (.n tW148 (some oW149) tW164)), lo := 0 }
def tW166 : Tr AObj := .n tW151 none (.n (.n (.n (.n (.n (.n .e (some (.map [(.agg [iW 8, iW 11], iW 1, 0), (.agg [iW 0, iW 2], iW 1, 1), (.agg [iW 2, iW 8], iW 1, 2), (.agg [iW 11, iW 2], iW 1, 3)] 4)) .e) none .e) none .e) none (.n .e none tW66)) none tW59) none tW153)
def hW167 : Hp := { nx := 274, m := (.n tW144 (some (.cells 25 [vW14, vW23])) (.n tW148 (some oW149) tW166)), lo := 0 }
def tW168 : Tr AObj := .n tW151 none (.n (.n (.n (.n (.n (.n .e (some (.map [(.agg [iW 8, iW 11], iW 1, 0), (.agg [iW 0, iW 2], iW 1, 1), (.agg [iW 11, iW 2], iW 1, 2), (.agg [iW 2, iW 8], iW 1, 3)] 4)) .e) none .e) none .e) none (.n .e none tW66)) none tW59) none tW153)
def hW169 : Hp := { nx := 274, m := (.n tW144 (some (.cells 25 [vW14, vW23])) (.n tW148 (some oW149) tW168)), lo := 0 }
def tW170 : Tr AObj := .n tW151 none (.n (.n (.n (.n (.n (.n .e (some (.map [(.agg [iW 8, iW 11], iW 1, 0), (.agg [iW 2, iW 8], iW 1, 1), (.agg [iW 0, iW 2], iW 1, 2), (.agg [iW 11, iW 2], iW 1, 3)] 4)) .e) none .e) none .e) none (.n .e none tW66)) none tW59) none tW153)
def hW171 : Hp := { nx := 274, m := (.n tW144 (some (.cells 25 [vW14, vW23])) (.n tW148 (some oW149) tW170)), lo := 0 }
def tW172 : Tr AObj := .n tW151 none (.n (.n (.n (.n (.n (.n .e (some (.map [(.agg [iW 8, iW 11], iW 1, 0), (.agg [iW 2, iW 8], iW 1, 1), (.agg [iW 11, iW 2], iW 1, 2), (.agg [iW 0, iW 2], iW 1, 3)] 4)) .e) none .e) none .e) none (.n .e none tW66)) none tW59) none tW153)
def hW173 : Hp := { nx := 274, m := (.n tW144 (some (.cells 25 [vW14, vW23])) (.n tW148 (some oW149) tW172)), lo := 0 }
def tW174 : Tr AObj := .n tW151 none (.n (.n (.n (.n (.n (.n .e (some (.map [(.agg [iW 8, iW 11], iW 1, 0), (.agg [iW 11, iW 2], iW 1, 1), (.agg [iW 0, iW 2], iW 1, 2), (.agg [iW 2, iW 8], iW 1, 3)] 4)) .e) none .e) none .e) none (.n .e none tW66)) none tW59) none tW153)
def hW175 : Hp := { nx := 274, m := (.n tW144 (some (.cells 25 [vW14, vW23])) (.n tW148 (some oW149) tW174)), lo := 0 }
def tW176 : Tr AObj := .n tW151 none (.n (.n (.n (.n (.n (.n .e (some (.map [(.agg [iW 8, iW 11], iW 1, 0), (.agg [iW 11, iW 2], iW 1, 1), (.agg [iW 2, iW 8], iW 1, 2), (.agg [iW 0, iW 2], iW 1, 3)] 4)) .e) none .e) none .e) none (.n .e none tW66)) none tW59) none tW153)
def hW177 : Hp := { nx := 274, m := (.n tW144 (some (.cells 25 [vW14, vW23])) (.n tW148 (some oW149) tW176)), lo := 0 }
def tW178 : Tr AObj := .n tW151 none (.n (.n (.n (.n (.n (.n .e (some (.map [(.agg [iW 2, iW 8], iW 1, 0), (.agg [iW 0, iW 2], iW 1, 1), (.agg [iW 8, iW 11], iW 1, 2), (.agg [iW 11, iW 2], iW 1, 3)] 4)) .e) none .e) none .e) none (.n .e none tW66)) none tW59) none tW153)
def hW179 : Hp := { nx := 274, m := (.n tW144 (some (.cells 25 [vW14, vW23])) (.n tW148 (some oW149) tW178)), lo := 0 }
def tW180 : Tr AObj := .n tW151 none (.n (.n (.n (.n (.n (.n .e (some (.map [(.agg [iW 2, iW 8], iW 1, 0), (.agg [iW 0, iW 2], iW 1, 1), (.agg [iW 11, iW 2], iW 1, 2), (.agg [iW 8, iW 11], iW 1, 3)] 4)) .e) none .e) none .e) none (.n .e none tW66)) none tW59) none tW153)
def hW181 : Hp := { nx := 274, m := (.n tW144 (some (.cells 25 [vW14, vW23])) (.n tW148 (some oW149) tW180)), lo := 0 }
def tW182 : Tr AObj := .n tW151 none (.n (.n (.n (.n (.n (.n .e (some (.map [(.agg [iW 2, iW 8], iW 1, 0), (.agg [iW 8, iW 11], iW 1, 1), (.agg [iW 0, iW 2], iW 1, 2), (.agg [iW 11, iW 2], iW 1, 3)] 4)) .e) none .e) none .e) none (.n .e none tW66)) none tW59) none tW153)
def hW183 : Hp := { nx := 274, m := (.n tW144 (some (.cells 25 [vW14, vW23])) (.n tW148 (some oW149) tW182)), lo := 0 }
def tW184 : Tr AObj := .n tW151 none (.n (.n (.n (.n (.n (.n .e (some (.map [(.agg [iW 2, iW 8], iW 1, 0), (.agg [iW 8, iW 11], iW 1, 1), (.agg [iW 11, iW 2], iW 1, 2), (.agg [iW 0, iW 2], iW 1, 3)] 4)) .e) none .e) none .e) none (.n .e none tW66)) none tW59) none tW153)
def hW185 : Hp := { nx := 274, m := (.n tW144 (some (.cells 25 [vW14, vW23])) (.n tW148 (some oW149) tW184)), lo := 0 }
def tW186 : Tr AObj := .n tW151 none (.n (.n (.n (.n (.n (.n .e (some (.map [(.agg [iW 2, iW 8], iW 1, 0), (.agg [iW 11, iW 2], iW 1, 1), (.agg [iW 0, iW 2], iW 1, 2), (.agg [iW 8, iW 11], iW 1, 3)] 4)) .e) none .e) none .e) none (.n .e none tW66)) none tW59) none tW153)
def hW187 : Hp := { nx := 274, m := (.n tW144 (some (.cells 25 [vW14, vW23])) (.n tW148 (some oW149) tW186)), lo := 0 }
def tW188 : Tr AObj := .n tW151 none (.n (.n (.n (.n (.n (.n .e (some (.map [(.agg [iW 2, iW 8], iW 1, 0), (.agg [iW 11, iW 2], iW 1, 1), (.agg [iW 8, iW 11], iW 1, 2), (.agg [iW 0, iW 2], iW 1, 3)] 4)) .e) none .e) none .e) none (.n .e none tW66)) none tW59) none tW153)
def hW189 : Hp := { nx := 274, m := (.n tW144 (some (.cells 25 [vW14, vW23])) (.n tW148 (some oW149) tW188)), lo := 0 }
def tW190 : Tr AObj := .n tW151 none (.n (.n (.n (.n (.n (.n .e (some (.map [(.agg [iW 11, iW 2], iW 1, 0), (.agg [iW 0, iW 2], iW 1, 1), (.agg [iW 8, iW 11], iW 1, 2), (.agg [iW 2, iW 8], iW 1, 3)] 4)) .e) none .e) none .e) none (.n .e none tW66)) none tW59) none tW153)
def hW191 : Hp := { nx := 274, m := (.n tW144 (some (.cells 25 [vW14, vW23])) (.n tW148 (some oW149) tW190)), lo := 0 }
def tW192 : Tr AObj := .n tW151 none (.n (.n (.n (.n (.n (.n .e (some (.map [(.agg [iW 11, iW 2], iW 1, 0), (.agg [iW 0, iW 2], iW 1, 1), (.agg [iW 2, iW 8], iW 1, 2), (.agg [iW 8, iW 11], iW 1, 3)] 4)) .e) none .e) none .e) none (.n .e none tW66)) none tW59) none tW153)
def hW193 : Hp := { nx := 274, m := (.n tW144 (some (.cells 25 [vW14, vW23])) (.n tW148 (some oW149) tW192)), lo := 0 }
def tW194 : Tr AObj := .n tW151 none (.n (.n (.n (.n (.n (.n .e (some (.map [(.agg [iW 11, iW 2], iW 1, 0), (.agg [iW 8, iW 11], iW 1, 1), (.agg [iW 0, iW 2], iW 1, 2), (.agg [iW 2, iW 8], iW 1, 3)] 4)) .e) none .e) none .e) none (.n .e none tW66)) none tW59) none tW153)
def hW195 : Hp := { nx := 274, m := (.n tW144 (some (.cells 25 [vW14, vW23])) (.n tW148 (some oW149) tW194)), lo := 0 }
def tW196 : Tr AObj := .n tW151 none (.n (.n (.n (.n (.n (.n .e (some (.map [(.agg [iW 11, iW 2], iW 1, 0), (.agg [iW 8, iW 11], iW 1, 1), (.agg [iW 2, iW 8], iW 1, 2), (.agg [iW 0, iW 2], iW 1, 3)] 4)) .e) none .e) none .e) none (.n .e none tW66)) none tW59) none tW153)
def hW197 : Hp := { nx := 274, m := (.n tW144 (some (.cells 25 [vW14, vW23])) (.n tW148 (some oW149) tW196)), lo := 0 }
def tW198 : Tr AObj := .n tW151 none (.n (.n (.n (.n (.n (.n .e (some (.map [(.agg [iW 11, iW 2], iW 1, 0), (.agg [iW 2, iW 8], iW 1, 1), (.agg [iW 0, iW 2], iW 1, 2), (.agg [iW 8, iW 11], iW 1, 3)] 4)) .e) none .e) none .e) none (.n .e none tW66)) none tW59) none tW153)
def hW199 : Hp := { nx := 274, m := (.n tW144 (some (.cells 25 [vW14, vW23])) (.n tW148 (some oW149) tW198)), lo := 0 }
def tW200 : Tr AObj := .n tW151 none (.n (.n (.n (.n (.n (.n .e (some (.map [(.agg [iW 11, iW 2], iW 1, 0), (.agg [iW 2, iW 8], iW 1, 1), (.agg [iW 8, iW 11], iW 1, 2), (.agg [iW 0, iW 2], iW 1, 3)] 4)) .e) none .e) none .e) none (.n .e none tW66)) none tW59) none tW153)
def hW201 : Hp := { nx := 274, m := (.n tW144 (some (.cells 25 [vW14, vW23])) (.n tW148 (some oW149) tW200)), lo := 0 }
def tW202 : Tr AObj := .n (.n tW57 none .e) none tW66
def tW203 : Tr AObj := .n tW135 (some oW58) tW202
def tW204 : Tr AObj := .n (.n tW203 none (.n tW98 none .e)) none (.n tW99 none (.n tW202 none .e))
def tW205 : Tr AObj := .n (.n (.n .e (some (.cells 75 [.sl 287 0 1 1 2 false])) .e) none .e) none tW57
def tW206 : Tr AObj := .n tW138 none (.n tW205 none .e)
def tW207 : Tr AObj := .n (.n (.n tW57 none .e) none tW106) (some (.cells 79 [iW 0, uW 8])) .e
def tW208 : Tr AObj := .n tW110 none (.n (.n (.n tW57 none .e) (some (.cells 79 [iW 0, uW 8])) tW57) none .e)
def tW209 : Tr AObj := .n (.n (.n tW139 (some (.cells 75 [.nilsl, .nilsl, .sl 287 0 1 1 2 false, .nilsl, .nilsl, .nilsl, .nilsl, .nilsl, .nilsl, .sl 180 0 1 1 2 false, .nilsl, .sl 235 0 1 1 2 false, .nilsl, .nilsl])) (.n .e none tW57)) (some (.cells 3 [iW 0, iW 8])) tW96) none tW208
def oW210 : AObj := .cells 68 [vW14, vW23, iW 14, iW 5, .sl 29 0 5 5 1 false, .sl 31 0 5 5 1 false, .sl 17 0 2 2 1 false, iW 10, vW36, .sl 32 0 14 14 1 true, .sl 33 0 14 14 1 true, .map 2, .map 288, .map 4, .sl 34 0 14 14 1 true]
def tW211 : Tr AObj := .n tW142 none (.n tW135 none .e)
def tW212 : Tr AObj := .n tW202 none (.n .e none tW102)
def tW213 : Tr AObj := .n (.n tW204 none (.n tW206 none (.n tW105 none tW207))) none (.n tW209 (some oW210) (.n tW211 none (.n tW114 (some oW72) tW212)))
def oW214 : AObj := .cells 75 [.sl 59 0 1 1 2 false, .nilsl, .sl 287 0 1 1 2 false, .nilsl, .sl 133 0 1 1 2 false, .nilsl, .nilsl, .nilsl, .nilsl, .sl 171 0 1 1 2 false, .nilsl, .sl 226 0 1 1 2 false, .nilsl, .nilsl]
def tW215 : Tr AObj := .n tW118 none (.n tW135 none .e)
def tW216 : Tr AObj := .n (.n (.n tW145 (some oW214) (.n (.n (.n .e (some (.map [(.agg [iW 0, iW 2], iW 1, 0), (.agg [iW 2, iW 11], iW 1, 1), (.agg [iW 11, iW 2], iW 1, 2)] 3)) .e) none .e) none tW57)) none tW117) none tW215
def tW217 : Tr AObj := .n tW147 none (.n tW202 none (.n tW62 none .e))
def tW218 : Tr AObj := .n tW217 none (.n tW125 none (.n tW135 none .e))
def oW219 : AObj := .map [(iW 9, iW 1, 3), (iW 11, iW 1, 5), (iW 2, iW 2, 6)] 7
def tW220 : Tr AObj := .n (.n tW102 (some (.cells 61 lW33)) .e) none tW128
def tW221 : Tr AObj := .n (.n (.n tW57 none .e) none tW102) none .e
def tW222 : Tr AObj := .n (.n (.n tW150 none (.n tW220 none .e)) none (.n tW130 none tW221)) none (.n (.n tW132 none (.n tW137 none .e)) none (.n (.n tW133 none .e) none (.n tW135 none tW152)))
def hW223 : Hp := { nx := 298, m := (.n tW213 (some (.cells 25 [vW14, vW23])) (.n (.n tW216 (some oW120) tW218) (some oW219) tW222)), lo := 0 }
def tW224 : Tr AObj := .n (.n (.n tW145 (some oW214) (.n (.n (.n .e (some (.map [(.agg [iW 0, iW 2], iW 1, 0), (.agg [iW 11, iW 2], iW 1, 1), (.agg [iW 2, iW 11], iW 1, 2)] 3)) .e) none .e) none tW57)) none tW117) none tW215
def hW225 : Hp := { nx := 298, m := (.n tW213 (some (.cells 25 [vW14, vW23])) (.n (.n tW224 (some oW120) tW218) (some oW219) tW222)), lo := 0 }
def tW226 : Tr AObj := .n (.n (.n tW145 (some oW214) (.n (.n (.n .e (some (.map [(.agg [iW 2, iW 11], iW 1, 0), (.agg [iW 0, iW 2], iW 1, 1), (.agg [iW 11, iW 2], iW 1, 2)] 3)) .e) none .e) none tW57)) none tW117) none tW215
def hW227 : Hp := { nx := 298, m := (.n tW213 (some (.cells 25 [vW14, vW23])) (.n (.n tW226 (some oW120) tW218) (some oW219) tW222)), lo := 0 }
def tW228 : Tr AObj := .n (.n (.n tW145 (some oW214) (.n (.n (.n .e (some (.map [(.agg [iW 2, iW 11], iW 1, 0), (.agg [iW 11, iW 2], iW 1, 1), (.agg [iW 0, iW 2], iW 1, 2)] 3)) .e) none .e) none tW57)) none tW117) none tW215
def hW229 : Hp := { nx := 298, m := (.n tW213 (some (.cells 25 [vW14, vW23])) (.n (.n tW228 (some oW120) tW218) (some oW219) tW222)), lo := 0 }
def tW230 : Tr AObj := .n (.n (.n tW145 (some oW214) (.n (.n (.n .e (some (.map [(.agg [iW 11, iW 2], iW 1, 0), (.agg [iW 0, iW 2], iW 1, 1), (.agg [iW 2, iW 11], iW 1, 2)] 3)) .e) none .e) none tW57)) none tW117) none tW215
def hW231 : Hp := { nx := 298, m := (.n tW213 (some (.cells 25 [vW14, vW23])) (.n (.n tW230 (some oW120) tW218) (some oW219) tW222)), lo := 0 }
def tW232 : Tr AObj := .n (.n (.n tW145 (some oW214) (.n (.n (.n .e (some (.map [(.agg [iW 11, iW 2], iW 1, 0), (.agg [iW 2, iW 11], iW 1, 1), (.agg [iW 0, iW 2], iW 1, 2)] 3)) .e) none .e) none tW57)) none tW117) none tW215
def hW233 : Hp := { nx := 298, m := (.n tW213 (some (.cells 25 [vW14, vW23])) (.n (.n tW232 (some oW120) tW218) (some oW219) tW222)), lo := 0 }
def tW234 : Tr AObj := .n (.n tW57 none .e) none .e
def tW235 : Tr AObj := .n (.n tW203 none (.n tW98 none tW234)) none (.n tW99 none (.n tW202 none tW234))
def tW236 : Tr AObj := .n tW138 none (.n tW205 none tW234)
def tW237 : Tr AObj := .n (.n (.n .e (some (.cells 75 [.sl 311 0 1 1 2 false])) .e) (some (.cells 79 [iW 0, uW 16])) .e) none tW57
def tW238 : Tr AObj := .n (.n (.n tW139 (some (.cells 75 [.nilsl, .nilsl, .sl 311 0 1 1 2 false, .nilsl, .nilsl, .nilsl, .nilsl, .nilsl, .nilsl, .sl 180 0 1 1 2 false, .nilsl, .nilsl, .nilsl, .nilsl])) (.n .e none tW57)) (some (.cells 3 [iW 0, iW 8])) (.n (.n .e none tW71) none tW234)) none tW208
def oW239 : AObj := .cells 68 [vW14, vW23, iW 14, iW 5, .sl 29 0 5 5 1 false, .sl 31 0 5 5 1 false, .sl 17 0 2 2 1 false, iW 10, vW34, .sl 32 0 14 14 1 true, .sl 33 0 14 14 1 true, .map 2, .map 312, .map 4, .sl 34 0 14 14 1 true]
def tW240 : Tr AObj := .n tW142 none (.n tW135 none tW234)
def tW241 : Tr AObj := .n (.n (.n tW145 (some (.cells 75 [.sl 59 0 1 1 2 false, .nilsl, .sl 311 0 1 1 2 false, .nilsl, .sl 133 0 1 1 2 false, .nilsl, .nilsl, .nilsl, .nilsl, .sl 171 0 1 1 2 false, .nilsl, .nilsl, .nilsl, .nilsl])) (.n .e none tW57)) none (.n (.n .e none tW116) none tW234)) none (.n tW118 none (.n tW135 none (.n (.n (.n .e (some oW92) .e) none .e) none .e)))
def tW242 : Tr AObj := .n tW147 none (.n tW202 none (.n (.n tW57 (some (.cells 79 [iW 0, uW 16])) .e) none .e))
def tW243 : Tr AObj := .n (.n tW57 none .e) none tW116
def oW244 : AObj := .map [(iW 9, iW 1, 3), (iW 2, iW 3, 6)] 7
def tW245 : Tr AObj := .n (.n (.n tW150 none (.n tW220 none tW234)) none (.n (.n (.n .e none tW83) none (.n (.n tW102 none .e) none tW57)) none tW221)) none (.n (.n tW132 none (.n tW137 none tW234)) none (.n (.n tW133 none (.n (.n tW66 none .e) none .e)) none (.n tW135 none tW152)))
def lW246 : List AV := [.ptr 5 0, .agg [iW 8, iW 11]]
def tW247 : Tr AObj := .n (.n .e none tW78) none .e
def tW248 : Tr AObj := .n (.n (.n (.n .e none tW109) (some (.cells 75 [.nilsl, .nilsl, .sl 237 0 1 1 2 false, .nilsl, .nilsl, .nilsl, .nilsl, .nilsl, .nilsl, .sl 180 0 1 1 2 false, .nilsl, .nilsl, .nilsl, .nilsl])) (.n .e none tW57)) (some (.cells 3 [iW 0, iW 8])) tW96) none tW111
def oW249 : AObj := .cells 68 [vW14, vW23, iW 14, iW 5, .sl 29 0 5 5 1 false, .sl 31 0 5 5 1 false, .sl 17 0 2 2 1 false, iW 10, vW34, .sl 32 0 14 14 1 true, .sl 33 0 14 14 1 true, .map 2, .map 236, .map 4, .sl 34 0 14 14 1 true]
def tW250 : Tr AObj := .n (.n (.n (.n .e none tW76) (some (.cells 75 [.sl 59 0 1 1 2 false, .nilsl, .sl 237 0 1 1 2 false, .nilsl, .sl 133 0 1 1 2 false, .nilsl, .nilsl, .nilsl, .nilsl, .sl 171 0 1 1 2 false, .nilsl, .nilsl, .nilsl, .nilsl])) (.n .e none tW57)) none tW117) none (.n tW118 none tW59)
def tW251 : Tr AObj := .n .e none (.n .e (some oW92) .e)
def tW252 : Tr AObj := .n .e none (.n .e (some (.cells 141 [iW 5, iW 2, iW 0, iW 2, iW 11, iW 5, iW 2, iW 8, iW 8, iW 11])) .e)
def tW253 : Tr AObj := .n tW252 none (.n tW62 none tW57)
def tW254 : Tr AObj := .n tW103 none (.n tW253 none tW107)
def tW255 : Tr AObj := .n (.n tW100 (some oW101) tW254) none (.n tW112 (some oW69) (.n tW113 none (.n tW247 (some oW72) tW67)))
def tW256 : Tr AObj := .n (.n .e none tW94) none (.n .e none tW116)
def tW257 : Tr AObj := .n (.n tW136 none (.n (.n tW138 none tW59) none (.n tW253 none tW107))) none (.n tW140 (some oW141) (.n (.n tW142 none tW59) none (.n tW247 (some oW72) tW143)))
def tW258 : Tr AObj := .n tW146 (some oW120) (.n (.n tW147 none tW123) none (.n tW256 none tW59))
def hW259 : Hp := { nx := 274, m := (.n tW257 (some (.cells 25 [vW14, vW23])) (.n tW258 (some oW149) tW154)), lo := 0 }
def hW260 : Hp := { nx := 274, m := (.n tW257 (some (.cells 25 [vW14, vW23])) (.n tW258 (some oW149) tW156)), lo := 0 }
def hW261 : Hp := { nx := 274, m := (.n tW257 (some (.cells 25 [vW14, vW23])) (.n tW258 (some oW149) tW158)), lo := 0 }
def hW262 : Hp := { nx := 274, m := (.n tW257 (some (.cells 25 [vW14, vW23])) (.n tW258 (some oW149) tW160)), lo := 0 }
def hW263 : Hp := { nx := 274, m := (.n tW257 (some (.cells 25 [vW14, vW23])) (.n tW258 (some oW149) tW162)), lo := 0 }
def hW264 : Hp := { nx := 274, m := (.n tW257 (some (.cells 25 [vW14, vW23])) (.n tW258 (some oW149) tW164)), lo := 0 }
def hW265 : Hp := { nx := 274, m := (.n tW257 (some (.cells 25 [vW14, vW23])) (.n tW258 (some oW149) tW166)), lo := 0 }
def hW266 : Hp := { nx := 274, m := (.n tW257 (some (.cells 25 [vW14, vW23])) (.n tW258 (some oW149) tW168)), lo := 0 }
def hW267 : Hp := { nx := 274, m := (.n tW257 (some (.cells 25 [vW14, vW23])) (.n tW258 (some oW149) tW170)), lo := 0 }
def hW268 : Hp := { nx := 274, m := (.n tW257 (some (.cells 25 [vW14, vW23])) (.n tW258 (some oW149) tW172)), lo := 0 }
def hW269 : Hp := { nx := 274, m := (.n tW257 (some (.cells 25 [vW14, vW23])) (.n tW258 (some oW149) tW174)), lo := 0 }
def hW270 : Hp := { nx := 274, m := (.n tW257 (some (.cells 25 [vW14, vW23])) (.n tW258 (some oW149) tW176)), lo := 0 }
def hW271 : Hp := { nx := 274, m := (.n tW257 (some (.cells 25 [vW14, vW23])) (.n tW258 (some oW149) tW178)), lo := 0 }
def hW272 : Hp := { nx := 274, m := (.n tW257 (some (.cells 25 [vW14, vW23])) (.n tW258 (some oW149) tW180)), lo := 0 }
def hW273 : Hp := { nx := 274, m := (.n tW257 (some (.cells 25 [vW14, vW23])) (.n tW258 (some oW149) tW182)), lo := 0 }
def hW274 : Hp := { nx := 274, m := (.n tW257 (some (.cells 25 [vW14, vW23])) (.n tW258 (some oW149) tW184)), lo := 0 }
def hW275 : Hp := { nx := 274, m := (.n tW257 (some (.cells 25 [vW14, vW23])) (.n tW258 (some oW149) tW186)), lo := 0 }
def hW276 : Hp := { nx := 274, m := (.n tW257 (some (.cells 25 [vW14, vW23])) (.n tW258 (some oW149) tW188)), lo := 0 }
def hW277 : Hp := { nx := 274, m := (.n tW257 (some (.cells 25 [vW14, vW23])) (.n tW258 (some oW149) tW190)), lo := 0 }
def hW278 : Hp := { nx := 274, m := (.n tW257 (some (.cells 25 [vW14, vW23])) (.n tW258 (some oW149) tW192)), lo := 0 }
def hW279 : Hp := { nx := 274, m := (.n tW257 (some (.cells 25 [vW14, vW23])) (.n tW258 (some oW149) tW194)), lo := 0 }
def hW280 : Hp := { nx := 274, m := (.n tW257 (some (.cells 25 [vW14, vW23])) (.n tW258 (some oW149) tW196)), lo := 0 }
def hW281 : Hp := { nx := 274, m := (.n tW257 (some (.cells 25 [vW14, vW23])) (.n tW258 (some oW149) tW198)), lo := 0 }
def hW282 : Hp := { nx := 274, m := (.n tW257 (some (.cells 25 [vW14, vW23])) (.n tW258 (some oW149) tW200)), lo := 0 }
def tW283 : Tr AObj := .n (.n tW204 none (.n tW206 none (.n tW253 none tW207))) none (.n tW209 (some oW210) (.n tW211 none (.n tW247 (some oW72) tW212)))
def tW284 : Tr AObj := .n tW217 none (.n tW256 none (.n tW135 none .e))
def hW285 : Hp := { nx := 298, m := (.n tW283 (some (.cells 25 [vW14, vW23])) (.n (.n tW216 (some oW120) tW284) (some oW219) tW222)), lo := 0 }
def hW286 : Hp := { nx := 298, m := (.n tW283 (some (.cells 25 [vW14, vW23])) (.n (.n tW224 (some oW120) tW284) (some oW219) tW222)), lo := 0 }
def hW287 : Hp := { nx := 298, m := (.n tW283 (some (.cells 25 [vW14, vW23])) (.n (.n tW226 (some oW120) tW284) (some oW219) tW222)), lo := 0 }
def hW288 : Hp := { nx := 298, m := (.n tW283 (some (.cells 25 [vW14, vW23])) (.n (.n tW228 (some oW120) tW284) (some oW219) tW222)), lo := 0 }
def hW289 : Hp := { nx := 298, m := (.n tW283 (some (.cells 25 [vW14, vW23])) (.n (.n tW230 (some oW120) tW284) (some oW219) tW222)), lo := 0 }
def hW290 : Hp := { nx := 298, m := (.n tW283 (some (.cells 25 [vW14, vW23])) (.n (.n tW232 (some oW120) tW284) (some oW219) tW222)), lo := 0 }
def tW291 : Tr AObj := .n .e none (.n .e (some (.cells 3 [iW 0])) .e)
def oW292 : AObj := .map [(.agg [iW 4, iW 1], iW 1, 0)] 1
def tW293 : Tr AObj := .n .e (some (.cells 79 [iW 0, uW 1])) .e
def tW294 : Tr AObj := .n .e (some (.cells 141 [iW 4, iW 1])) .e
def tW295 : Tr AObj := .n (.n .e none tW293) none (.n .e none tW293)
def tW296 : Tr AObj := .n (.n (.n (.n (.n .e none (.n .e (some (.cells 61 lW48)) .e)) none tW291) none (.n (.n .e none (.n .e (some (.cells 3 [iW 4])) .e)) (some (.cells 57 [.sl 95 0 1 1 5 false, .nilsl, .nilsl, .nilsl, .nilsl])) (.n .e none tW66))) (some oW292) (.n (.n .e none (.n .e none tW71)) (some (.cells 3 [iW 0])) (.n (.n .e none tW73) none (.n tW293 none tW293)))) none (.n (.n (.n .e none (.n .e none tW294)) none tW295) (some (.cells 68 [vW40, vW44, iW 5, iW 3, .sl 18 0 3 3 1 false, .sl 20 0 3 3 1 false, .sl 11 0 1 1 1 false, iW 3, vW47, .sl 21 0 5 5 1 true, .sl 22 0 5 5 1 true, .map 2, .map 3, .map 4, .sl 23 0 5 5 1 true])) (.n (.n .e (some (.cells 75 [.sl 48 0 1 1 2 false, .sl 98 0 1 1 2 false, .nilsl, .nilsl, .sl 82 0 1 1 2 false])) (.n .e none tW293)) none tW295))
def tW297 : Tr AObj := .n (.n .e none (.n .e (some (.cells 79 [iW 0, uW 4])) tW83)) none (.n (.n .e none (.n .e (some (.cells 29 [.sl 111 0 1 1 1 false])) .e)) none (.n .e none tW293))
def tW298 : Tr AObj := .n (.n .e (some (.cells 3 [iW 0, iW 0, iW 0])) tW88) none (.n .e none (.n .e none tW293))
def tW299 : Tr AObj := .n (.n (.n (.n .e none tW293) (some (.cells 5 [bW 0, bW 1, bW 2])) (.n tW293 none tW294)) none (.n (.n .e none (.n .e (some (.cells 75 [.sl 91 0 1 1 2 false])) .e)) none (.n .e none tW293))) none (.n (.n (.n .e none tW76) (some (.cells 75 [.nilsl, .nilsl, .nilsl, .nilsl, .nilsl])) (.n .e none tW293)) none (.n tW291 none (.n .e none tW293)))
def eW0 : Nat × List AV × AV := (11, lW0, .tup [.isl [lW2, lW3, lW4, [.isl [lW1, [.str [102, 110]], [.str [116, 49]], [.str [116, 49]]]], [.isl [lW5, [.str [116, 50]]]], lW6, [.isl [[.str [114, 48]], [.str [116, 49]], [.str [61]], [.str [110, 101, 119]]]], [.isl [[.str [114, 49]], [.str [116, 48]], [.str [61]], [.str [105, 110, 116]], [.str [51]]]], lW7, lW6, [.isl [[.str [114, 50]], [.str [116, 49]], [.str [61]], [.str [112, 104, 105]], [.str [98, 48]], [.str [114, 48]], [.str [98, 50]], [.str [114, 53]]]], [.isl [[.str [114, 51]], [.str [116, 48]], [.str [61]], [.str [112, 104, 105]], [.str [98, 48]], [.str [114, 49]], [.str [98, 50]], [.str [114, 54]]]], [.isl [[.str [98, 114, 97, 110, 99, 104]], [.str [114, 51]], [.str [98, 50]], [.str [98, 51]]]], lW6, [.isl [[.str [114, 52]], [.str [116, 51]], [.str [61]], [.str [102, 110]], [.str [102, 49]]]], [.isl [[.str [114, 53]], [.str [116, 49]], [.str [61]], [.str [105, 99, 97, 108, 108]], [.str [114, 52]], [.str [114, 50]]]], [.isl [[.str [114, 54]], [.str [116, 48]], [.str [61]], [.str [115, 117, 98]], [.str [114, 51]], [.str [114, 51]]]], lW7, lW6, [.isl [[.str [114, 55]], [.str [116, 48]], [.str [61]], [.str [105, 110, 116]], [.str [48]]]], [.isl [lW8, [.str [114, 55]]]], lW9, lW6, [.isl [[.str [114, 49]], [.str [116, 49]], [.str [61]], [.str [108, 111, 99, 97, 108]]]], [.isl [lW8, [.str [114, 48]]]]], iW 0])
def eW1 : Nat × List AV × AV := (166, [.str [48]], .tup [iW 0, iW 0])
def eW2 : Nat × List AV × AV := (118, [.str [48], iW 999], .tup [iW 0, iW 0])
def eW3 : Nat × List AV × AV := (117, [.str [116, 48], bW 116], .tup [iW 0, iW 0])
def eW4 : Nat × List AV × AV := (166, [.str [49]], .tup [iW 1, iW 0])
def eW5 : Nat × List AV × AV := (118, [.str [49], iW 999], .tup [iW 1, iW 0])
def eW6 : Nat × List AV × AV := (117, [.str [116, 49], bW 116], .tup [iW 1, iW 0])
def eW7 : Nat × List AV × AV := (166, [.str [50]], .tup [iW 2, iW 0])
def eW8 : Nat × List AV × AV := (118, [.str [50], iW 999], .tup [iW 2, iW 0])
def eW9 : Nat × List AV × AV := (117, [.str [116, 50], bW 116], .tup [iW 2, iW 0])
def eW10 : Nat × List AV × AV := (117, [.str [114, 48], bW 114], .tup [iW 0, iW 0])
def eW11 : Nat × List AV × AV := (169, [bW 11], .bool true)
def eW12 : Nat × List AV × AV := (170, [.agg [bW 11, iW 0, iW 0, iW 0, iW 0, .nilsl, .nilsl]], .nilsl)
def eW13 : Nat × List AV × AV := (117, [.str [114, 49], bW 114], .tup [iW 1, iW 0])
def eW14 : Nat × List AV × AV := (169, [bW 1], .bool true)
def eW15 : Nat × List AV × AV := (170, [.agg lW10], .nilsl)
def eW16 : Nat × List AV × AV := (166, [.str [51]], .tup [iW 3, iW 0])
def eW17 : Nat × List AV × AV := (117, [.str [98, 49], bW 98], .tup [iW 1, iW 0])
def eW18 : Nat × List AV × AV := (117, [.str [114, 50], bW 114], .tup [iW 2, iW 0])
def eW19 : Nat × List AV × AV := (169, [bW 22], .bool true)
def eW20 : Nat × List AV × AV := (170, [.agg [bW 22, iW 0, iW 0, iW 0, iW 0, .nilsl, .nilsl]], .nilsl)
def eW21 : Nat × List AV × AV := (117, [.str [98, 48], bW 98], .tup [iW 0, iW 0])
def eW22 : Nat × List AV × AV := (117, [.str [98, 50], bW 98], .tup [iW 2, iW 0])
def eW23 : Nat × List AV × AV := (166, [.str [53]], .tup [iW 5, iW 0])
def eW24 : Nat × List AV × AV := (118, [.str [53], iW 999], .tup [iW 5, iW 0])
def eW25 : Nat × List AV × AV := (117, [.str [114, 53], bW 114], .tup [iW 5, iW 0])
def eW26 : Nat × List AV × AV := (118, [.str [51], iW 999], .tup [iW 3, iW 0])
def eW27 : Nat × List AV × AV := (117, [.str [114, 51], bW 114], .tup [iW 3, iW 0])
def eW28 : Nat × List AV × AV := (166, [.str [54]], .tup [iW 6, iW 0])
def eW29 : Nat × List AV × AV := (118, [.str [54], iW 999], .tup [iW 6, iW 0])
def eW30 : Nat × List AV × AV := (117, [.str [114, 54], bW 114], .tup [iW 6, iW 0])
def eW31 : Nat × List AV × AV := (117, [.str [98, 51], bW 98], .tup [iW 3, iW 0])
def eW32 : Nat × List AV × AV := (166, [.str [52]], .tup [iW 4, iW 0])
def eW33 : Nat × List AV × AV := (118, [.str [52], iW 999], .tup [iW 4, iW 0])
def eW34 : Nat × List AV × AV := (117, [.str [114, 52], bW 114], .tup [iW 4, iW 0])
def eW35 : Nat × List AV × AV := (117, [.str [116, 51], bW 116], .tup [iW 3, iW 0])
def eW36 : Nat × List AV × AV := (169, [bW 3], .bool true)
def eW37 : Nat × List AV × AV := (170, [.agg [bW 3, iW 0, iW 0, iW 0, iW 0, .nilsl, .nilsl]], .nilsl)
def eW38 : Nat × List AV × AV := (117, [.str [102, 49], bW 102], .tup [iW 1, iW 0])
def eW39 : Nat × List AV × AV := (169, [bW 19], .bool true)
def eW40 : Nat × List AV × AV := (170, [.agg [bW 19, iW 0, iW 0, iW 0, iW 0, .nilsl, .nilsl]], .isl [[iW 0]])
def eW41 : Nat × List AV × AV := (169, [bW 5], .bool true)
def eW42 : Nat × List AV × AV := (170, [.agg [bW 5, iW 0, iW 0, iW 0, iW 0, .nilsl, .nilsl]], .isl [[iW 0], [iW 0]])
def eW43 : Nat × List AV × AV := (166, [.str [55]], .tup [iW 7, iW 0])
def eW44 : Nat × List AV × AV := (118, [.str [55], iW 999], .tup [iW 7, iW 0])
def eW45 : Nat × List AV × AV := (117, [.str [114, 55], bW 114], .tup [iW 7, iW 0])
def eW46 : Nat × List AV × AV := (169, [bW 12], .bool true)
def eW47 : Nat × List AV × AV := (170, [.agg [bW 12, iW 0, iW 0, iW 0, iW 0, .nilsl, .nilsl]], .nilsl)
def eW48 : Nat × List AV × AV := (4, lW0, .tup lW24)
def eW49 : Nat × List AV × AV := (35, [vW14], iW 0)
def eW50 : Nat × List AV × AV := (14, [.agg [vW14, vW23]], iW 0)
def eW51 : Nat × List AV × AV := (46, lW24, .tup [iW 8, iW 0])
def eW52 : Nat × List AV × AV := (176, lW24, .tup [.isl [[iW 0], [iW 1], [iW 2], [iW 3]], iW 0])
def eW53 : Nat × List AV × AV := (250, lW24, .tup [.isl [[iW 0], [iW 1], [iW 3], [iW 2]], iW 0])
def eW54 : Nat × List AV × AV := (209, lW24, .tup [.isl [lW25, [iW 0], [iW 1], [iW 1]], iW 0])
def eW55 : Nat × List AV × AV := (215, [.agg [vW14, vW23], iW 0, iW 0], .tup [.nilsl, iW 0])
def eW56 : Nat × List AV × AV := (170, [.agg lW15], .nilsl)
def eW57 : Nat × List AV × AV := (170, [.agg lW16], .nilsl)
def eW58 : Nat × List AV × AV := (221, [.agg [bW 1, iW 0, iW 1, iW 0]], .nilsl)
def eW59 : Nat × List AV × AV := (215, [.agg [vW14, vW23], iW 0, iW 1], .tup [.isl [[iW 0], [iW 2]], iW 0])
def eW60 : Nat × List AV × AV := (170, [.agg lW17], .isl [[iW 0], [iW 5]])
def eW61 : Nat × List AV × AV := (170, [.agg lW18], .isl [[iW 1], [iW 6]])
def eW62 : Nat × List AV × AV := (221, [.agg [bW 2, iW 3, iW 2, iW 3]], .isl [[iW 3]])
def eW63 : Nat × List AV × AV := (215, lW26, vW27)
def eW64 : Nat × List AV × AV := (170, [.agg lW19], .nilsl)
def eW65 : Nat × List AV × AV := (170, [.agg lW20], .isl [[iW 4], [iW 2]])
def eW66 : Nat × List AV × AV := (170, [.agg lW21], .isl [[iW 3], [iW 3]])
def eW67 : Nat × List AV × AV := (215, [.agg [vW14, vW23], iW 0, iW 3], vW27)
def eW68 : Nat × List AV × AV := (221, [.agg [bW 3, iW 7, iW 0, iW 0]], .isl [[iW 7]])
def eW69 : Nat × List AV × AV := (46, lW28, .tup [iW 2, iW 0])
def eW70 : Nat × List AV × AV := (176, lW28, vW29)
def eW71 : Nat × List AV × AV := (250, lW28, vW29)
def eW72 : Nat × List AV × AV := (209, lW28, vW30)
def eW73 : Nat × List AV × AV := (215, lW31, .tup [.nilsl, iW 0])
def eW74 : Nat × List AV × AV := (170, [.agg lW22], .nilsl)
def eW75 : Nat × List AV × AV := (221, [.agg [bW 3, iW 0, iW 0, iW 0]], .isl [[iW 0]])
def eW76 : Nat × List AV × AV := (86, [.agg [vW14, vW23]], iW 0)
def eW77 : Nat × List AV × AV := (44, [.agg [vW14, vW23]], .tup [.isl [[iW 0, iW 0, iW 0], [iW 1, iW 1, iW 0]], iW 0])
def eW78 : Nat × List AV × AV := (89, [vW14, iW 0], vW29)
def eW79 : Nat × List AV × AV := (90, [iW 0, iW 0], iW 0)
def eW80 : Nat × List AV × AV := (47, [vW14, iW 0], vW29)
def eW81 : Nat × List AV × AV := (15, lW28, .tup [iW 11, iW 0])
def eW82 : Nat × List AV × AV := (48, [iW 14], .tup [vW32, iW 0])
def eW83 : Nat × List AV × AV := (18, [.agg [vW14, vW23]], .tup [.isl [[bW 1, iW 0, iW 0, iW 3, .nilsl], [bW 2, iW 2, iW 0, iW 0, .nilsl], [bW 2, iW 2, iW 5, iW 0, .nilsl], [bW 1, iW 4, iW 0, iW 2, .nilsl], lW33, [bW 1, iW 9, iW 0, iW 4, .nilsl], [bW 2, iW 11, iW 8, iW 0, .nilsl]], iW 0])
def eW84 : Nat × List AV × AV := (164, [vW32], iW 0)
def eW85 : Nat × List AV × AV := (67, [vW32, iW 0], .tup [iW 0, iW 0])
def eW86 : Nat × List AV × AV := (84, [.nilsl], iW 0)
def eW87 : Nat × List AV × AV := (144, [uW 8, uW 0], uW 8)
def eW88 : Nat × List AV × AV := (145, [uW 0, uW 8], uW 8)
def eW89 : Nat × List AV × AV := (67, [vW32, iW 2], .tup [iW 2, iW 0])
def eW90 : Nat × List AV × AV := (67, [vW32, iW 5], .tup [iW 5, iW 0])
def eW91 : Nat × List AV × AV := (144, [uW 0, uW 8], uW 0)
def eW92 : Nat × List AV × AV := (67, [vW32, iW 4], .tup [iW 4, iW 0])
def eW93 : Nat × List AV × AV := (144, [uW 4, uW 0], uW 4)
def eW94 : Nat × List AV × AV := (145, [uW 0, uW 4], uW 4)
def eW95 : Nat × List AV × AV := (67, [vW32, iW 9], .tup [iW 9, iW 0])
def eW96 : Nat × List AV × AV := (144, [uW 16, uW 0], uW 16)
def eW97 : Nat × List AV × AV := (145, [uW 0, uW 16], uW 16)
def eW98 : Nat × List AV × AV := (67, [vW32, iW 8], .tup [iW 8, iW 0])
def eW99 : Nat × List AV × AV := (67, [vW32, iW 11], .tup [iW 11, iW 0])
def eW100 : Nat × List AV × AV := (101, [.nilsl, .nilsl], .tup [.nilsl, iW 0])
def eW101 : Nat × List AV × AV := (144, [uW 8, uW 8], uW 0)
def eW102 : Nat × List AV × AV := (113, [iW 14, .isl [[iW 0, iW 2], [iW 5, iW 2], [iW 8, iW 11]]], .tup [vW32, iW 0])
def eW103 : Nat × List AV × AV := (113, [iW 14, .isl [[iW 0, iW 2], [iW 8, iW 11], [iW 5, iW 2]]], .tup [vW32, iW 0])
def eW104 : Nat × List AV × AV := (113, [iW 14, .isl [[iW 5, iW 2], [iW 0, iW 2], [iW 8, iW 11]]], .tup [vW32, iW 0])
def eW105 : Nat × List AV × AV := (113, [iW 14, .isl [[iW 5, iW 2], [iW 8, iW 11], [iW 0, iW 2]]], .tup [vW32, iW 0])
def eW106 : Nat × List AV × AV := (113, [iW 14, .isl [[iW 8, iW 11], [iW 0, iW 2], [iW 5, iW 2]]], .tup [vW32, iW 0])
def eW107 : Nat × List AV × AV := (113, [iW 14, .isl [[iW 8, iW 11], [iW 5, iW 2], [iW 0, iW 2]]], .tup [vW32, iW 0])
def eW108 : Nat × List AV × AV := (113, [iW 14, .isl [[iW 0, iW 2], [iW 5, iW 2], [iW 8, iW 11], [iW 2, iW 8], [iW 11, iW 5]]], .tup [vW34, iW 0])
def eW109 : Nat × List AV × AV := (113, [iW 14, .isl [[iW 0, iW 2], [iW 5, iW 2], [iW 8, iW 11], [iW 11, iW 5], [iW 2, iW 8]]], .tup [vW34, iW 0])
def eW110 : Nat × List AV × AV := (113, [iW 14, .isl [[iW 0, iW 2], [iW 5, iW 2], [iW 2, iW 8], [iW 8, iW 11], [iW 11, iW 5]]], .tup [vW34, iW 0])
def eW111 : Nat × List AV × AV := (113, [iW 14, .isl [[iW 0, iW 2], [iW 5, iW 2], [iW 2, iW 8], [iW 11, iW 5], [iW 8, iW 11]]], .tup [vW34, iW 0])
def eW112 : Nat × List AV × AV := (113, [iW 14, .isl [[iW 0, iW 2], [iW 5, iW 2], [iW 11, iW 5], [iW 8, iW 11], [iW 2, iW 8]]], .tup [vW34, iW 0])
def eW113 : Nat × List AV × AV := (113, [iW 14, .isl [[iW 0, iW 2], [iW 5, iW 2], [iW 11, iW 5], [iW 2, iW 8], [iW 8, iW 11]]], .tup [vW34, iW 0])
def eW114 : Nat × List AV × AV := (113, [iW 14, .isl [[iW 0, iW 2], [iW 8, iW 11], [iW 5, iW 2], [iW 2, iW 8], [iW 11, iW 5]]], .tup [vW34, iW 0])
def eW115 : Nat × List AV × AV := (113, [iW 14, .isl [[iW 0, iW 2], [iW 8, iW 11], [iW 5, iW 2], [iW 11, iW 5], [iW 2, iW 8]]], .tup [vW34, iW 0])
def eW116 : Nat × List AV × AV := (113, [iW 14, .isl [[iW 0, iW 2], [iW 8, iW 11], [iW 2, iW 8], [iW 5, iW 2], [iW 11, iW 5]]], .tup [vW34, iW 0])
def eW117 : Nat × List AV × AV := (113, [iW 14, .isl [[iW 0, iW 2], [iW 8, iW 11], [iW 2, iW 8], [iW 11, iW 5], [iW 5, iW 2]]], .tup [vW34, iW 0])
def eW118 : Nat × List AV × AV := (113, [iW 14, .isl [[iW 0, iW 2], [iW 8, iW 11], [iW 11, iW 5], [iW 5, iW 2], [iW 2, iW 8]]], .tup [vW34, iW 0])
def eW119 : Nat × List AV × AV := (113, [iW 14, .isl [[iW 0, iW 2], [iW 8, iW 11], [iW 11, iW 5], [iW 2, iW 8], [iW 5, iW 2]]], .tup [vW34, iW 0])
def eW120 : Nat × List AV × AV := (113, [iW 14, .isl [[iW 0, iW 2], [iW 2, iW 8], [iW 5, iW 2], [iW 8, iW 11], [iW 11, iW 5]]], .tup [vW34, iW 0])
def eW121 : Nat × List AV × AV := (113, [iW 14, .isl [[iW 0, iW 2], [iW 2, iW 8], [iW 5, iW 2], [iW 11, iW 5], [iW 8, iW 11]]], .tup [vW34, iW 0])
def eW122 : Nat × List AV × AV := (113, [iW 14, .isl [[iW 0, iW 2], [iW 2, iW 8], [iW 8, iW 11], [iW 5, iW 2], [iW 11, iW 5]]], .tup [vW34, iW 0])
def eW123 : Nat × List AV × AV := (113, [iW 14, .isl [[iW 0, iW 2], [iW 2, iW 8], [iW 8, iW 11], [iW 11, iW 5], [iW 5, iW 2]]], .tup [vW34, iW 0])
def eW124 : Nat × List AV × AV := (113, [iW 14, .isl [[iW 0, iW 2], [iW 2, iW 8], [iW 11, iW 5], [iW 5, iW 2], [iW 8, iW 11]]], .tup [vW34, iW 0])
def eW125 : Nat × List AV × AV := (113, [iW 14, .isl [[iW 0, iW 2], [iW 2, iW 8], [iW 11, iW 5], [iW 8, iW 11], [iW 5, iW 2]]], .tup [vW34, iW 0])
def eW126 : Nat × List AV × AV := (113, [iW 14, .isl [[iW 0, iW 2], [iW 11, iW 5], [iW 5, iW 2], [iW 8, iW 11], [iW 2, iW 8]]], .tup [vW34, iW 0])
def eW127 : Nat × List AV × AV := (113, [iW 14, .isl [[iW 0, iW 2], [iW 11, iW 5], [iW 5, iW 2], [iW 2, iW 8], [iW 8, iW 11]]], .tup [vW34, iW 0])
def eW128 : Nat × List AV × AV := (113, [iW 14, .isl [[iW 0, iW 2], [iW 11, iW 5], [iW 8, iW 11], [iW 5, iW 2], [iW 2, iW 8]]], .tup [vW34, iW 0])
def eW129 : Nat × List AV × AV := (113, [iW 14, .isl [[iW 0, iW 2], [iW 11, iW 5], [iW 8, iW 11], [iW 2, iW 8], [iW 5, iW 2]]], .tup [vW34, iW 0])
def eW130 : Nat × List AV × AV := (113, [iW 14, .isl [[iW 0, iW 2], [iW 11, iW 5], [iW 2, iW 8], [iW 5, iW 2], [iW 8, iW 11]]], .tup [vW34, iW 0])
def eW131 : Nat × List AV × AV := (113, [iW 14, .isl [[iW 0, iW 2], [iW 11, iW 5], [iW 2, iW 8], [iW 8, iW 11], [iW 5, iW 2]]], .tup [vW34, iW 0])
def eW132 : Nat × List AV × AV := (113, [iW 14, .isl [[iW 5, iW 2], [iW 0, iW 2], [iW 8, iW 11], [iW 2, iW 8], [iW 11, iW 5]]], .tup [vW34, iW 0])
def eW133 : Nat × List AV × AV := (113, [iW 14, .isl [[iW 5, iW 2], [iW 0, iW 2], [iW 8, iW 11], [iW 11, iW 5], [iW 2, iW 8]]], .tup [vW34, iW 0])
def eW134 : Nat × List AV × AV := (113, [iW 14, .isl [[iW 5, iW 2], [iW 0, iW 2], [iW 2, iW 8], [iW 8, iW 11], [iW 11, iW 5]]], .tup [vW34, iW 0])
def eW135 : Nat × List AV × AV := (113, [iW 14, .isl [[iW 5, iW 2], [iW 0, iW 2], [iW 2, iW 8], [iW 11, iW 5], [iW 8, iW 11]]], .tup [vW34, iW 0])
def eW136 : Nat × List AV × AV := (113, [iW 14, .isl [[iW 5, iW 2], [iW 0, iW 2], [iW 11, iW 5], [iW 8, iW 11], [iW 2, iW 8]]], .tup [vW34, iW 0])
def eW137 : Nat × List AV × AV := (113, [iW 14, .isl [[iW 5, iW 2], [iW 0, iW 2], [iW 11, iW 5], [iW 2, iW 8], [iW 8, iW 11]]], .tup [vW34, iW 0])
def eW138 : Nat × List AV × AV := (113, [iW 14, .isl [[iW 5, iW 2], [iW 8, iW 11], [iW 0, iW 2], [iW 2, iW 8], [iW 11, iW 5]]], .tup [vW34, iW 0])
def eW139 : Nat × List AV × AV := (113, [iW 14, .isl [[iW 5, iW 2], [iW 8, iW 11], [iW 0, iW 2], [iW 11, iW 5], [iW 2, iW 8]]], .tup [vW34, iW 0])
def eW140 : Nat × List AV × AV := (113, [iW 14, .isl [[iW 5, iW 2], [iW 8, iW 11], [iW 2, iW 8], [iW 0, iW 2], [iW 11, iW 5]]], .tup [vW34, iW 0])
def eW141 : Nat × List AV × AV := (113, [iW 14, .isl [[iW 5, iW 2], [iW 8, iW 11], [iW 2, iW 8], [iW 11, iW 5], [iW 0, iW 2]]], .tup [vW34, iW 0])
def eW142 : Nat × List AV × AV := (113, [iW 14, .isl [[iW 5, iW 2], [iW 8, iW 11], [iW 11, iW 5], [iW 0, iW 2], [iW 2, iW 8]]], .tup [vW34, iW 0])
def eW143 : Nat × List AV × AV := (113, [iW 14, .isl [[iW 5, iW 2], [iW 8, iW 11], [iW 11, iW 5], [iW 2, iW 8], [iW 0, iW 2]]], .tup [vW34, iW 0])
def eW144 : Nat × List AV × AV := (113, [iW 14, .isl [[iW 5, iW 2], [iW 2, iW 8], [iW 0, iW 2], [iW 8, iW 11], [iW 11, iW 5]]], .tup [vW34, iW 0])
def eW145 : Nat × List AV × AV := (113, [iW 14, .isl [[iW 5, iW 2], [iW 2, iW 8], [iW 0, iW 2], [iW 11, iW 5], [iW 8, iW 11]]], .tup [vW34, iW 0])
def eW146 : Nat × List AV × AV := (113, [iW 14, .isl [[iW 5, iW 2], [iW 2, iW 8], [iW 8, iW 11], [iW 0, iW 2], [iW 11, iW 5]]], .tup [vW34, iW 0])
def eW147 : Nat × List AV × AV := (113, [iW 14, .isl [[iW 5, iW 2], [iW 2, iW 8], [iW 8, iW 11], [iW 11, iW 5], [iW 0, iW 2]]], .tup [vW34, iW 0])
def eW148 : Nat × List AV × AV := (113, [iW 14, .isl [[iW 5, iW 2], [iW 2, iW 8], [iW 11, iW 5], [iW 0, iW 2], [iW 8, iW 11]]], .tup [vW34, iW 0])
def eW149 : Nat × List AV × AV := (113, [iW 14, .isl [[iW 5, iW 2], [iW 2, iW 8], [iW 11, iW 5], [iW 8, iW 11], [iW 0, iW 2]]], .tup [vW34, iW 0])
def eW150 : Nat × List AV × AV := (113, [iW 14, .isl [[iW 5, iW 2], [iW 11, iW 5], [iW 0, iW 2], [iW 8, iW 11], [iW 2, iW 8]]], .tup [vW34, iW 0])
def eW151 : Nat × List AV × AV := (113, [iW 14, .isl [[iW 5, iW 2], [iW 11, iW 5], [iW 0, iW 2], [iW 2, iW 8], [iW 8, iW 11]]], .tup [vW34, iW 0])
def eW152 : Nat × List AV × AV := (113, [iW 14, .isl [[iW 5, iW 2], [iW 11, iW 5], [iW 8, iW 11], [iW 0, iW 2], [iW 2, iW 8]]], .tup [vW34, iW 0])
def eW153 : Nat × List AV × AV := (113, [iW 14, .isl [[iW 5, iW 2], [iW 11, iW 5], [iW 8, iW 11], [iW 2, iW 8], [iW 0, iW 2]]], .tup [vW34, iW 0])
def eW154 : Nat × List AV × AV := (113, [iW 14, .isl [[iW 5, iW 2], [iW 11, iW 5], [iW 2, iW 8], [iW 0, iW 2], [iW 8, iW 11]]], .tup [vW34, iW 0])
def eW155 : Nat × List AV × AV := (113, [iW 14, .isl [[iW 5, iW 2], [iW 11, iW 5], [iW 2, iW 8], [iW 8, iW 11], [iW 0, iW 2]]], .tup [vW34, iW 0])
def eW156 : Nat × List AV × AV := (113, [iW 14, .isl [[iW 8, iW 11], [iW 0, iW 2], [iW 5, iW 2], [iW 2, iW 8], [iW 11, iW 5]]], .tup [vW34, iW 0])
def eW157 : Nat × List AV × AV := (113, [iW 14, .isl [[iW 8, iW 11], [iW 0, iW 2], [iW 5, iW 2], [iW 11, iW 5], [iW 2, iW 8]]], .tup [vW34, iW 0])
def eW158 : Nat × List AV × AV := (113, [iW 14, .isl [[iW 8, iW 11], [iW 0, iW 2], [iW 2, iW 8], [iW 5, iW 2], [iW 11, iW 5]]], .tup [vW34, iW 0])
def eW159 : Nat × List AV × AV := (113, [iW 14, .isl [[iW 8, iW 11], [iW 0, iW 2], [iW 2, iW 8], [iW 11, iW 5], [iW 5, iW 2]]], .tup [vW34, iW 0])
def eW160 : Nat × List AV × AV := (113, [iW 14, .isl [[iW 8, iW 11], [iW 0, iW 2], [iW 11, iW 5], [iW 5, iW 2], [iW 2, iW 8]]], .tup [vW34, iW 0])
def eW161 : Nat × List AV × AV := (113, [iW 14, .isl [[iW 8, iW 11], [iW 0, iW 2], [iW 11, iW 5], [iW 2, iW 8], [iW 5, iW 2]]], .tup [vW34, iW 0])
def eW162 : Nat × List AV × AV := (113, [iW 14, .isl [[iW 8, iW 11], [iW 5, iW 2], [iW 0, iW 2], [iW 2, iW 8], [iW 11, iW 5]]], .tup [vW34, iW 0])
def eW163 : Nat × List AV × AV := (113, [iW 14, .isl [[iW 8, iW 11], [iW 5, iW 2], [iW 0, iW 2], [iW 11, iW 5], [iW 2, iW 8]]], .tup [vW34, iW 0])
def eW164 : Nat × List AV × AV := (113, [iW 14, .isl [[iW 8, iW 11], [iW 5, iW 2], [iW 2, iW 8], [iW 0, iW 2], [iW 11, iW 5]]], .tup [vW34, iW 0])
def eW165 : Nat × List AV × AV := (113, [iW 14, .isl [[iW 8, iW 11], [iW 5, iW 2], [iW 2, iW 8], [iW 11, iW 5], [iW 0, iW 2]]], .tup [vW34, iW 0])
def eW166 : Nat × List AV × AV := (113, [iW 14, .isl [[iW 8, iW 11], [iW 5, iW 2], [iW 11, iW 5], [iW 0, iW 2], [iW 2, iW 8]]], .tup [vW34, iW 0])
def eW167 : Nat × List AV × AV := (113, [iW 14, .isl [[iW 8, iW 11], [iW 5, iW 2], [iW 11, iW 5], [iW 2, iW 8], [iW 0, iW 2]]], .tup [vW34, iW 0])
def eW168 : Nat × List AV × AV := (113, [iW 14, .isl [[iW 8, iW 11], [iW 2, iW 8], [iW 0, iW 2], [iW 5, iW 2], [iW 11, iW 5]]], .tup [vW34, iW 0])
def eW169 : Nat × List AV × AV := (113, [iW 14, .isl [[iW 8, iW 11], [iW 2, iW 8], [iW 0, iW 2], [iW 11, iW 5], [iW 5, iW 2]]], .tup [vW34, iW 0])
def eW170 : Nat × List AV × AV := (113, [iW 14, .isl [[iW 8, iW 11], [iW 2, iW 8], [iW 5, iW 2], [iW 0, iW 2], [iW 11, iW 5]]], .tup [vW34, iW 0])
def eW171 : Nat × List AV × AV := (113, [iW 14, .isl [[iW 8, iW 11], [iW 2, iW 8], [iW 5, iW 2], [iW 11, iW 5], [iW 0, iW 2]]], .tup [vW34, iW 0])
def eW172 : Nat × List AV × AV := (113, [iW 14, .isl [[iW 8, iW 11], [iW 2, iW 8], [iW 11, iW 5], [iW 0, iW 2], [iW 5, iW 2]]], .tup [vW34, iW 0])
def eW173 : Nat × List AV × AV := (113, [iW 14, .isl [[iW 8, iW 11], [iW 2, iW 8], [iW 11, iW 5], [iW 5, iW 2], [iW 0, iW 2]]], .tup [vW34, iW 0])
def eW174 : Nat × List AV × AV := (113, [iW 14, .isl [[iW 8, iW 11], [iW 11, iW 5], [iW 0, iW 2], [iW 5, iW 2], [iW 2, iW 8]]], .tup [vW34, iW 0])
def eW175 : Nat × List AV × AV := (113, [iW 14, .isl [[iW 8, iW 11], [iW 11, iW 5], [iW 0, iW 2], [iW 2, iW 8], [iW 5, iW 2]]], .tup [vW34, iW 0])
def eW176 : Nat × List AV × AV := (113, [iW 14, .isl [[iW 8, iW 11], [iW 11, iW 5], [iW 5, iW 2], [iW 0, iW 2], [iW 2, iW 8]]], .tup [vW34, iW 0])
def eW177 : Nat × List AV × AV := (113, [iW 14, .isl [[iW 8, iW 11], [iW 11, iW 5], [iW 5, iW 2], [iW 2, iW 8], [iW 0, iW 2]]], .tup [vW34, iW 0])
def eW178 : Nat × List AV × AV := (113, [iW 14, .isl [[iW 8, iW 11], [iW 11, iW 5], [iW 2, iW 8], [iW 0, iW 2], [iW 5, iW 2]]], .tup [vW34, iW 0])
def eW179 : Nat × List AV × AV := (113, [iW 14, .isl [[iW 8, iW 11], [iW 11, iW 5], [iW 2, iW 8], [iW 5, iW 2], [iW 0, iW 2]]], .tup [vW34, iW 0])
def eW180 : Nat × List AV × AV := (113, [iW 14, .isl [[iW 2, iW 8], [iW 0, iW 2], [iW 5, iW 2], [iW 8, iW 11], [iW 11, iW 5]]], .tup [vW34, iW 0])
def eW181 : Nat × List AV × AV := (113, [iW 14, .isl [[iW 2, iW 8], [iW 0, iW 2], [iW 5, iW 2], [iW 11, iW 5], [iW 8, iW 11]]], .tup [vW34, iW 0])
def eW182 : Nat × List AV × AV := (113, [iW 14, .isl [[iW 2, iW 8], [iW 0, iW 2], [iW 8, iW 11], [iW 5, iW 2], [iW 11, iW 5]]], .tup [vW34, iW 0])
def eW183 : Nat × List AV × AV := (113, [iW 14, .isl [[iW 2, iW 8], [iW 0, iW 2], [iW 8, iW 11], [iW 11, iW 5], [iW 5, iW 2]]], .tup [vW34, iW 0])
def eW184 : Nat × List AV × AV := (113, [iW 14, .isl [[iW 2, iW 8], [iW 0, iW 2], [iW 11, iW 5], [iW 5, iW 2], [iW 8, iW 11]]], .tup [vW34, iW 0])
def eW185 : Nat × List AV × AV := (113, [iW 14, .isl [[iW 2, iW 8], [iW 0, iW 2], [iW 11, iW 5], [iW 8, iW 11], [iW 5, iW 2]]], .tup [vW34, iW 0])
def eW186 : Nat × List AV × AV := (113, [iW 14, .isl [[iW 2, iW 8], [iW 5, iW 2], [iW 0, iW 2], [iW 8, iW 11], [iW 11, iW 5]]], .tup [vW34, iW 0])
def eW187 : Nat × List AV × AV := (113, [iW 14, .isl [[iW 2, iW 8], [iW 5, iW 2], [iW 0, iW 2], [iW 11, iW 5], [iW 8, iW 11]]], .tup [vW34, iW 0])
def eW188 : Nat × List AV × AV := (113, [iW 14, .isl [[iW 2, iW 8], [iW 5, iW 2], [iW 8, iW 11], [iW 0, iW 2], [iW 11, iW 5]]], .tup [vW34, iW 0])
def eW189 : Nat × List AV × AV := (113, [iW 14, .isl [[iW 2, iW 8], [iW 5, iW 2], [iW 8, iW 11], [iW 11, iW 5], [iW 0, iW 2]]], .tup [vW34, iW 0])
def eW190 : Nat × List AV × AV := (113, [iW 14, .isl [[iW 2, iW 8], [iW 5, iW 2], [iW 11, iW 5], [iW 0, iW 2], [iW 8, iW 11]]], .tup [vW34, iW 0])
def eW191 : Nat × List AV × AV := (113, [iW 14, .isl [[iW 2, iW 8], [iW 5, iW 2], [iW 11, iW 5], [iW 8, iW 11], [iW 0, iW 2]]], .tup [vW34, iW 0])
def eW192 : Nat × List AV × AV := (113, [iW 14, .isl [[iW 2, iW 8], [iW 8, iW 11], [iW 0, iW 2], [iW 5, iW 2], [iW 11, iW 5]]], .tup [vW34, iW 0])
def eW193 : Nat × List AV × AV := (113, [iW 14, .isl [[iW 2, iW 8], [iW 8, iW 11], [iW 0, iW 2], [iW 11, iW 5], [iW 5, iW 2]]], .tup [vW34, iW 0])
def eW194 : Nat × List AV × AV := (113, [iW 14, .isl [[iW 2, iW 8], [iW 8, iW 11], [iW 5, iW 2], [iW 0, iW 2], [iW 11, iW 5]]], .tup [vW34, iW 0])
def eW195 : Nat × List AV × AV := (113, [iW 14, .isl [[iW 2, iW 8], [iW 8, iW 11], [iW 5, iW 2], [iW 11, iW 5], [iW 0, iW 2]]], .tup [vW34, iW 0])
def eW196 : Nat × List AV × AV := (113, [iW 14, .isl [[iW 2, iW 8], [iW 8, iW 11], [iW 11, iW 5], [iW 0, iW 2], [iW 5, iW 2]]], .tup [vW34, iW 0])
def eW197 : Nat × List AV × AV := (113, [iW 14, .isl [[iW 2, iW 8], [iW 8, iW 11], [iW 11, iW 5], [iW 5, iW 2], [iW 0, iW 2]]], .tup [vW34, iW 0])
def eW198 : Nat × List AV × AV := (113, [iW 14, .isl [[iW 2, iW 8], [iW 11, iW 5], [iW 0, iW 2], [iW 5, iW 2], [iW 8, iW 11]]], .tup [vW34, iW 0])
def eW199 : Nat × List AV × AV := (113, [iW 14, .isl [[iW 2, iW 8], [iW 11, iW 5], [iW 0, iW 2], [iW 8, iW 11], [iW 5, iW 2]]], .tup [vW34, iW 0])
def eW200 : Nat × List AV × AV := (113, [iW 14, .isl [[iW 2, iW 8], [iW 11, iW 5], [iW 5, iW 2], [iW 0, iW 2], [iW 8, iW 11]]], .tup [vW34, iW 0])
def eW201 : Nat × List AV × AV := (113, [iW 14, .isl [[iW 2, iW 8], [iW 11, iW 5], [iW 5, iW 2], [iW 8, iW 11], [iW 0, iW 2]]], .tup [vW34, iW 0])
def eW202 : Nat × List AV × AV := (113, [iW 14, .isl [[iW 2, iW 8], [iW 11, iW 5], [iW 8, iW 11], [iW 0, iW 2], [iW 5, iW 2]]], .tup [vW34, iW 0])
def eW203 : Nat × List AV × AV := (113, [iW 14, .isl [[iW 2, iW 8], [iW 11, iW 5], [iW 8, iW 11], [iW 5, iW 2], [iW 0, iW 2]]], .tup [vW34, iW 0])
def eW204 : Nat × List AV × AV := (113, [iW 14, .isl [[iW 11, iW 5], [iW 0, iW 2], [iW 5, iW 2], [iW 8, iW 11], [iW 2, iW 8]]], .tup [vW34, iW 0])
def eW205 : Nat × List AV × AV := (113, [iW 14, .isl [[iW 11, iW 5], [iW 0, iW 2], [iW 5, iW 2], [iW 2, iW 8], [iW 8, iW 11]]], .tup [vW34, iW 0])
def eW206 : Nat × List AV × AV := (113, [iW 14, .isl [[iW 11, iW 5], [iW 0, iW 2], [iW 8, iW 11], [iW 5, iW 2], [iW 2, iW 8]]], .tup [vW34, iW 0])
def eW207 : Nat × List AV × AV := (113, [iW 14, .isl [[iW 11, iW 5], [iW 0, iW 2], [iW 8, iW 11], [iW 2, iW 8], [iW 5, iW 2]]], .tup [vW34, iW 0])
def eW208 : Nat × List AV × AV := (113, [iW 14, .isl [[iW 11, iW 5], [iW 0, iW 2], [iW 2, iW 8], [iW 5, iW 2], [iW 8, iW 11]]], .tup [vW34, iW 0])
def eW209 : Nat × List AV × AV := (113, [iW 14, .isl [[iW 11, iW 5], [iW 0, iW 2], [iW 2, iW 8], [iW 8, iW 11], [iW 5, iW 2]]], .tup [vW34, iW 0])
def eW210 : Nat × List AV × AV := (113, [iW 14, .isl [[iW 11, iW 5], [iW 5, iW 2], [iW 0, iW 2], [iW 8, iW 11], [iW 2, iW 8]]], .tup [vW34, iW 0])
def eW211 : Nat × List AV × AV := (113, [iW 14, .isl [[iW 11, iW 5], [iW 5, iW 2], [iW 0, iW 2], [iW 2, iW 8], [iW 8, iW 11]]], .tup [vW34, iW 0])
def eW212 : Nat × List AV × AV := (113, [iW 14, .isl [[iW 11, iW 5], [iW 5, iW 2], [iW 8, iW 11], [iW 0, iW 2], [iW 2, iW 8]]], .tup [vW34, iW 0])
def eW213 : Nat × List AV × AV := (113, [iW 14, .isl [[iW 11, iW 5], [iW 5, iW 2], [iW 8, iW 11], [iW 2, iW 8], [iW 0, iW 2]]], .tup [vW34, iW 0])
def eW214 : Nat × List AV × AV := (113, [iW 14, .isl [[iW 11, iW 5], [iW 5, iW 2], [iW 2, iW 8], [iW 0, iW 2], [iW 8, iW 11]]], .tup [vW34, iW 0])
def eW215 : Nat × List AV × AV := (113, [iW 14, .isl [[iW 11, iW 5], [iW 5, iW 2], [iW 2, iW 8], [iW 8, iW 11], [iW 0, iW 2]]], .tup [vW34, iW 0])
def eW216 : Nat × List AV × AV := (113, [iW 14, .isl [[iW 11, iW 5], [iW 8, iW 11], [iW 0, iW 2], [iW 5, iW 2], [iW 2, iW 8]]], .tup [vW34, iW 0])
def eW217 : Nat × List AV × AV := (113, [iW 14, .isl [[iW 11, iW 5], [iW 8, iW 11], [iW 0, iW 2], [iW 2, iW 8], [iW 5, iW 2]]], .tup [vW34, iW 0])
def eW218 : Nat × List AV × AV := (113, [iW 14, .isl [[iW 11, iW 5], [iW 8, iW 11], [iW 5, iW 2], [iW 0, iW 2], [iW 2, iW 8]]], .tup [vW34, iW 0])
def eW219 : Nat × List AV × AV := (113, [iW 14, .isl [[iW 11, iW 5], [iW 8, iW 11], [iW 5, iW 2], [iW 2, iW 8], [iW 0, iW 2]]], .tup [vW34, iW 0])
def eW220 : Nat × List AV × AV := (113, [iW 14, .isl [[iW 11, iW 5], [iW 8, iW 11], [iW 2, iW 8], [iW 0, iW 2], [iW 5, iW 2]]], .tup [vW34, iW 0])
def eW221 : Nat × List AV × AV := (113, [iW 14, .isl [[iW 11, iW 5], [iW 8, iW 11], [iW 2, iW 8], [iW 5, iW 2], [iW 0, iW 2]]], .tup [vW34, iW 0])
def eW222 : Nat × List AV × AV := (113, [iW 14, .isl [[iW 11, iW 5], [iW 2, iW 8], [iW 0, iW 2], [iW 5, iW 2], [iW 8, iW 11]]], .tup [vW34, iW 0])
def eW223 : Nat × List AV × AV := (113, [iW 14, .isl [[iW 11, iW 5], [iW 2, iW 8], [iW 0, iW 2], [iW 8, iW 11], [iW 5, iW 2]]], .tup [vW34, iW 0])
def eW224 : Nat × List AV × AV := (113, [iW 14, .isl [[iW 11, iW 5], [iW 2, iW 8], [iW 5, iW 2], [iW 0, iW 2], [iW 8, iW 11]]], .tup [vW34, iW 0])
def eW225 : Nat × List AV × AV := (113, [iW 14, .isl [[iW 11, iW 5], [iW 2, iW 8], [iW 5, iW 2], [iW 8, iW 11], [iW 0, iW 2]]], .tup [vW34, iW 0])
def eW226 : Nat × List AV × AV := (113, [iW 14, .isl [[iW 11, iW 5], [iW 2, iW 8], [iW 8, iW 11], [iW 0, iW 2], [iW 5, iW 2]]], .tup [vW34, iW 0])
def eW227 : Nat × List AV × AV := (113, [iW 14, .isl [[iW 11, iW 5], [iW 2, iW 8], [iW 8, iW 11], [iW 5, iW 2], [iW 0, iW 2]]], .tup [vW34, iW 0])
def eW228 : Nat × List AV × AV := (67, [vW32, iW 1], .tup [iW 1, iW 0])
def eW229 : Nat × List AV × AV := (67, [vW32, iW 3], .tup [iW 3, iW 0])
def eW230 : Nat × List AV × AV := (145, [uW 8, uW 0], uW 8)
def eW231 : Nat × List AV × AV := (163, [vW32, iW 2, iW 5], .tup [vW35, iW 0])
def eW232 : Nat × List AV × AV := (164, [vW35], iW 0)
def eW233 : Nat × List AV × AV := (67, [vW35, iW 0], .tup [iW 0, iW 0])
def eW234 : Nat × List AV × AV := (67, [vW35, iW 2], .tup [iW 2, iW 0])
def eW235 : Nat × List AV × AV := (67, [vW35, iW 5], .tup [iW 2, iW 0])
def eW236 : Nat × List AV × AV := (67, [vW35, iW 8], .tup [iW 8, iW 0])
def eW237 : Nat × List AV × AV := (67, [vW35, iW 11], .tup [iW 11, iW 0])
def eW238 : Nat × List AV × AV := (67, [vW35, iW 6], .tup [iW 6, iW 0])
def eW239 : Nat × List AV × AV := (67, [vW35, iW 7], .tup [iW 7, iW 0])
def eW240 : Nat × List AV × AV := (145, [uW 8, uW 8], uW 8)
def eW241 : Nat × List AV × AV := (163, [vW35, iW 2, iW 8], .tup [vW36, iW 0])
def eW242 : Nat × List AV × AV := (164, [vW36], iW 0)
def eW243 : Nat × List AV × AV := (67, [vW36, iW 0], .tup [iW 0, iW 0])
def eW244 : Nat × List AV × AV := (67, [vW36, iW 2], .tup [iW 2, iW 0])
def eW245 : Nat × List AV × AV := (67, [vW36, iW 8], .tup [iW 2, iW 0])
def eW246 : Nat × List AV × AV := (67, [vW36, iW 11], .tup [iW 11, iW 0])
def eW247 : Nat × List AV × AV := (67, [vW36, iW 9], .tup [iW 9, iW 0])
def eW248 : Nat × List AV × AV := (67, [vW36, iW 10], .tup [iW 10, iW 0])
def eW249 : Nat × List AV × AV := (163, [vW36, iW 2, iW 11], .tup [vW34, iW 0])
def eW250 : Nat × List AV × AV := (164, [vW34], iW 0)
def eW251 : Nat × List AV × AV := (67, [vW34, iW 11], .tup [iW 2, iW 0])
def eW252 : Nat × List AV × AV := (67, [vW34, iW 2], .tup [iW 2, iW 0])
def eW253 : Nat × List AV × AV := (67, [vW34, iW 0], .tup [iW 0, iW 0])
def eW254 : Nat × List AV × AV := (67, [vW34, iW 12], .tup [iW 12, iW 0])
def eW255 : Nat × List AV × AV := (67, [vW34, iW 13], .tup [iW 13, iW 0])
def eW256 : Nat × List AV × AV := (67, [vW34, iW 1], .tup [iW 1, iW 0])
def eW257 : Nat × List AV × AV := (67, [vW34, iW 3], .tup [iW 3, iW 0])
def eW258 : Nat × List AV × AV := (67, [vW34, iW 4], .tup [iW 4, iW 0])
def eW259 : Nat × List AV × AV := (67, [vW34, iW 5], .tup [iW 2, iW 0])
def eW260 : Nat × List AV × AV := (67, [vW34, iW 6], .tup [iW 6, iW 0])
def eW261 : Nat × List AV × AV := (67, [vW34, iW 7], .tup [iW 7, iW 0])
def eW262 : Nat × List AV × AV := (67, [vW34, iW 8], .tup [iW 2, iW 0])
def eW263 : Nat × List AV × AV := (67, [vW34, iW 9], .tup [iW 9, iW 0])
def eW264 : Nat × List AV × AV := (67, [vW34, iW 10], .tup [iW 10, iW 0])
def eW265 : Nat × List AV × AV := (6, [.agg [vW14, vW23], .nilsl], .tup [.isl [[.isl [[iW 0, uW 8]]], [.nilsl], [.isl [[iW 0, uW 8]]], [.nilsl], [.isl [[iW 0, uW 4]]], [.isl [[iW 0, uW 8]]], [.nilsl], [.nilsl], [.isl [[iW 0, uW 8]]], [.isl [[iW 0, uW 16]]], [.nilsl], [.isl [[iW 0, uW 8]]], [.nilsl], [.nilsl]], iW 0])
def eW266 : Nat × List AV × AV := (84, [.isl [[iW 0, uW 8]]], iW 0)
def eW267 : Nat × List AV × AV := (43, [.isl [[iW 0, uW 8]]], vW37)
def eW268 : Nat × List AV × AV := (5, lW28, vW37)
def eW269 : Nat × List AV × AV := (25, lW38, .tup [iW 0, iW 2])
def eW270 : Nat × List AV × AV := (7, lW38, .tup [.nilsl, iW 2])
def eW271 : Nat × List AV × AV := (35, [.nilsl], iW 0)
def eW272 : Nat × List AV × AV := (14, [.agg [.nilsl, .nilsl]], iW 60)
def eW273 : Nat × List AV × AV := (86, [.agg [.nilsl, .nilsl]], iW 60)
def eW274 : Nat × List AV × AV := (44, [.agg [.nilsl, .nilsl]], .tup [.nilsl, iW 60])
def eW275 : Nat × List AV × AV := (6, [.agg [.nilsl, .nilsl], .nilsl], .tup [.nilsl, iW 60])
def eW276 : Nat × List AV × AV := (15, lW24, .tup [iW 10, iW 0])
def eW277 : Nat × List AV × AV := (43, [.nilsl], .tup [.nilsl, iW 0])
def eW278 : Nat × List AV × AV := (5, lW24, .tup [.nilsl, iW 0])
def eW279 : Nat × List AV × AV := (11, lW39, .tup [.isl [lW2, lW3, [.isl [lW1, [.str [112, 116, 114]], [.str [116, 49]]]], lW4, lW9, lW6, [.isl [[.str [114, 48]], [.str [116, 50]], [.str [61]], [.str [110, 101, 119]]]], [.isl [[.str [114, 49]], [.str [116, 49]], [.str [61]], [.str [108, 111, 97, 100]], [.str [114, 48]]]], [.isl [[.str [114, 50]], [.str [116, 48]], [.str [61]], [.str [105, 110, 116]], [.str [49]]]], [.isl [lW8, [.str [114, 50]]]]], iW 0])
def eW280 : Nat × List AV × AV := (169, [bW 16], .bool true)
def eW281 : Nat × List AV × AV := (170, [.agg [bW 16, iW 0, iW 0, iW 0, iW 0, .nilsl, .nilsl]], .isl [[iW 0]])
def eW282 : Nat × List AV × AV := (4, lW39, .tup lW45)
def eW283 : Nat × List AV × AV := (35, [vW40], iW 0)
def eW284 : Nat × List AV × AV := (14, [.agg [vW40, vW44]], iW 0)
def eW285 : Nat × List AV × AV := (46, lW45, .tup [iW 3, iW 0])
def eW286 : Nat × List AV × AV := (176, lW45, vW29)
def eW287 : Nat × List AV × AV := (250, lW45, vW29)
def eW288 : Nat × List AV × AV := (209, lW45, vW30)
def eW289 : Nat × List AV × AV := (215, lW46, .tup [.nilsl, iW 0])
def eW290 : Nat × List AV × AV := (170, [.agg lW41], .nilsl)
def eW291 : Nat × List AV × AV := (170, [.agg lW42], .isl [[iW 0]])
def eW292 : Nat × List AV × AV := (170, [.agg lW43], .nilsl)
def eW293 : Nat × List AV × AV := (221, [.agg [bW 3, iW 2, iW 0, iW 0]], .isl [[iW 2]])
def eW294 : Nat × List AV × AV := (86, [.agg [vW40, vW44]], iW 0)
def eW295 : Nat × List AV × AV := (44, [.agg [vW40, vW44]], .tup [.isl [[iW 0, iW 0, iW 1]], iW 0])
def eW296 : Nat × List AV × AV := (89, [vW40, iW 1], vW27)
def eW297 : Nat × List AV × AV := (90, [iW 1, iW 0], iW 1)
def eW298 : Nat × List AV × AV := (47, [vW40, iW 1], vW27)
def eW299 : Nat × List AV × AV := (25, lW46, .tup [iW 0, iW 0])
def eW300 : Nat × List AV × AV := (48, [iW 5], .tup [vW47, iW 0])
def eW301 : Nat × List AV × AV := (18, [.agg [vW40, vW44]], .tup [.isl [[bW 1, iW 0, iW 0, iW 2, .nilsl], [bW 1, iW 4, iW 0, iW 0, .nilsl], lW48], iW 0])
def eW302 : Nat × List AV × AV := (164, [vW47], iW 0)
def eW303 : Nat × List AV × AV := (67, [vW47, iW 0], .tup [iW 0, iW 0])
def eW304 : Nat × List AV × AV := (67, [vW47, iW 4], .tup [iW 4, iW 0])
def eW305 : Nat × List AV × AV := (144, [uW 1, uW 0], uW 1)
def eW306 : Nat × List AV × AV := (145, [uW 0, uW 1], uW 1)
def eW307 : Nat × List AV × AV := (67, [vW47, iW 1], .tup [iW 1, iW 0])
def eW308 : Nat × List AV × AV := (144, [uW 1, uW 1], uW 0)
def eW309 : Nat × List AV × AV := (113, [iW 5, .isl [[iW 4, iW 1]]], .tup [vW47, iW 0])
def eW310 : Nat × List AV × AV := (67, [vW47, iW 2], .tup [iW 2, iW 0])
def eW311 : Nat × List AV × AV := (67, [vW47, iW 3], .tup [iW 3, iW 0])
def eW312 : Nat × List AV × AV := (6, [.agg [vW40, vW44], .nilsl], .tup [.isl [[.isl [[iW 0, uW 4]]], [.isl [[iW 0, uW 1]]], [.nilsl], [.nilsl], [.isl [[iW 0, uW 1]]]], iW 0])
def eW313 : Nat × List AV × AV := (84, [.isl [[iW 0, uW 4]]], iW 0)
def eW314 : Nat × List AV × AV := (43, [.isl [[iW 0, uW 4]]], vW49)
def eW315 : Nat × List AV × AV := (7, lW46, vW49)
def eW316 : Nat × List AV × AV := (25, lW50, .tup [iW 1, iW 0])
def eW317 : Nat × List AV × AV := (84, [.isl [[iW 0, uW 1]]], iW 0)
def eW318 : Nat × List AV × AV := (43, [.isl [[iW 0, uW 1]]], vW29)
def eW319 : Nat × List AV × AV := (7, lW50, vW29)
def eW320 : Nat × List AV × AV := (25, lW51, .tup [iW 2, iW 0])
def eW321 : Nat × List AV × AV := (7, lW51, .tup [.nilsl, iW 0])
def eW322 : Nat × List AV × AV := (10, [.nilsl, .nilsl], .bool true)
def eW323 : Nat × List AV × AV := (25, lW26, .tup [iW 2, iW 0])
def eW324 : Nat × List AV × AV := (7, lW26, vW37)
def eW325 : Nat × List AV × AV := (25, lW52, .tup [iW 5, iW 0])
def eW326 : Nat × List AV × AV := (7, lW52, vW37)
def eW327 : Nat × List AV × AV := (25, lW53, .tup [iW 4, iW 0])
def eW328 : Nat × List AV × AV := (7, lW53, vW49)
def eW329 : Nat × List AV × AV := (25, lW31, .tup [iW 8, iW 0])
def eW330 : Nat × List AV × AV := (7, lW31, vW37)
def eW331 : Nat × List AV × AV := (25, lW54, .tup [iW 9, iW 0])
def eW332 : Nat × List AV × AV := (84, [.isl [[iW 0, uW 16]]], iW 0)
def eW333 : Nat × List AV × AV := (43, [.isl [[iW 0, uW 16]]], vW55)
def eW334 : Nat × List AV × AV := (7, lW54, vW55)
def pW0 : Nat × List AV × Hp × List (AV × Hp) := (66, lW56, { nx := 209, m := (.n tW75 (some (.cells 25 [vW14, vW23])) (.n (.n tW77 (some (.map [] 0)) tW81) (some oW82) tW91)), lo := 0 }, [(.tup [], { nx := 209, m := (.n tW75 (some (.cells 25 [vW14, vW23])) (.n (.n tW77 (some oW92) tW81) (some oW82) tW91)), lo := 0 })])
def pW1 : Nat × List AV × Hp × List (AV × Hp) := (66, lW56, { nx := 210, m := (.n tW93 (some (.cells 25 [vW14, vW23])) (.n (.n tW77 (some (.map [] 0)) tW95) (some oW82) tW97)), lo := 0 }, [(.tup [], { nx := 210, m := (.n tW93 (some (.cells 25 [vW14, vW23])) (.n (.n tW77 (some oW92) tW95) (some oW82) tW97)), lo := 0 })])
def pW2 : Nat × List AV × Hp × List (AV × Hp) := (114, [.ptr 5 0, iW 2, iW 5], { nx := 253, m := (.n tW115 (some (.cells 25 [vW14, vW23])) (.n (.n tW119 (some oW120) (.n tW124 none (.n tW125 none tW59))) (some oW126) tW134)), lo := 0 }, [(.tup [], hW155), (.tup [], hW157), (.tup [], hW159), (.tup [], hW161), (.tup [], hW163), (.tup [], hW165), (.tup [], hW167), (.tup [], hW169), (.tup [], hW171), (.tup [], hW173), (.tup [], hW175), (.tup [], hW177), (.tup [], hW179), (.tup [], hW181), (.tup [], hW183), (.tup [], hW185), (.tup [], hW187), (.tup [], hW189), (.tup [], hW191), (.tup [], hW193), (.tup [], hW195), (.tup [], hW197), (.tup [], hW199), (.tup [], hW201)])
def pW3 : Nat × List AV × Hp × List (AV × Hp) := (114, [.ptr 5 0, iW 2, iW 8], hW155, [(.tup [], hW223), (.tup [], hW225), (.tup [], hW227), (.tup [], hW229), (.tup [], hW231), (.tup [], hW233)])
def pW4 : Nat × List AV × Hp × List (AV × Hp) := (114, [.ptr 5 0, iW 2, iW 8], hW157, [(.tup [], hW223), (.tup [], hW225), (.tup [], hW227), (.tup [], hW229), (.tup [], hW231), (.tup [], hW233)])
def pW5 : Nat × List AV × Hp × List (AV × Hp) := (114, [.ptr 5 0, iW 2, iW 8], hW159, [(.tup [], hW223), (.tup [], hW225), (.tup [], hW227), (.tup [], hW229), (.tup [], hW231), (.tup [], hW233)])
def pW6 : Nat × List AV × Hp × List (AV × Hp) := (114, [.ptr 5 0, iW 2, iW 8], hW161, [(.tup [], hW225), (.tup [], hW223), (.tup [], hW231), (.tup [], hW233), (.tup [], hW227), (.tup [], hW229)])
def pW7 : Nat × List AV × Hp × List (AV × Hp) := (114, [.ptr 5 0, iW 2, iW 8], hW163, [(.tup [], hW225), (.tup [], hW223), (.tup [], hW231), (.tup [], hW233), (.tup [], hW227), (.tup [], hW229)])
def pW8 : Nat × List AV × Hp × List (AV × Hp) := (114, [.ptr 5 0, iW 2, iW 8], hW165, [(.tup [], hW225), (.tup [], hW223), (.tup [], hW231), (.tup [], hW233), (.tup [], hW227), (.tup [], hW229)])
def pW9 : Nat × List AV × Hp × List (AV × Hp) := (114, [.ptr 5 0, iW 2, iW 8], hW167, [(.tup [], hW227), (.tup [], hW229), (.tup [], hW223), (.tup [], hW225), (.tup [], hW233), (.tup [], hW231)])
def pW10 : Nat × List AV × Hp × List (AV × Hp) := (114, [.ptr 5 0, iW 2, iW 8], hW169, [(.tup [], hW227), (.tup [], hW229), (.tup [], hW223), (.tup [], hW225), (.tup [], hW233), (.tup [], hW231)])
def pW11 : Nat × List AV × Hp × List (AV × Hp) := (114, [.ptr 5 0, iW 2, iW 8], hW171, [(.tup [], hW227), (.tup [], hW229), (.tup [], hW223), (.tup [], hW225), (.tup [], hW233), (.tup [], hW231)])
def pW12 : Nat × List AV × Hp × List (AV × Hp) := (114, [.ptr 5 0, iW 2, iW 8], hW173, [(.tup [], hW229), (.tup [], hW227), (.tup [], hW233), (.tup [], hW231), (.tup [], hW223), (.tup [], hW225)])
def pW13 : Nat × List AV × Hp × List (AV × Hp) := (114, [.ptr 5 0, iW 2, iW 8], hW175, [(.tup [], hW229), (.tup [], hW227), (.tup [], hW233), (.tup [], hW231), (.tup [], hW223), (.tup [], hW225)])
def pW14 : Nat × List AV × Hp × List (AV × Hp) := (114, [.ptr 5 0, iW 2, iW 8], hW177, [(.tup [], hW229), (.tup [], hW227), (.tup [], hW233), (.tup [], hW231), (.tup [], hW223), (.tup [], hW225)])
def pW15 : Nat × List AV × Hp × List (AV × Hp) := (114, [.ptr 5 0, iW 2, iW 8], hW179, [(.tup [], hW223), (.tup [], hW225), (.tup [], hW227), (.tup [], hW229), (.tup [], hW231), (.tup [], hW233)])
def pW16 : Nat × List AV × Hp × List (AV × Hp) := (114, [.ptr 5 0, iW 2, iW 8], hW181, [(.tup [], hW225), (.tup [], hW223), (.tup [], hW231), (.tup [], hW233), (.tup [], hW227), (.tup [], hW229)])
def pW17 : Nat × List AV × Hp × List (AV × Hp) := (114, [.ptr 5 0, iW 2, iW 8], hW183, [(.tup [], hW227), (.tup [], hW229), (.tup [], hW223), (.tup [], hW225), (.tup [], hW233), (.tup [], hW231)])
def pW18 : Nat × List AV × Hp × List (AV × Hp) := (114, [.ptr 5 0, iW 2, iW 8], hW185, [(.tup [], hW229), (.tup [], hW227), (.tup [], hW233), (.tup [], hW231), (.tup [], hW223), (.tup [], hW225)])
def pW19 : Nat × List AV × Hp × List (AV × Hp) := (114, [.ptr 5 0, iW 2, iW 8], hW187, [(.tup [], hW231), (.tup [], hW233), (.tup [], hW225), (.tup [], hW223), (.tup [], hW229), (.tup [], hW227)])
def pW20 : Nat × List AV × Hp × List (AV × Hp) := (114, [.ptr 5 0, iW 2, iW 8], hW189, [(.tup [], hW233), (.tup [], hW231), (.tup [], hW229), (.tup [], hW227), (.tup [], hW225), (.tup [], hW223)])
def pW21 : Nat × List AV × Hp × List (AV × Hp) := (114, [.ptr 5 0, iW 2, iW 8], hW191, [(.tup [], hW231), (.tup [], hW233), (.tup [], hW225), (.tup [], hW223), (.tup [], hW229), (.tup [], hW227)])
def pW22 : Nat × List AV × Hp × List (AV × Hp) := (114, [.ptr 5 0, iW 2, iW 8], hW193, [(.tup [], hW231), (.tup [], hW233), (.tup [], hW225), (.tup [], hW223), (.tup [], hW229), (.tup [], hW227)])
def pW23 : Nat × List AV × Hp × List (AV × Hp) := (114, [.ptr 5 0, iW 2, iW 8], hW195, [(.tup [], hW233), (.tup [], hW231), (.tup [], hW229), (.tup [], hW227), (.tup [], hW225), (.tup [], hW223)])
def pW24 : Nat × List AV × Hp × List (AV × Hp) := (114, [.ptr 5 0, iW 2, iW 8], hW197, [(.tup [], hW233), (.tup [], hW231), (.tup [], hW229), (.tup [], hW227), (.tup [], hW225), (.tup [], hW223)])
def pW25 : Nat × List AV × Hp × List (AV × Hp) := (114, [.ptr 5 0, iW 2, iW 8], hW199, [(.tup [], hW231), (.tup [], hW233), (.tup [], hW225), (.tup [], hW223), (.tup [], hW229), (.tup [], hW227)])
def pW26 : Nat × List AV × Hp × List (AV × Hp) := (114, [.ptr 5 0, iW 2, iW 8], hW201, [(.tup [], hW233), (.tup [], hW231), (.tup [], hW229), (.tup [], hW227), (.tup [], hW225), (.tup [], hW223)])
def pW27 : Nat × List AV × Hp × List (AV × Hp) := (114, [.ptr 5 0, iW 2, iW 11], hW233, [(.tup [], { nx := 320, m := (.n (.n (.n tW235 none (.n tW236 none (.n (.n tW104 none tW237) none tW207))) none (.n tW238 (some oW239) (.n tW240 none (.n (.n (.n .e none tW94) none tW234) (some oW72) tW212)))) (some (.cells 25 [vW14, vW23])) (.n (.n tW241 (some oW120) (.n tW242 none (.n (.n (.n .e none tW78) none tW243) none (.n tW135 none .e)))) (some oW244) tW245)), lo := 0 })])
def pW28 : Nat × List AV × Hp × List (AV × Hp) := (114, [.ptr 5 0, iW 2, iW 11], hW231, [(.tup [], { nx := 320, m := (.n (.n (.n tW235 none (.n tW236 none (.n (.n tW104 none tW237) none tW207))) none (.n tW238 (some oW239) (.n tW240 none (.n (.n (.n .e none tW94) none tW234) (some oW72) tW212)))) (some (.cells 25 [vW14, vW23])) (.n (.n tW241 (some oW120) (.n tW242 none (.n (.n (.n .e none tW78) none tW243) none (.n tW135 none .e)))) (some oW244) tW245)), lo := 0 })])
def pW29 : Nat × List AV × Hp × List (AV × Hp) := (114, [.ptr 5 0, iW 2, iW 11], hW229, [(.tup [], { nx := 320, m := (.n (.n (.n tW235 none (.n tW236 none (.n (.n tW104 none tW237) none tW207))) none (.n tW238 (some oW239) (.n tW240 none (.n (.n (.n .e none tW94) none tW234) (some oW72) tW212)))) (some (.cells 25 [vW14, vW23])) (.n (.n tW241 (some oW120) (.n tW242 none (.n (.n (.n .e none tW78) none tW243) none (.n tW135 none .e)))) (some oW244) tW245)), lo := 0 })])
def pW30 : Nat × List AV × Hp × List (AV × Hp) := (114, [.ptr 5 0, iW 2, iW 11], hW227, [(.tup [], { nx := 320, m := (.n (.n (.n tW235 none (.n tW236 none (.n (.n tW104 none tW237) none tW207))) none (.n tW238 (some oW239) (.n tW240 none (.n (.n (.n .e none tW94) none tW234) (some oW72) tW212)))) (some (.cells 25 [vW14, vW23])) (.n (.n tW241 (some oW120) (.n tW242 none (.n (.n (.n .e none tW78) none tW243) none (.n tW135 none .e)))) (some oW244) tW245)), lo := 0 })])
def pW31 : Nat × List AV × Hp × List (AV × Hp) := (114, [.ptr 5 0, iW 2, iW 11], hW225, [(.tup [], { nx := 320, m := (.n (.n (.n tW235 none (.n tW236 none (.n (.n tW104 none tW237) none tW207))) none (.n tW238 (some oW239) (.n tW240 none (.n (.n (.n .e none tW94) none tW234) (some oW72) tW212)))) (some (.cells 25 [vW14, vW23])) (.n (.n tW241 (some oW120) (.n tW242 none (.n (.n (.n .e none tW78) none tW243) none (.n tW135 none .e)))) (some oW244) tW245)), lo := 0 })])
def pW32 : Nat × List AV × Hp × List (AV × Hp) := (114, [.ptr 5 0, iW 2, iW 11], hW223, [(.tup [], { nx := 320, m := (.n (.n (.n tW235 none (.n tW236 none (.n (.n tW104 none tW237) none tW207))) none (.n tW238 (some oW239) (.n tW240 none (.n (.n (.n .e none tW94) none tW234) (some oW72) tW212)))) (some (.cells 25 [vW14, vW23])) (.n (.n tW241 (some oW120) (.n tW242 none (.n (.n (.n .e none tW78) none tW243) none (.n tW135 none .e)))) (some oW244) tW245)), lo := 0 })])
def pW33 : Nat × List AV × Hp × List (AV × Hp) := (66, lW246, { nx := 236, m := (.n tW115 (some (.cells 25 [vW14, vW23])) (.n (.n tW119 (some oW92) (.n tW124 none (.n tW247 none tW59))) (some oW126) tW134)), lo := 0 }, [(.tup [], { nx := 238, m := (.n (.n (.n tW100 none tW108) none (.n tW248 (some oW249) (.n tW113 none (.n (.n (.n .e none tW94) none (.n .e none tW57)) (some oW72) tW67)))) (some (.cells 25 [vW14, vW23])) (.n (.n tW250 (some oW120) (.n tW124 none (.n (.n (.n .e none tW78) none tW251) none tW59))) (some oW244) tW134)), lo := 0 })])
def pW34 : Nat × List AV × Hp × List (AV × Hp) := (114, [.ptr 5 0, iW 2, iW 5], { nx := 253, m := (.n tW255 (some (.cells 25 [vW14, vW23])) (.n (.n tW119 (some oW120) (.n tW124 none (.n tW256 none tW59))) (some oW126) tW134)), lo := 0 }, [(.tup [], hW259), (.tup [], hW260), (.tup [], hW261), (.tup [], hW262), (.tup [], hW263), (.tup [], hW264), (.tup [], hW265), (.tup [], hW266), (.tup [], hW267), (.tup [], hW268), (.tup [], hW269), (.tup [], hW270), (.tup [], hW271), (.tup [], hW272), (.tup [], hW273), (.tup [], hW274), (.tup [], hW275), (.tup [], hW276), (.tup [], hW277), (.tup [], hW278), (.tup [], hW279), (.tup [], hW280), (.tup [], hW281), (.tup [], hW282)])
def pW35 : Nat × List AV × Hp × List (AV × Hp) := (114, [.ptr 5 0, iW 2, iW 8], hW259, [(.tup [], hW285), (.tup [], hW286), (.tup [], hW287), (.tup [], hW288), (.tup [], hW289), (.tup [], hW290)])
def pW36 : Nat × List AV × Hp × List (AV × Hp) := (114, [.ptr 5 0, iW 2, iW 8], hW260, [(.tup [], hW285), (.tup [], hW286), (.tup [], hW287), (.tup [], hW288), (.tup [], hW289), (.tup [], hW290)])
def pW37 : Nat × List AV × Hp × List (AV × Hp) := (114, [.ptr 5 0, iW 2, iW 8], hW261, [(.tup [], hW285), (.tup [], hW286), (.tup [], hW287), (.tup [], hW288), (.tup [], hW289), (.tup [], hW290)])
def pW38 : Nat × List AV × Hp × List (AV × Hp) := (114, [.ptr 5 0, iW 2, iW 8], hW262, [(.tup [], hW286), (.tup [], hW285), (.tup [], hW289), (.tup [], hW290), (.tup [], hW287), (.tup [], hW288)])
def pW39 : Nat × List AV × Hp × List (AV × Hp) := (114, [.ptr 5 0, iW 2, iW 8], hW263, [(.tup [], hW286), (.tup [], hW285), (.tup [], hW289), (.tup [], hW290), (.tup [], hW287), (.tup [], hW288)])
def pW40 : Nat × List AV × Hp × List (AV × Hp) := (114, [.ptr 5 0, iW 2, iW 8], hW264, [(.tup [], hW286), (.tup [], hW285), (.tup [], hW289), (.tup [], hW290), (.tup [], hW287), (.tup [], hW288)])
def pW41 : Nat × List AV × Hp × List (AV × Hp) := (114, [.ptr 5 0, iW 2, iW 8], hW265, [(.tup [], hW287), (.tup [], hW288), (.tup [], hW285), (.tup [], hW286), (.tup [], hW290), (.tup [], hW289)])
def pW42 : Nat × List AV × Hp × List (AV × Hp) := (114, [.ptr 5 0, iW 2, iW 8], hW266, [(.tup [], hW287), (.tup [], hW288), (.tup [], hW285), (.tup [], hW286), (.tup [], hW290), (.tup [], hW289)])
def pW43 : Nat × List AV × Hp × List (AV × Hp) := (114, [.ptr 5 0, iW 2, iW 8], hW267, [(.tup [], hW287), (.tup [], hW288), (.tup [], hW285), (.tup [], hW286), (.tup [], hW290), (.tup [], hW289)])
def pW44 : Nat × List AV × Hp × List (AV × Hp) := (114, [.ptr 5 0, iW 2, iW 8], hW268, [(.tup [], hW288), (.tup [], hW287), (.tup [], hW290), (.tup [], hW289), (.tup [], hW285), (.tup [], hW286)])
def pW45 : Nat × List AV × Hp × List (AV × Hp) := (114, [.ptr 5 0, iW 2, iW 8], hW269, [(.tup [], hW288), (.tup [], hW287), (.tup [], hW290), (.tup [], hW289), (.tup [], hW285), (.tup [], hW286)])
def pW46 : Nat × List AV × Hp × List (AV × Hp) := (114, [.ptr 5 0, iW 2, iW 8], hW270, [(.tup [], hW288), (.tup [], hW287), (.tup [], hW290), (.tup [], hW289), (.tup [], hW285), (.tup [], hW286)])
def pW47 : Nat × List AV × Hp × List (AV × Hp) := (114, [.ptr 5 0, iW 2, iW 8], hW271, [(.tup [], hW285), (.tup [], hW286), (.tup [], hW287), (.tup [], hW288), (.tup [], hW289), (.tup [], hW290)])
def pW48 : Nat × List AV × Hp × List (AV × Hp) := (114, [.ptr 5 0, iW 2, iW 8], hW272, [(.tup [], hW286), (.tup [], hW285), (.tup [], hW289), (.tup [], hW290), (.tup [], hW287), (.tup [], hW288)])
def pW49 : Nat × List AV × Hp × List (AV × Hp) := (114, [.ptr 5 0, iW 2, iW 8], hW273, [(.tup [], hW287), (.tup [], hW288), (.tup [], hW285), (.tup [], hW286), (.tup [], hW290), (.tup [], hW289)])
def pW50 : Nat × List AV × Hp × List (AV × Hp) := (114, [.ptr 5 0, iW 2, iW 8], hW274, [(.tup [], hW288), (.tup [], hW287), (.tup [], hW290), (.tup [], hW289), (.tup [], hW285), (.tup [], hW286)])
def pW51 : Nat × List AV × Hp × List (AV × Hp) := (114, [.ptr 5 0, iW 2, iW 8], hW275, [(.tup [], hW289), (.tup [], hW290), (.tup [], hW286), (.tup [], hW285), (.tup [], hW288), (.tup [], hW287)])
def pW52 : Nat × List AV × Hp × List (AV × Hp) := (114, [.ptr 5 0, iW 2, iW 8], hW276, [(.tup [], hW290), (.tup [], hW289), (.tup [], hW288), (.tup [], hW287), (.tup [], hW286), (.tup [], hW285)])
def pW53 : Nat × List AV × Hp × List (AV × Hp) := (114, [.ptr 5 0, iW 2, iW 8], hW277, [(.tup [], hW289), (.tup [], hW290), (.tup [], hW286), (.tup [], hW285), (.tup [], hW288), (.tup [], hW287)])
def pW54 : Nat × List AV × Hp × List (AV × Hp) := (114, [.ptr 5 0, iW 2, iW 8], hW278, [(.tup [], hW289), (.tup [], hW290), (.tup [], hW286), (.tup [], hW285), (.tup [], hW288), (.tup [], hW287)])
def pW55 : Nat × List AV × Hp × List (AV × Hp) := (114, [.ptr 5 0, iW 2, iW 8], hW279, [(.tup [], hW290), (.tup [], hW289), (.tup [], hW288), (.tup [], hW287), (.tup [], hW286), (.tup [], hW285)])
def pW56 : Nat × List AV × Hp × List (AV × Hp) := (114, [.ptr 5 0, iW 2, iW 8], hW280, [(.tup [], hW290), (.tup [], hW289), (.tup [], hW288), (.tup [], hW287), (.tup [], hW286), (.tup [], hW285)])
def pW57 : Nat × List AV × Hp × List (AV × Hp) := (114, [.ptr 5 0, iW 2, iW 8], hW281, [(.tup [], hW289), (.tup [], hW290), (.tup [], hW286), (.tup [], hW285), (.tup [], hW288), (.tup [], hW287)])
def pW58 : Nat × List AV × Hp × List (AV × Hp) := (114, [.ptr 5 0, iW 2, iW 8], hW282, [(.tup [], hW290), (.tup [], hW289), (.tup [], hW288), (.tup [], hW287), (.tup [], hW286), (.tup [], hW285)])
def pW59 : Nat × List AV × Hp × List (AV × Hp) := (114, [.ptr 5 0, iW 2, iW 11], hW290, [(.tup [], { nx := 320, m := (.n (.n (.n tW235 none (.n tW236 none (.n (.n tW252 none tW237) none tW207))) none (.n tW238 (some oW239) (.n tW240 none (.n (.n (.n .e none tW78) none tW234) (some oW72) tW212)))) (some (.cells 25 [vW14, vW23])) (.n (.n tW241 (some oW120) (.n tW242 none (.n (.n (.n .e none tW94) none tW243) none (.n tW135 none .e)))) (some oW244) tW245)), lo := 0 })])
def pW60 : Nat × List AV × Hp × List (AV × Hp) := (114, [.ptr 5 0, iW 2, iW 11], hW289, [(.tup [], { nx := 320, m := (.n (.n (.n tW235 none (.n tW236 none (.n (.n tW252 none tW237) none tW207))) none (.n tW238 (some oW239) (.n tW240 none (.n (.n (.n .e none tW78) none tW234) (some oW72) tW212)))) (some (.cells 25 [vW14, vW23])) (.n (.n tW241 (some oW120) (.n tW242 none (.n (.n (.n .e none tW94) none tW243) none (.n tW135 none .e)))) (some oW244) tW245)), lo := 0 })])
def pW61 : Nat × List AV × Hp × List (AV × Hp) := (114, [.ptr 5 0, iW 2, iW 11], hW288, [(.tup [], { nx := 320, m := (.n (.n (.n tW235 none (.n tW236 none (.n (.n tW252 none tW237) none tW207))) none (.n tW238 (some oW239) (.n tW240 none (.n (.n (.n .e none tW78) none tW234) (some oW72) tW212)))) (some (.cells 25 [vW14, vW23])) (.n (.n tW241 (some oW120) (.n tW242 none (.n (.n (.n .e none tW94) none tW243) none (.n tW135 none .e)))) (some oW244) tW245)), lo := 0 })])
def pW62 : Nat × List AV × Hp × List (AV × Hp) := (114, [.ptr 5 0, iW 2, iW 11], hW287, [(.tup [], { nx := 320, m := (.n (.n (.n tW235 none (.n tW236 none (.n (.n tW252 none tW237) none tW207))) none (.n tW238 (some oW239) (.n tW240 none (.n (.n (.n .e none tW78) none tW234) (some oW72) tW212)))) (some (.cells 25 [vW14, vW23])) (.n (.n tW241 (some oW120) (.n tW242 none (.n (.n (.n .e none tW94) none tW243) none (.n tW135 none .e)))) (some oW244) tW245)), lo := 0 })])
def pW63 : Nat × List AV × Hp × List (AV × Hp) := (114, [.ptr 5 0, iW 2, iW 11], hW286, [(.tup [], { nx := 320, m := (.n (.n (.n tW235 none (.n tW236 none (.n (.n tW252 none tW237) none tW207))) none (.n tW238 (some oW239) (.n tW240 none (.n (.n (.n .e none tW78) none tW234) (some oW72) tW212)))) (some (.cells 25 [vW14, vW23])) (.n (.n tW241 (some oW120) (.n tW242 none (.n (.n (.n .e none tW94) none tW243) none (.n tW135 none .e)))) (some oW244) tW245)), lo := 0 })])
def pW64 : Nat × List AV × Hp × List (AV × Hp) := (114, [.ptr 5 0, iW 2, iW 11], hW285, [(.tup [], { nx := 320, m := (.n (.n (.n tW235 none (.n tW236 none (.n (.n tW252 none tW237) none tW207))) none (.n tW238 (some oW239) (.n tW240 none (.n (.n (.n .e none tW78) none tW234) (some oW72) tW212)))) (some (.cells 25 [vW14, vW23])) (.n (.n tW241 (some oW120) (.n tW242 none (.n (.n (.n .e none tW94) none tW243) none (.n tW135 none .e)))) (some oW244) tW245)), lo := 0 })])
def pW65 : Nat × List AV × Hp × List (AV × Hp) := (66, lW246, { nx := 236, m := (.n tW255 (some (.cells 25 [vW14, vW23])) (.n (.n tW119 (some oW92) (.n tW124 none (.n tW114 none tW59))) (some oW126) tW134)), lo := 0 }, [(.tup [], { nx := 238, m := (.n (.n (.n tW100 none tW254) none (.n tW248 (some oW249) (.n tW113 none (.n (.n (.n .e none tW78) none (.n .e none tW57)) (some oW72) tW67)))) (some (.cells 25 [vW14, vW23])) (.n (.n tW250 (some oW120) (.n tW124 none (.n (.n (.n .e none tW94) none tW251) none tW59))) (some oW244) tW134)), lo := 0 })])
def pW66 : Nat × List AV × Hp × List (AV × Hp) := (66, [.ptr 5 0, .agg [iW 4, iW 1]], { nx := 127, m := (.n tW296 (some (.cells 25 [vW40, vW44])) (.n (.n tW297 (some (.map [] 0)) tW298) (some (.map [] 3)) tW299)), lo := 0 }, [(.tup [], { nx := 127, m := (.n tW296 (some (.cells 25 [vW40, vW44])) (.n (.n tW297 (some oW292) tW298) (some (.map [] 3)) tW299)), lo := 0 })])
end Go.Proofs.YtnpknclpnogagaaGreatDoor
