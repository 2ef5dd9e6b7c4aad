/- A part of the proof of one statement about the given program: a verified evaluator of the model's code, and contracts of functions (Ir2 Ir3 Ir4 Dvi Dvn Dvo Dv3 Dvk Dvy WA WB). No condition of its own. -/
import Derived.Laws.StructEq
import Derived.Test.YtkfjdlbkmomffaaGreatDoorV01
set_option linter.unusedVariables false
set_option linter.unusedSimpArgs false
set_option linter.defProp false
set_option linter.constructorNameAsVariable false
set_option maxRecDepth 100000
namespace Go.Proofs.Dv
def ir100 : IFun := ⟨2, [.t 4], (.seq (.reg [ox 4 (.mv (.k (.bool false)))] false) (.seq (.reg [ox 5 (.mv (.t 0)), ox 6 (.mv (.t 1)), ox 7 (.call (.f 145) [(.t 5), (.t 6)]), ox 8 (.bi .geq .int (.t 7) (.k (.int .i64 0))), ox 4 (.mv (.t 8))] false) .ret))⟩
def lp102x0 : IC := (.seq (.seq (.reg [ox 14 (.mv (.t 9)), ox 15 (.fa 5 (.t 3)), ox 16 (.ld false 1 (.t 15)), ox 17 (.len false (.t 16)), ox 18 (.bi .lss .int (.t 14) (.t 17)), ox 19 (.mv (.t 18)), ⟨(some 20), .mv (.t 8), (some (19, true)), false⟩, ⟨(some 21), .mv (.t 1), (some (19, true)), false⟩, ⟨(some 22), .bi .leq .int (.t 20) (.t 21), (some (19, true)), false⟩, ox 23 (.pick (.t 19) (.t 22) (.k (.bool false)))] false) (.cond (.t 23) .skip (.exit 0))) (.seq (.blk 1 (.seq (.reg [ox 27 (.fa 5 (.t 3)), ox 28 (.ld false 1 (.t 27)), ox 29 (.mv (.t 9)), ox 30 (.ia 6 (.t 28) (.t 29)), ox 31 (.ld true 6 (.t 30)), ox 32 (.mv (.t 1)), ox 33 (.mv (.t 8)), ox 34 (.bi .sub .int (.t 32) (.t 33)), ox 35 (.mv (.t 2)), ox 36 (.bi .sub .int (.t 35) (.k (.int .i64 1))), ox 37 (.call (.f 102) [(.t 31), (.t 34), (.t 36)]), ox 26 (.mv (.t 37)), ox 38 (.ext (.t 26) 0), ox 39 (.ext (.t 26) 1), ox 10 (.mv (.t 38)), ox 11 (.mv (.t 39))] false) (.seq (.seq (.reg [ox 40 (.mv (.t 11)), ox 41 (.un .not (.t 40))] false) (.cond (.t 41) (.seq (.reg [ox 42 (.mv (.t 8)), ox 6 (.mv (.t 42)), ox 7 (.mv (.k (.bool false)))] false) .ret) .skip)) (.reg [ox 43 (.mv (.t 8)), ox 44 (.mv (.t 10)), ox 45 (.bi .add .int (.t 43) (.t 44)), ox 8 (.mv (.t 45))] false)))) (.reg [ox 24 (.mv (.t 9)), ox 25 (.bi .add .int (.t 24) (.k (.int .i64 1))), ox 9 (.mv (.t 25))] false)))
def ir102 : IFun := ⟨3, [.t 6, .t 7], (.seq (.reg [ox 3 (.box (.t 0)), ox 6 (.mv (.k (.int .i64 0))), ox 7 (.mv (.k (.bool false)))] false) (.seq (.seq (.reg [ox 12 (.mv (.t 2)), ox 13 (.bi .eql .int (.t 12) (.k (.int .i64 0)))] false) (.cond (.t 13) (.seq (.reg [ox 6 (.mv (.k (.int .i64 1))), ox 7 (.mv (.k (.bool false)))] false) .ret) .skip)) (.seq (.reg [ox 8 (.mv (.k (.int .i64 1)))] false) (.seq (.seq (.reg [ox 9 (.mv (.k (.int .i64 0)))] false) (.blk 0 (.loop [1, 2, 3, 8, 9] lp102x0))) (.seq (.reg [ox 46 (.mv (.t 8)), ox 6 (.mv (.t 46)), ox 7 (.mv (.k (.bool true)))] false) .ret)))))⟩
def lp103x0 : IC := (.seq (.seq (.reg [ox 4 (.mv (.t 3)), ox 5 (.fa 5 (.t 1)), ox 6 (.ld false 1 (.t 5)), ox 7 (.len false (.t 6)), ox 8 (.bi .lss .int (.t 4) (.t 7))] false) (.cond (.t 8) .skip (.exit 0))) (.seq (.blk 1 (.seq (.reg [ox 11 (.fa 5 (.t 1)), ox 12 (.ld false 1 (.t 11)), ox 13 (.mv (.t 3)), ox 14 (.ia 6 (.t 12) (.t 13)), ox 15 (.ld true 6 (.t 14)), ox 16 (.call (.f 103) [(.t 15)])] false) (.cond (.t 16) (.seq (.reg [ox 2 (.mv (.k (.bool true)))] false) .ret) .skip))) (.reg [ox 9 (.mv (.t 3)), ox 10 (.bi .add .int (.t 9) (.k (.int .i64 1))), ox 3 (.mv (.t 10))] false)))
def ir103 : IFun := ⟨1, [.t 2], (.seq (.reg [ox 1 (.box (.t 0)), ox 2 (.mv (.k (.bool false)))] false) (.seq (.seq (.reg [ox 3 (.mv (.k (.int .i64 0)))] false) (.blk 0 (.loop [1, 3] lp103x0))) (.seq (.reg [ox 17 (.fa 3 (.t 1)), ox 18 (.ld false 1 (.t 17)), ox 19 (.len true (.t 18)), ox 20 (.bi .gtr .int (.t 19) (.k (.int .i64 200))), ox 2 (.mv (.t 20))] false) .ret)))⟩
def lp104x0 : IC := (.seq (.seq (.reg [ox 5 (.mv (.t 4)), ox 6 (.fa 5 (.t 1)), ox 7 (.ld false 1 (.t 6)), ox 8 (.len false (.t 7)), ox 9 (.bi .lss .int (.t 5) (.t 8))] false) (.cond (.t 9) .skip (.exit 0))) (.seq (.blk 1 (.reg [ox 12 (.mv (.t 3)), ox 13 (.fa 5 (.t 1)), ox 14 (.ld false 1 (.t 13)), ox 15 (.mv (.t 4)), ox 16 (.ia 6 (.t 14) (.t 15)), ox 17 (.ld true 6 (.t 16)), ox 18 (.call (.f 104) [(.t 17)]), ox 19 (.bi .add .int (.t 12) (.t 18)), ox 3 (.mv (.t 19))] false)) (.reg [ox 10 (.mv (.t 4)), ox 11 (.bi .add .int (.t 10) (.k (.int .i64 1))), ox 4 (.mv (.t 11))] false)))
def ir104 : IFun := ⟨1, [.t 2], (.seq (.reg [ox 1 (.box (.t 0)), ox 2 (.mv (.k (.int .i64 0)))] false) (.seq (.reg [ox 3 (.mv (.k (.int .i64 1)))] false) (.seq (.seq (.reg [ox 4 (.mv (.k (.int .i64 0)))] false) (.blk 0 (.loop [1, 3, 4] lp104x0))) (.seq (.reg [ox 20 (.mv (.t 3)), ox 2 (.mv (.t 20))] false) .ret))))⟩
def ir105 : IFun := ⟨2, [.t 4], (.seq (.reg [ox 4 (.mv (.k (.bool false)))] false) (.seq (.reg [ox 5 (.mv (.t 1)), ox 6 (.bsl 1 [.int .i64 0] 1 [(0, (.k (.int .i64 0)))]), ox 7 (.app 1 8 (.t 5) (.t 6)), ox 8 (.call (.f 146) [(.t 7)]), ox 9 (.mv (.t 0)), ox 10 (.bi .leq .int (.t 8) (.t 9)), ox 4 (.mv (.t 10))] false) .ret))⟩
def ir106 : IFun := ⟨2, [.t 4], (.seq (.reg [ox 4 (.mv (.k (.bool false)))] false) (.seq (.reg [ox 5 (.mv (.t 0)), ox 6 (.mv (.t 1)), ox 7 (.call (.f 147) [(.t 5), (.t 6)]), ox 8 (.bi .geq .int (.t 7) (.k (.int .i64 0))), ox 4 (.mv (.t 8))] false) .ret))⟩
def lp107x0 : IC := (.seq (.reg [ox 23 (.bi .lss .int (.t 22) (.t 21))] false) (.seq (.cond (.t 23) .skip (.exit 0)) (.seq (.blk 1 (.seq (.reg [ox 24 (.ia 2 (.t 20) (.t 22)), ox 25 (.ld true 2 (.t 24)), ox 9 (.alc [.int .i64 0, .int .i64 0]), ⟨none, .st 2 (.t 9) (.t 25), none, false⟩] false) (.seq (.reg [⟨(some 26), .mv (.t 0), none, true⟩, ox 27 (.fa 1 (.t 9)), ox 28 (.ld false 1 (.t 27)), ox 29 (.mv (.t 0)), ox 30 (.nilc (.t 29)), ox 31 (.fa 0 (.t 30)), ox 32 (.fa 1 (.t 31)), ox 33 (.ld false 1 (.t 32)), ox 34 (.bi .mul .int (.k (.int .i64 8)) (.t 33)), ⟨(some 35), .call (.f 58) [(.t 28), (.k (.int .i64 1)), (.t 34)], none, true⟩, ⟨(some 36), .fa 0 (.t 9), none, true⟩, ox 37 (.ld false 1 (.t 36)), ox 38 (.bi .geq .int (.t 37) (.k (.int .i64 0))), ox 39 (.fa 0 (.t 9)), ox 40 (.ld false 1 (.t 39)), ox 41 (.mv (.t 0)), ox 42 (.nilc (.t 41)), ox 43 (.fa 0 (.t 42)), ox 44 (.fa 1 (.t 43)), ox 45 (.ld false 1 (.t 44)), ox 46 (.bi .mul .int (.k (.int .i64 8)) (.t 45)), ox 47 (.fa 1 (.t 9)), ox 48 (.ld false 1 (.t 47)), ox 49 (.bi .sub .int (.t 46) (.t 48)), ox 50 (.bi .leq .int (.t 40) (.t 49)), ox 51 (.bsl 1 [.bool false] 3 [(0, (.t 35)), (1, (.t 38)), (2, (.t 50))]), ox 52 (.call (.f 56) [(.t 26), (.t 51)])] true) (.seq (.seq (.reg [ox 53 (.mv (.t 0)), ox 54 (.nilc (.t 53)), ox 55 (.fa 7 (.t 54)), ox 56 (.ld false 1 (.t 55)), ox 57 (.un .not (.t 56))] false) (.cond (.t 57) (.seq (.reg [ox 6 (.mv (.k (.int .u64 0)))] false) .ret) .skip)) (.seq (.reg [ox 58 (.fa 1 (.t 9)), ox 59 (.ld false 1 (.t 58)), ⟨(some 60), .call (.f 89) [(.t 59)], none, true⟩, ⟨(some 61), .fa 0 (.t 9), none, true⟩, ox 62 (.ld false 1 (.t 61)), ox 63 (.bi .shl .int (.t 60) (.t 62)), ox 10 (.mv (.t 63))] true) (.seq (.reg [ox 64 (.mv (.t 0)), ox 65 (.mv (.t 6)), ox 66 (.mv (.t 10)), ox 67 (.bi .and .int (.t 65) (.t 66)), ox 68 (.bi .eql .int (.t 67) (.k (.int .u64 0))), ox 69 (.bsl 1 [.bool false] 1 [(0, (.t 68))]), ox 70 (.call (.f 56) [(.t 64), (.t 69)])] false) (.reg [ox 71 (.mv (.t 6)), ox 72 (.mv (.t 10)), ox 73 (.bi .or .int (.t 71) (.t 72)), ox 6 (.mv (.t 73))] false))))))) (.reg [ox 74 (.bi .add .int (.t 22) (.k (.int .i64 1))), ox 22 (.mv (.t 74))] false))))
def ir107 : IFun := ⟨3, [.t 6], (.seq (.reg [ox 4 (.box (.t 1)), ox 6 (.mv (.k (.int .u64 0)))] false) (.seq (.reg [ox 14 (.fa 3 (.t 4)), ox 15 (.ld false 1 (.t 14)), ox 16 (.mv (.t 2)), ox 17 (.ia 6 (.t 15) (.t 16)), ox 18 (.ld true 6 (.t 17)), ox 7 (.alc [.str [], .int .u8 0, .int .i64 0, .int .i64 0, .nilS, .int .i64 0]), ⟨none, .st 6 (.t 7) (.t 18), none, false⟩] false) (.seq (.seq (.reg [ox 19 (.fa 4 (.t 7)), ox 20 (.ld false 1 (.t 19)), ox 21 (.len false (.t 20)), ox 22 (.mv (.k (.int .i64 0)))] false) (.blk 0 (.loop [0, 2, 4, 6, 7, 20, 21, 22] lp107x0))) (.seq (.seq (.reg [ox 75 (.fa 1 (.t 7)), ox 76 (.ld false 1 (.t 75))] false) (.blk 2 (.seq (.reg [ox 81 (.bi .eql .int (.t 76) (.k (.int .u8 1))), ox 80 (.mv (.t 81))] false) (.cond (.t 80) (.seq (.reg [⟨(some 82), .mv (.t 0), none, true⟩, ox 83 (.fa 2 (.t 7)), ox 84 (.ld false 1 (.t 83)), ox 85 (.mv (.t 0)), ox 86 (.nilc (.t 85)), ox 87 (.fa 0 (.t 86)), ox 88 (.fa 4 (.t 87)), ox 89 (.ld false 1 (.t 88)), ox 90 (.len false (.t 89)), ox 91 (.bi .sub .int (.t 90) (.k (.int .i64 1))), ⟨(some 92), .call (.f 58) [(.t 84), (.k (.int .i64 0)), (.t 91)], none, true⟩, ⟨(some 93), .fa 3 (.t 7), none, true⟩, ox 94 (.ld false 1 (.t 93)), ox 95 (.bi .eql .int (.t 94) (.k (.int .i64 0))), ox 96 (.bsl 1 [.bool false] 2 [(0, (.t 92)), (1, (.t 95))]), ox 97 (.call (.f 56) [(.t 82), (.t 96)])] true) (.seq (.seq (.reg [ox 98 (.mv (.t 0)), ox 99 (.nilc (.t 98)), ox 100 (.fa 7 (.t 99)), ox 101 (.ld false 1 (.t 100)), ox 102 (.un .not (.t 101))] false) (.cond (.t 102) (.seq (.reg [ox 6 (.mv (.k (.int .u64 0)))] false) .ret) .skip)) (.seq (.seq (.reg [ox 103 (.fa 5 (.t 7)), ox 104 (.ld false 1 (.t 103)), ox 105 (.bi .eql .int (.t 104) (.k (.int .i64 (-1))))] false) (.cond (.t 105) (.seq (.reg [ox 106 (.ld true 6 (.t 7)), ox 107 (.call (.f 144) [(.t 106)]), ox 11 (.mv (.t 107))] false) (.seq (.reg [ox 108 (.mv (.t 0)), ox 109 (.mv (.t 11)), ox 110 (.bi .gtr .int (.t 109) (.k (.int .i64 0))), ox 111 (.mv (.t 11)), ox 112 (.bi .gtr .int (.t 111) (.k (.int .i64 6))), ox 113 (.mv (.t 112)), ⟨(some 114), .mv (.t 0), (some (113, false)), false⟩, ⟨(some 115), .nilc (.t 114), (some (113, false)), false⟩, ⟨(some 116), .fa 0 (.t 115), (some (113, false)), false⟩, ⟨(some 117), .fa 4 (.t 116), (some (113, false)), false⟩, ⟨(some 118), .ld false 1 (.t 117), (some (113, false)), false⟩, ⟨(some 119), .fa 2 (.t 7), (some (113, false)), false⟩, ⟨(some 120), .ld false 1 (.t 119), (some (113, false)), false⟩, ⟨(some 121), .ia 2 (.t 118) (.t 120), (some (113, false)), false⟩, ⟨(some 122), .fa 1 (.t 121), (some (113, false)), false⟩, ⟨(some 123), .ld false 1 (.t 122), (some (113, false)), false⟩, ⟨(some 124), .len false (.t 123), (some (113, false)), false⟩, ⟨(some 125), .mv (.t 11), (some (113, false)), false⟩, ⟨(some 126), .bi .shl .int (.k (.int .i64 1)) (.t 125), (some (113, false)), false⟩, ⟨(some 127), .bi .leq .int (.t 124) (.t 126), (some (113, false)), false⟩, ox 128 (.pick (.t 113) (.k (.bool true)) (.t 127)), ox 129 (.bsl 1 [.bool false] 2 [(0, (.t 110)), (1, (.t 128))]), ox 130 (.call (.f 56) [(.t 108), (.t 129)])] true) (.exit 2))) .skip)) (.seq (.reg [⟨(some 131), .mv (.t 0), none, true⟩, ox 132 (.fa 5 (.t 7)), ox 133 (.ld false 1 (.t 132)), ox 134 (.mv (.t 2)), ox 135 (.bi .sub .int (.t 134) (.k (.int .i64 1))), ⟨(some 136), .call (.f 58) [(.t 133), (.k (.int .i64 0)), (.t 135)], none, true⟩, ⟨(some 137), .fa 4 (.t 7), none, true⟩, ox 138 (.ld false 1 (.t 137)), ox 139 (.len false (.t 138)), ox 140 (.bi .eql .int (.t 139) (.k (.int .i64 0))), ox 141 (.bsl 1 [.bool false] 2 [(0, (.t 136)), (1, (.t 140))]), ox 142 (.call (.f 56) [(.t 131), (.t 141)])] true) (.seq (.reg [ox 143 (.mv (.t 0)), ox 144 (.nilc (.t 143)), ox 145 (.fa 7 (.t 144)), ox 146 (.ld false 1 (.t 145))] false) (.cond (.t 146) (.seq (.reg [ox 147 (.fa 3 (.t 4)), ox 148 (.ld false 1 (.t 147)), ox 149 (.fa 5 (.t 7)), ox 150 (.ld false 1 (.t 149)), ox 151 (.ia 6 (.t 148) (.t 150)), ox 152 (.ld true 6 (.t 151)), ox 12 (.alc [.str [], .int .u8 0, .int .i64 0, .int .i64 0, .nilS, .int .i64 0]), ⟨none, .st 6 (.t 12) (.t 152), none, false⟩] false) (.reg [ox 153 (.mv (.t 0)), ox 154 (.fa 1 (.t 12)), ox 155 (.ld false 1 (.t 154)), ox 156 (.bi .eql .int (.t 155) (.k (.int .u8 1))), ox 157 (.fa 2 (.t 12)), ox 158 (.ld false 1 (.t 157)), ox 159 (.fa 2 (.t 7)), ox 160 (.ld false 1 (.t 159)), ox 161 (.bi .eql .int (.t 158) (.t 160)), ox 162 (.fa 5 (.t 12)), ox 163 (.ld false 1 (.t 162)), ox 164 (.bi .eql .int (.t 163) (.k (.int .i64 (-1)))), ox 165 (.bsl 1 [.bool false] 3 [(0, (.t 156)), (1, (.t 161)), (2, (.t 164))]), ox 166 (.call (.f 56) [(.t 153), (.t 165)])] false)) .skip)))))) (.seq (.seq (.reg [ox 168 (.bi .eql .int (.t 76) (.k (.int .u8 2))), ox 167 (.mv (.t 168))] false) (.cond (.t 167) .skip (.seq (.reg [ox 169 (.bi .eql .int (.t 76) (.k (.int .u8 3))), ox 167 (.mv (.t 169))] false) (.cond (.t 167) .skip (.reg [ox 170 (.bi .eql .int (.t 76) (.k (.int .u8 4))), ox 167 (.mv (.t 170))] false))))) (.cond (.t 167) (.seq (.reg [ox 171 (.ld true 6 (.t 7)), ox 172 (.call (.f 144) [(.t 171)]), ox 13 (.mv (.t 172))] false) (.reg [⟨(some 173), .mv (.t 0), none, true⟩, ⟨(some 174), .fa 2 (.t 7), none, true⟩, ox 175 (.ld false 1 (.t 174)), ox 176 (.bi .eql .int (.t 175) (.k (.int .i64 0))), ox 177 (.fa 5 (.t 7)), ox 178 (.ld false 1 (.t 177)), ox 179 (.bi .eql .int (.t 178) (.k (.int .i64 (-1)))), ox 180 (.fa 3 (.t 7)), ox 181 (.ld false 1 (.t 180)), ⟨(some 182), .call (.f 58) [(.t 181), (.k (.int .i64 0)), (.k (.int .i64 3))], none, true⟩, ox 183 (.mv (.t 13)), ox 184 (.bi .gtr .int (.t 183) (.k (.int .i64 0))), ox 185 (.mv (.t 13)), ox 186 (.fa 3 (.t 7)), ox 187 (.ld false 1 (.t 186)), ox 188 (.bi .add .int (.t 185) (.t 187)), ox 189 (.mv (.t 0)), ox 190 (.nilc (.t 189)), ox 191 (.fa 0 (.t 190)), ox 192 (.fa 2 (.t 191)), ox 193 (.ld false 1 (.t 192)), ox 194 (.bi .leq .int (.t 188) (.t 193)), ox 195 (.bsl 1 [.bool false] 5 [(0, (.t 176)), (1, (.t 179)), (2, (.t 182)), (3, (.t 184)), (4, (.t 194))]), ox 196 (.call (.f 56) [(.t 173), (.t 195)])] true)) (.reg [ox 77 (.mv (.t 0)), ox 78 (.bsl 1 [.bool false] 1 [(0, (.k (.bool false)))]), ox 79 (.call (.f 56) [(.t 77), (.t 78)])] false))))))) (.seq (.reg [ox 197 (.mv (.t 6)), ox 6 (.mv (.t 197))] false) .ret)))))⟩
def lp108x0 : IC := (.seq (.reg [ox 24 (.bi .lss .int (.t 23) (.t 22))] false) (.seq (.cond (.t 24) .skip (.exit 0)) (.seq (.blk 1 (.seq (.reg [ox 25 (.ia 4 (.t 21) (.t 23)), ox 26 (.ld true 4 (.t 25)), ox 7 (.alc [.str [], .int .i64 0, .int .i64 0, .int .i64 0]), ⟨none, .st 4 (.t 7) (.t 26), none, false⟩] false) (.reg [ox 27 (.mv (.t 5)), ox 28 (.fa 0 (.t 7)), ox 29 (.ld false 1 (.t 28)), ox 30 (.bi .add .str (.k (.str [114, 46])) (.t 29)), ox 31 (.fa 1 (.t 7)), ox 32 (.ld false 1 (.t 31)), ⟨none, .mup true (.t 27) (.t 30) (.t 32), none, false⟩] false))) (.reg [ox 33 (.bi .add .int (.t 23) (.k (.int .i64 1))), ox 23 (.mv (.t 33))] false))))
def lp108x1 : IC := (.seq (.reg [ox 38 (.bi .lss .int (.t 37) (.t 36))] false) (.seq (.cond (.t 38) .skip (.exit 2)) (.seq (.blk 3 (.seq (.reg [ox 39 (.ia 6 (.t 35) (.t 37)), ox 40 (.ld true 6 (.t 39)), ox 9 (.alc [.str [], .int .u8 0, .int .i64 0, .int .i64 0, .nilS, .int .i64 0]), ⟨none, .st 6 (.t 9) (.t 40), none, false⟩] false) (.reg [⟨(some 41), .mv (.t 5), none, true⟩, ⟨(some 42), .fa 0 (.t 9), none, true⟩, ox 43 (.ld false 1 (.t 42)), ox 44 (.mv (.t 0)), ox 45 (.nilc (.t 44)), ox 46 (.fa 0 (.t 45)), ox 47 (.ld true 7 (.t 46)), ox 48 (.ld true 6 (.t 9)), ⟨(some 49), .call (.f 148) [(.t 47), (.t 48)], none, true⟩, ⟨none, .mup true (.t 41) (.t 43) (.t 49), none, false⟩] true))) (.reg [ox 50 (.bi .add .int (.t 37) (.k (.int .i64 1))), ox 37 (.mv (.t 50))] false))))
def ir108 : IFun := ⟨2, [.t 4], (.seq (.reg [ox 3 (.box (.t 1)), ox 4 (.mv (.k .nilM))] false) (.seq (.reg [ox 10 (.mmk), ox 11 (.mv (.t 0)), ox 12 (.nilc (.t 11)), ox 13 (.fa 0 (.t 12)), ox 14 (.fa 2 (.t 13)), ox 15 (.ld false 1 (.t 14)), ⟨none, .mup true (.t 10) (.k (.str [112, 99])) (.t 15), none, false⟩, ox 16 (.mv (.t 10)), ox 5 (.mv (.t 16))] false) (.seq (.seq (.reg [ox 17 (.mv (.t 0)), ox 18 (.nilc (.t 17)), ox 19 (.fa 0 (.t 18)), ox 20 (.fa 3 (.t 19)), ox 21 (.ld false 1 (.t 20)), ox 22 (.len false (.t 21)), ox 23 (.mv (.k (.int .i64 0)))] false) (.blk 0 (.loop [0, 3, 5, 21, 22, 23] lp108x0))) (.seq (.seq (.reg [ox 34 (.fa 3 (.t 3)), ox 35 (.ld false 1 (.t 34)), ox 36 (.len false (.t 35)), ox 37 (.mv (.k (.int .i64 0)))] false) (.blk 2 (.loop [0, 5, 35, 36, 37] lp108x1))) (.seq (.reg [ox 51 (.mv (.t 5)), ox 4 (.mv (.t 51))] false) .ret)))))⟩
def ir109 : IFun := ⟨4, [], (.seq (.reg [ox 5 (.box (.t 1)), ox 6 (.box (.t 2))] false) (.seq (.seq (.reg [ox 9 (.fa 0 (.t 6)), ox 10 (.ld false 1 (.t 9)), ox 11 (.bi .neq .int (.t 10) (.k (.int .u8 1)))] false) (.cond (.t 11) (.reg [ox 12 (.mv (.t 0)), ox 13 (.fa 1 (.t 6)), ox 14 (.ld false 1 (.t 13)), ox 15 (.bi .eql .int (.t 14) (.k (.int .i64 0))), ox 16 (.fa 2 (.t 6)), ox 17 (.ld false 1 (.t 16)), ox 18 (.bi .eql .int (.t 17) (.k (.int .i64 0))), ox 19 (.bsl 1 [.bool false] 2 [(0, (.t 15)), (1, (.t 18))]), ox 20 (.call (.f 56) [(.t 12), (.t 19)])] false) .skip)) (.seq (.reg [ox 21 (.mv (.t 0)), ox 22 (.mv (.t 3)), ox 23 (.fa 9 (.t 6)), ox 24 (.ld true 6 (.t 23)), ox 25 (.bsl 6 [.int .u8 0, .int .i64 0, .int .u64 0, .str [], .int .i64 0, .nilS] 1 [(0, (.t 24))]), ox 26 (.call (.f 149) [(.t 21), (.t 22), (.t 25)])] false) (.seq (.reg [ox 27 (.fa 0 (.t 6)), ox 28 (.ld false 1 (.t 27))] false) (.blk 0 (.seq (.reg [ox 33 (.bi .eql .int (.t 28) (.k (.int .u8 1))), ox 32 (.mv (.t 33))] false) (.cond (.t 32) (.seq (.reg [ox 34 (.mv (.t 0)), ox 35 (.fa 3 (.t 6)), ox 36 (.ld true 6 (.t 35)), ox 37 (.fa 15 (.t 6)), ox 38 (.ld true 6 (.t 37)), ox 39 (.bsl 6 [.int .u8 0, .int .i64 0, .int .u64 0, .str [], .int .i64 0, .nilS] 2 [(0, (.t 36)), (1, (.t 38))]), ox 40 (.call (.f 150) [(.t 39)]), ox 41 (.bsl 1 [.bool false] 1 [(0, (.t 40))]), ox 42 (.call (.f 56) [(.t 34), (.t 41)])] false) (.blk 1 (.seq (.reg [ox 47 (.fa 1 (.t 6)), ox 48 (.ld false 1 (.t 47)), ox 49 (.bi .eql .int (.t 48) (.k (.int .i64 (-1)))), ox 50 (.mv (.t 49)), ⟨(some 51), .fa 2 (.t 6), (some (50, true)), false⟩, ⟨(some 52), .ld false 1 (.t 51), (some (50, true)), false⟩, ⟨(some 53), .mv (.t 0), (some (50, true)), false⟩, ⟨(some 54), .nilc (.t 53), (some (50, true)), false⟩, ⟨(some 55), .fa 0 (.t 54), (some (50, true)), false⟩, ⟨(some 56), .fa 3 (.t 55), (some (50, true)), false⟩, ⟨(some 57), .ld false 1 (.t 56), (some (50, true)), false⟩, ⟨(some 58), .len false (.t 57), (some (50, true)), false⟩, ⟨(some 59), .bi .sub .int (.t 58) (.k (.int .i64 1)), (some (50, true)), false⟩, ⟨(some 60), .call (.f 58) [(.t 52), (.k (.int .i64 0)), (.t 59)], (some (50, true)), false⟩, ox 61 (.pick (.t 50) (.t 60) (.k (.bool false))), ox 46 (.mv (.t 61))] true) (.cond (.t 46) (.reg [ox 62 (.mv (.t 0)), ox 63 (.fa 9 (.t 6)), ox 64 (.fa 1 (.t 63)), ox 65 (.ld false 1 (.t 64)), ox 66 (.mv (.t 0)), ox 67 (.nilc (.t 66)), ox 68 (.fa 0 (.t 67)), ox 69 (.fa 3 (.t 68)), ox 70 (.ld false 1 (.t 69)), ox 71 (.fa 2 (.t 6)), ox 72 (.ld false 1 (.t 71)), ox 73 (.ia 4 (.t 70) (.t 72)), ox 74 (.fa 1 (.t 73)), ox 75 (.ld false 1 (.t 74)), ox 76 (.bi .eql .int (.t 65) (.t 75)), ox 77 (.bsl 1 [.bool false] 1 [(0, (.t 76))]), ox 78 (.call (.f 56) [(.t 62), (.t 77)])] true) (.seq (.reg [ox 80 (.fa 2 (.t 6)), ox 81 (.ld false 1 (.t 80)), ox 82 (.bi .eql .int (.t 81) (.k (.int .i64 0))), ox 83 (.mv (.t 82)), ⟨(some 84), .fa 1 (.t 6), (some (83, true)), false⟩, ⟨(some 85), .ld false 1 (.t 84), (some (83, true)), false⟩, ⟨(some 86), .fa 3 (.t 5), (some (83, true)), false⟩, ⟨(some 87), .ld false 1 (.t 86), (some (83, true)), false⟩, ⟨(some 88), .len false (.t 87), (some (83, true)), false⟩, ⟨(some 89), .bi .sub .int (.t 88) (.k (.int .i64 1)), (some (83, true)), false⟩, ⟨(some 90), .call (.f 58) [(.t 85), (.k (.int .i64 0)), (.t 89)], (some (83, true)), false⟩, ox 91 (.pick (.t 83) (.t 90) (.k (.bool false))), ox 79 (.mv (.t 91))] false) (.cond (.t 79) (.seq (.reg [ox 92 (.fa 3 (.t 5)), ox 93 (.ld false 1 (.t 92)), ox 94 (.fa 1 (.t 6)), ox 95 (.ld false 1 (.t 94)), ox 96 (.ia 6 (.t 93) (.t 95)), ox 97 (.ld true 6 (.t 96)), ox 8 (.alc [.str [], .int .u8 0, .int .i64 0, .int .i64 0, .nilS, .int .i64 0]), ⟨none, .st 6 (.t 8) (.t 97), none, false⟩] false) (.reg [⟨(some 98), .mv (.t 0), none, true⟩, ⟨(some 99), .fa 1 (.t 8), none, true⟩, ox 100 (.ld false 1 (.t 99)), ox 101 (.bi .eql .int (.t 100) (.k (.int .u8 1))), ox 102 (.fa 9 (.t 6)), ox 103 (.fa 1 (.t 102)), ox 104 (.ld false 1 (.t 103)), ox 105 (.mv (.t 0)), ox 106 (.nilc (.t 105)), ox 107 (.fa 0 (.t 106)), ox 108 (.ld true 7 (.t 107)), ox 109 (.ld true 6 (.t 8)), ⟨(some 110), .call (.f 148) [(.t 108), (.t 109)], none, true⟩, ox 111 (.bi .eql .int (.t 104) (.t 110)), ox 112 (.bsl 1 [.bool false] 2 [(0, (.t 101)), (1, (.t 111))]), ox 113 (.call (.f 56) [(.t 98), (.t 112)])] true)) (.reg [ox 43 (.mv (.t 0)), ox 44 (.bsl 1 [.bool false] 1 [(0, (.k (.bool false)))]), ox 45 (.call (.f 56) [(.t 43), (.t 44)])] false))))))) (.seq (.reg [ox 115 (.bi .eql .int (.t 28) (.k (.int .u8 2))), ox 114 (.mv (.t 115))] false) (.cond (.t 114) (.seq (.reg [ox 116 (.mv (.t 0)), ox 117 (.mv (.t 3)), ox 118 (.fa 3 (.t 6)), ox 119 (.ld true 6 (.t 118)), ox 120 (.bsl 6 [.int .u8 0, .int .i64 0, .int .u64 0, .str [], .int .i64 0, .nilS] 1 [(0, (.t 119))]), ox 121 (.call (.f 149) [(.t 116), (.t 117), (.t 120)])] false) (.reg [⟨(some 122), .mv (.t 0), none, true⟩, ox 123 (.fa 15 (.t 6)), ox 124 (.ld true 6 (.t 123)), ox 125 (.bsl 6 [.int .u8 0, .int .i64 0, .int .u64 0, .str [], .int .i64 0, .nilS] 1 [(0, (.t 124))]), ⟨(some 126), .call (.f 150) [(.t 125)], none, true⟩, ⟨(some 127), .fa 3 (.t 6), none, true⟩, ⟨(some 128), .fa 1 (.t 127), none, true⟩, ox 129 (.ld false 1 (.t 128)), ox 130 (.mv (.t 0)), ox 131 (.nilc (.t 130)), ox 132 (.fa 0 (.t 131)), ox 133 (.fa 2 (.t 132)), ox 134 (.ld false 1 (.t 133)), ox 135 (.bi .eql .int (.t 129) (.t 134)), ox 136 (.bsl 1 [.int .i64 0] 4 [(0, (.k (.int .i64 8))), (1, (.k (.int .i64 16))), (2, (.k (.int .i64 32))), (3, (.k (.int .i64 64)))]), ox 137 (.fa 9 (.t 6)), ox 138 (.fa 1 (.t 137)), ox 139 (.ld false 1 (.t 138)), ⟨(some 140), .call (.f 100) [(.t 136), (.t 139)], none, true⟩, ox 141 (.bsl 1 [.bool false] 3 [(0, (.t 126)), (1, (.t 135)), (2, (.t 140))]), ox 142 (.call (.f 56) [(.t 122), (.t 141)])] true)) (.seq (.reg [ox 144 (.bi .eql .int (.t 28) (.k (.int .u8 3))), ox 143 (.mv (.t 144))] false) (.cond (.t 143) (.seq (.reg [⟨(some 145), .mv (.t 0), none, true⟩, ox 146 (.fa 3 (.t 6)), ox 147 (.ld true 6 (.t 146)), ox 148 (.bsl 6 [.int .u8 0, .int .i64 0, .int .u64 0, .str [], .int .i64 0, .nilS] 1 [(0, (.t 147))]), ⟨(some 149), .call (.f 150) [(.t 148)], none, true⟩, ⟨(some 150), .fa 9 (.t 6), none, true⟩, ⟨(some 151), .fa 1 (.t 150), none, true⟩, ox 152 (.ld false 1 (.t 151)), ox 153 (.mv (.t 0)), ox 154 (.nilc (.t 153)), ox 155 (.fa 0 (.t 154)), ox 156 (.fa 2 (.t 155)), ox 157 (.ld false 1 (.t 156)), ox 158 (.bi .eql .int (.t 152) (.t 157)), ox 159 (.bsl 1 [.bool false] 2 [(0, (.t 149)), (1, (.t 158))]), ox 160 (.call (.f 56) [(.t 145), (.t 159)])] true) (.seq (.reg [ox 161 (.fa 15 (.t 6)), ox 162 (.ld true 6 (.t 161)), ox 163 (.bsl 6 [.int .u8 0, .int .i64 0, .int .u64 0, .str [], .int .i64 0, .nilS] 1 [(0, (.t 162))]), ox 164 (.call (.f 150) [(.t 163)]), ox 165 (.un .not (.t 164))] false) (.cond (.t 165) (.seq (.reg [ox 166 (.mv (.t 0)), ox 167 (.mv (.t 3)), ox 168 (.fa 15 (.t 6)), ox 169 (.ld true 6 (.t 168)), ox 170 (.bsl 6 [.int .u8 0, .int .i64 0, .int .u64 0, .str [], .int .i64 0, .nilS] 1 [(0, (.t 169))]), ox 171 (.call (.f 149) [(.t 166), (.t 167), (.t 170)])] false) (.reg [ox 172 (.mv (.t 0)), ox 173 (.fa 15 (.t 6)), ox 174 (.fa 1 (.t 173)), ox 175 (.ld false 1 (.t 174)), ox 176 (.bi .eql .int (.t 175) (.k (.int .i64 1))), ox 177 (.bsl 1 [.bool false] 1 [(0, (.t 176))]), ox 178 (.call (.f 56) [(.t 172), (.t 177)])] false)) .skip))) (.seq (.reg [ox 180 (.bi .eql .int (.t 28) (.k (.int .u8 4))), ox 179 (.mv (.t 180))] false) (.cond (.t 179) (.reg [ox 181 (.mv (.t 0)), ox 182 (.fa 3 (.t 6)), ox 183 (.ld true 6 (.t 182)), ox 184 (.fa 15 (.t 6)), ox 185 (.ld true 6 (.t 184)), ox 186 (.bsl 6 [.int .u8 0, .int .i64 0, .int .u64 0, .str [], .int .i64 0, .nilS] 2 [(0, (.t 183)), (1, (.t 185))]), ox 187 (.call (.f 150) [(.t 186)]), ox 188 (.bsl 1 [.bool false] 1 [(0, (.t 187))]), ox 189 (.call (.f 56) [(.t 181), (.t 188)])] false) (.reg [ox 29 (.mv (.t 0)), ox 30 (.bsl 1 [.bool false] 1 [(0, (.k (.bool false)))]), ox 31 (.call (.f 56) [(.t 29), (.t 30)])] false))))))))))))))⟩
def lp110x0 : IC := (.seq (.seq (.reg [ox 32 (.mv (.t 8)), ox 33 (.mv (.t 2)), ox 34 (.bi .lss .int (.t 32) (.t 33))] false) (.cond (.t 34) .skip (.exit 0))) (.seq (.blk 1 (.seq (.reg [ox 37 (.fa 3 (.t 4)), ox 38 (.ld false 1 (.t 37)), ox 39 (.mv (.t 8)), ox 40 (.ia 6 (.t 38) (.t 39)), ox 41 (.fa 0 (.t 40)), ox 42 (.ld false 1 (.t 41)), ox 43 (.fa 0 (.t 7)), ox 44 (.ld false 1 (.t 43)), ox 45 (.bi .eql .str (.t 42) (.t 44))] true) (.cond (.t 45) (.seq (.reg [ox 6 (.mv (.k (.bool false)))] false) .ret) .skip))) (.reg [ox 35 (.mv (.t 8)), ox 36 (.bi .add .int (.t 35) (.k (.int .i64 1))), ox 8 (.mv (.t 36))] false)))
def ir110 : IFun := ⟨3, [.t 6], (.seq (.reg [ox 3 (.box (.t 0)), ox 4 (.box (.t 1)), ox 6 (.mv (.k (.bool false)))] false) (.seq (.reg [ox 11 (.fa 3 (.t 4)), ox 12 (.ld false 1 (.t 11)), ox 13 (.mv (.t 2)), ox 14 (.ia 6 (.t 12) (.t 13)), ox 15 (.ld true 6 (.t 14)), ox 7 (.alc [.str [], .int .u8 0, .int .i64 0, .int .i64 0, .nilS, .int .i64 0]), ⟨none, .st 6 (.t 7) (.t 15), none, false⟩] false) (.seq (.seq (.reg [ox 16 (.fa 0 (.t 7)), ox 17 (.ld false 1 (.t 16)), ox 18 (.call (.f 65) [(.t 17)]), ox 19 (.un .not (.t 18)), ox 20 (.mv (.t 19)), ⟨(some 21), .fa 0 (.t 7), (some (20, false)), false⟩, ⟨(some 22), .ld false 1 (.t 21), (some (20, false)), false⟩, ⟨(some 23), .bi .eql .str (.t 22) (.k (.str [112, 99])), (some (20, false)), false⟩, ox 24 (.pick (.t 20) (.k (.bool true)) (.t 23)), ox 25 (.mv (.t 24)), ⟨(some 26), .ld true 6 (.t 7), (some (25, false)), false⟩, ⟨(some 27), .fa 1 (.t 3), (some (25, false)), false⟩, ⟨(some 28), .ld false 1 (.t 27), (some (25, false)), false⟩, ⟨(some 29), .call (.f 151) [(.t 26), (.t 28)], (some (25, false)), false⟩, ⟨(some 30), .un .not (.t 29), (some (25, false)), false⟩, ox 31 (.pick (.t 25) (.k (.bool true)) (.t 30))] false) (.cond (.t 31) (.seq (.reg [ox 6 (.mv (.k (.bool false)))] false) .ret) .skip)) (.seq (.seq (.reg [ox 8 (.mv (.k (.int .i64 0)))] false) (.blk 0 (.loop [2, 3, 4, 7, 8] lp110x0))) (.seq (.seq (.reg [ox 46 (.fa 1 (.t 7)), ox 47 (.ld false 1 (.t 46))] false) (.blk 2 (.seq (.reg [ox 49 (.bi .eql .int (.t 47) (.k (.int .u8 1))), ox 48 (.mv (.t 49))] false) (.cond (.t 48) (.seq (.seq (.reg [ox 50 (.fa 2 (.t 7)), ox 51 (.ld false 1 (.t 50)), ox 52 (.fa 4 (.t 3)), ox 53 (.ld false 1 (.t 52)), ox 54 (.len false (.t 53)), ox 55 (.bi .sub .int (.t 54) (.k (.int .i64 1))), ox 56 (.call (.f 66) [(.t 51), (.k (.int .i64 0)), (.t 55)]), ox 57 (.un .not (.t 56)), ox 58 (.mv (.t 57)), ⟨(some 59), .fa 3 (.t 7), (some (58, false)), false⟩, ⟨(some 60), .ld false 1 (.t 59), (some (58, false)), false⟩, ⟨(some 61), .bi .neq .int (.t 60) (.k (.int .i64 0)), (some (58, false)), false⟩, ox 62 (.pick (.t 58) (.k (.bool true)) (.t 61))] false) (.cond (.t 62) (.seq (.reg [ox 6 (.mv (.k (.bool false)))] false) .ret) .skip)) (.seq (.seq (.reg [ox 63 (.fa 5 (.t 7)), ox 64 (.ld false 1 (.t 63)), ox 65 (.bi .eql .int (.t 64) (.k (.int .i64 (-1))))] false) (.cond (.t 65) (.seq (.reg [ox 66 (.ld true 6 (.t 7)), ox 67 (.call (.f 152) [(.t 66)]), ox 9 (.mv (.t 67))] false) (.seq (.reg [ox 68 (.mv (.t 9)), ox 69 (.bi .gtr .int (.t 68) (.k (.int .i64 0))), ox 70 (.mv (.t 69)), ⟨(some 71), .mv (.t 9), (some (70, true)), false⟩, ⟨(some 72), .bi .gtr .int (.t 71) (.k (.int .i64 6)), (some (70, true)), false⟩, ⟨(some 73), .mv (.t 72), (some (70, true)), false⟩, ⟨(some 74), .fa 4 (.t 3), (some (73, false)), true⟩, ⟨(some 75), .ld false 1 (.t 74), (some (73, false)), false⟩, ⟨(some 76), .fa 2 (.t 7), (some (73, false)), false⟩, ⟨(some 77), .ld false 1 (.t 76), (some (73, false)), false⟩, ⟨(some 78), .ia 2 (.t 75) (.t 77), (some (73, false)), false⟩, ⟨(some 79), .fa 1 (.t 78), (some (73, false)), false⟩, ⟨(some 80), .ld false 1 (.t 79), (some (73, false)), false⟩, ⟨(some 81), .len false (.t 80), (some (73, false)), false⟩, ⟨(some 82), .mv (.t 9), (some (73, false)), false⟩, ⟨(some 83), .call (.f 153) [(.t 82)], (some (73, false)), true⟩, ⟨(some 84), .bi .leq .int (.t 81) (.t 83), (some (73, false)), false⟩, ⟨(some 85), .pick (.t 73) (.k (.bool true)) (.t 84), (some (70, true)), false⟩, ox 86 (.pick (.t 70) (.t 85) (.k (.bool false))), ox 6 (.mv (.t 86))] true) .ret)) .skip)) (.seq (.seq (.reg [ox 87 (.fa 5 (.t 7)), ox 88 (.ld false 1 (.t 87)), ox 89 (.mv (.t 2)), ox 90 (.bi .sub .int (.t 89) (.k (.int .i64 1))), ox 91 (.call (.f 66) [(.t 88), (.k (.int .i64 0)), (.t 90)]), ox 92 (.un .not (.t 91)), ox 93 (.mv (.t 92)), ⟨(some 94), .fa 4 (.t 7), (some (93, false)), false⟩, ⟨(some 95), .ld false 1 (.t 94), (some (93, false)), false⟩, ⟨(some 96), .len false (.t 95), (some (93, false)), false⟩, ⟨(some 97), .bi .gtr .int (.t 96) (.k (.int .i64 0)), (some (93, false)), false⟩, ox 98 (.pick (.t 93) (.k (.bool true)) (.t 97))] false) (.cond (.t 98) (.seq (.reg [ox 6 (.mv (.k (.bool false)))] false) .ret) .skip)) (.seq (.reg [ox 99 (.fa 3 (.t 4)), ox 100 (.ld false 1 (.t 99)), ox 101 (.fa 5 (.t 7)), ox 102 (.ld false 1 (.t 101)), ox 103 (.ia 6 (.t 100) (.t 102)), ox 104 (.ld true 6 (.t 103)), ox 10 (.alc [.str [], .int .u8 0, .int .i64 0, .int .i64 0, .nilS, .int .i64 0]), ⟨none, .st 6 (.t 10) (.t 104), none, false⟩] false) (.seq (.reg [ox 105 (.fa 1 (.t 10)), ox 106 (.ld false 1 (.t 105)), ox 107 (.bi .eql .int (.t 106) (.k (.int .u8 1))), ox 108 (.mv (.t 107)), ⟨(some 109), .fa 2 (.t 10), (some (108, true)), false⟩, ⟨(some 110), .ld false 1 (.t 109), (some (108, true)), false⟩, ⟨(some 111), .fa 2 (.t 7), (some (108, true)), false⟩, ⟨(some 112), .ld false 1 (.t 111), (some (108, true)), false⟩, ⟨(some 113), .bi .eql .int (.t 110) (.t 112), (some (108, true)), false⟩, ox 114 (.pick (.t 108) (.t 113) (.k (.bool false))), ox 115 (.mv (.t 114)), ⟨(some 116), .fa 5 (.t 10), (some (115, true)), false⟩, ⟨(some 117), .ld false 1 (.t 116), (some (115, true)), false⟩, ⟨(some 118), .bi .eql .int (.t 117) (.k (.int .i64 (-1))), (some (115, true)), false⟩, ox 119 (.pick (.t 115) (.t 118) (.k (.bool false))), ox 6 (.mv (.t 119))] false) .ret))))) (.seq (.seq (.reg [ox 121 (.bi .eql .int (.t 47) (.k (.int .u8 2))), ox 120 (.mv (.t 121))] false) (.cond (.t 120) .skip (.seq (.reg [ox 122 (.bi .eql .int (.t 47) (.k (.int .u8 3))), ox 120 (.mv (.t 122))] false) (.cond (.t 120) .skip (.reg [ox 123 (.bi .eql .int (.t 47) (.k (.int .u8 4))), ox 120 (.mv (.t 123))] false))))) (.cond (.t 120) (.seq (.reg [ox 124 (.fa 2 (.t 7)), ox 125 (.ld false 1 (.t 124)), ox 126 (.bi .eql .int (.t 125) (.k (.int .i64 0))), ox 127 (.mv (.t 126)), ⟨(some 128), .fa 5 (.t 7), (some (127, true)), false⟩, ⟨(some 129), .ld false 1 (.t 128), (some (127, true)), false⟩, ⟨(some 130), .bi .eql .int (.t 129) (.k (.int .i64 (-1))), (some (127, true)), false⟩, ox 131 (.pick (.t 127) (.t 130) (.k (.bool false))), ox 132 (.mv (.t 131)), ⟨(some 133), .fa 3 (.t 7), (some (132, true)), false⟩, ⟨(some 134), .ld false 1 (.t 133), (some (132, true)), false⟩, ⟨(some 135), .call (.f 66) [(.t 134), (.k (.int .i64 0)), (.k (.int .i64 3))], (some (132, true)), false⟩, ox 136 (.pick (.t 132) (.t 135) (.k (.bool false))), ox 137 (.mv (.t 136)), ⟨(some 138), .ld true 6 (.t 7), (some (137, true)), false⟩, ⟨(some 139), .call (.f 152) [(.t 138)], (some (137, true)), false⟩, ⟨(some 140), .bi .gtr .int (.t 139) (.k (.int .i64 0)), (some (137, true)), false⟩, ox 141 (.pick (.t 137) (.t 140) (.k (.bool false))), ox 142 (.mv (.t 141)), ⟨(some 143), .ld true 6 (.t 7), (some (142, true)), false⟩, ⟨(some 144), .call (.f 152) [(.t 143)], (some (142, true)), true⟩, ⟨(some 145), .fa 3 (.t 7), (some (142, true)), true⟩, ⟨(some 146), .ld false 1 (.t 145), (some (142, true)), false⟩, ⟨(some 147), .bi .add .int (.t 144) (.t 146), (some (142, true)), false⟩, ⟨(some 148), .fa 2 (.t 3), (some (142, true)), false⟩, ⟨(some 149), .ld false 1 (.t 148), (some (142, true)), false⟩, ⟨(some 150), .bi .leq .int (.t 147) (.t 149), (some (142, true)), false⟩, ox 151 (.pick (.t 142) (.t 150) (.k (.bool false))), ox 6 (.mv (.t 151))] true) .ret) .skip)))))) (.seq (.reg [ox 6 (.mv (.k (.bool false)))] false) .ret))))))⟩
def lp111x0 : IC := (.seq (.seq (.reg [ox 28 (.mv (.t 8)), ox 29 (.fa 3 (.t 3)), ox 30 (.ld false 1 (.t 29)), ox 31 (.mv (.t 7)), ox 32 (.ia 6 (.t 30) (.t 31)), ox 33 (.fa 4 (.t 32)), ox 34 (.ld false 1 (.t 33)), ox 35 (.len false (.t 34)), ox 36 (.bi .lss .int (.t 28) (.t 35))] false) (.cond (.t 36) .skip (.exit 4))) (.seq (.blk 5 (.seq (.reg [ox 39 (.fa 3 (.t 3)), ox 40 (.ld false 1 (.t 39)), ox 41 (.mv (.t 7)), ox 42 (.ia 6 (.t 40) (.t 41)), ox 43 (.fa 4 (.t 42)), ox 44 (.ld false 1 (.t 43)), ox 45 (.mv (.t 8)), ox 46 (.ia 2 (.t 44) (.t 45)), ox 47 (.ld true 2 (.t 46)), ox 9 (.alc [.int .i64 0, .int .i64 0]), ⟨none, .st 2 (.t 9) (.t 47), none, false⟩] false) (.seq (.reg [ox 48 (.mv (.t 5)), ox 49 (.fa 0 (.t 9)), ox 50 (.ld false 1 (.t 49)), ox 51 (.fa 0 (.t 9)), ox 52 (.ld false 1 (.t 51)), ox 53 (.fa 1 (.t 9)), ox 54 (.ld false 1 (.t 53)), ox 55 (.bi .add .int (.t 52) (.t 54)), ox 56 (.bi .sub .int (.t 55) (.k (.int .i64 1))), ox 57 (.call (.f 66) [(.t 48), (.t 50), (.t 56)])] false) (.cond (.t 57) (.reg [ox 58 (.mv (.t 6)), ox 59 (.bi .add .int (.t 58) (.k (.int .i64 1))), ox 6 (.mv (.t 59))] false) .skip)))) (.reg [ox 37 (.mv (.t 8)), ox 38 (.bi .add .int (.t 37) (.k (.int .i64 1))), ox 8 (.mv (.t 38))] false)))
def lp111x1 : IC := (.seq (.seq (.reg [ox 21 (.mv (.t 7)), ox 22 (.fa 3 (.t 3)), ox 23 (.ld false 1 (.t 22)), ox 24 (.len false (.t 23)), ox 25 (.bi .lss .int (.t 21) (.t 24))] false) (.cond (.t 25) .skip (.exit 2))) (.seq (.blk 3 (.seq (.reg [ox 8 (.mv (.k (.int .i64 0)))] false) (.blk 4 (.loop [2, 3, 5, 6, 7, 8] lp111x0)))) (.reg [ox 26 (.mv (.t 7)), ox 27 (.bi .add .int (.t 26) (.k (.int .i64 1))), ox 7 (.mv (.t 27))] false)))
def lp111x2 : IC := (.seq (.seq (.reg [ox 10 (.mv (.t 5)), ox 11 (.fa 1 (.t 2)), ox 12 (.ld false 1 (.t 11)), ox 13 (.bi .mul .int (.k (.int .i64 8)) (.t 12)), ox 14 (.bi .lss .int (.t 10) (.t 13))] false) (.cond (.t 14) .skip (.exit 0))) (.seq (.blk 1 (.seq (.reg [ox 17 (.fa 1 (.t 3)), ox 18 (.ld false 1 (.t 17)), ox 19 (.mv (.t 5)), ox 20 (.call (.f 95) [(.t 18), (.t 19)]), ox 6 (.mv (.t 20))] false) (.seq (.seq (.reg [ox 7 (.mv (.k (.int .i64 0)))] false) (.blk 2 (.loop [2, 3, 5, 6, 7] lp111x1))) (.seq (.reg [ox 60 (.mv (.t 6)), ox 61 (.bi .gtr .int (.t 60) (.k (.int .i64 1)))] false) (.cond (.t 61) (.seq (.reg [ox 4 (.mv (.k (.bool false)))] false) .ret) .skip))))) (.reg [ox 15 (.mv (.t 5)), ox 16 (.bi .add .int (.t 15) (.k (.int .i64 1))), ox 5 (.mv (.t 16))] false)))
def ir111 : IFun := ⟨2, [.t 4], (.seq (.reg [ox 2 (.box (.t 0)), ox 3 (.box (.t 1)), ox 4 (.mv (.k (.bool false)))] false) (.seq (.seq (.reg [ox 5 (.mv (.k (.int .i64 0)))] false) (.blk 0 (.loop [2, 3, 5] lp111x2))) (.seq (.reg [ox 4 (.mv (.k (.bool true)))] false) .ret)))⟩
def ir112 : IFun := ⟨3, [.t 6], (.seq (.reg [ox 3 (.box (.t 0)), ox 4 (.box (.t 1)), ox 5 (.box (.t 2)), ox 6 (.mv (.k (.bool false)))] false) (.seq (.seq (.reg [ox 8 (.fa 0 (.t 5)), ox 9 (.ld false 1 (.t 8))] false) (.blk 0 (.seq (.reg [ox 11 (.bi .eql .int (.t 9) (.k (.int .u8 1))), ox 10 (.mv (.t 11))] false) (.cond (.t 10) (.seq (.seq (.reg [ox 12 (.fa 3 (.t 5)), ox 13 (.ld true 6 (.t 12)), ox 14 (.call (.f 154) [(.t 13)]), ox 15 (.un .not (.t 14)), ox 16 (.mv (.t 15)), ⟨(some 17), .fa 15 (.t 5), (some (16, false)), false⟩, ⟨(some 18), .ld true 6 (.t 17), (some (16, false)), false⟩, ⟨(some 19), .call (.f 154) [(.t 18)], (some (16, false)), false⟩, ⟨(some 20), .un .not (.t 19), (some (16, false)), false⟩, ox 21 (.pick (.t 16) (.k (.bool true)) (.t 20)), ox 22 (.mv (.t 21)), ⟨(some 23), .ld true 7 (.t 3), (some (22, false)), false⟩, ⟨(some 24), .ld true 9 (.t 4), (some (22, false)), false⟩, ⟨(some 25), .fa 9 (.t 5), (some (22, false)), false⟩, ⟨(some 26), .ld true 6 (.t 25), (some (22, false)), false⟩, ⟨(some 27), .call (.f 155) [(.t 23), (.t 24), (.t 26)], (some (22, false)), false⟩, ⟨(some 28), .un .not (.t 27), (some (22, false)), false⟩, ox 29 (.pick (.t 22) (.k (.bool true)) (.t 28))] false) (.cond (.t 29) (.seq (.reg [ox 6 (.mv (.k (.bool false)))] false) .ret) .skip)) (.seq (.seq (.reg [ox 30 (.fa 1 (.t 5)), ox 31 (.ld false 1 (.t 30)), ox 32 (.bi .eql .int (.t 31) (.k (.int .i64 (-1))))] false) (.cond (.t 32) (.seq (.reg [ox 33 (.fa 2 (.t 5)), ox 34 (.ld false 1 (.t 33)), ox 35 (.fa 3 (.t 3)), ox 36 (.ld false 1 (.t 35)), ox 37 (.len false (.t 36)), ox 38 (.bi .sub .int (.t 37) (.k (.int .i64 1))), ox 39 (.call (.f 66) [(.t 34), (.k (.int .i64 0)), (.t 38)]), ox 40 (.mv (.t 39)), ⟨(some 41), .fa 9 (.t 5), (some (40, true)), false⟩, ⟨(some 42), .fa 1 (.t 41), (some (40, true)), false⟩, ⟨(some 43), .ld false 1 (.t 42), (some (40, true)), false⟩, ⟨(some 44), .fa 3 (.t 3), (some (40, true)), false⟩, ⟨(some 45), .ld false 1 (.t 44), (some (40, true)), false⟩, ⟨(some 46), .fa 2 (.t 5), (some (40, true)), false⟩, ⟨(some 47), .ld false 1 (.t 46), (some (40, true)), false⟩, ⟨(some 48), .ia 4 (.t 45) (.t 47), (some (40, true)), false⟩, ⟨(some 49), .fa 1 (.t 48), (some (40, true)), false⟩, ⟨(some 50), .ld false 1 (.t 49), (some (40, true)), false⟩, ⟨(some 51), .bi .eql .int (.t 43) (.t 50), (some (40, true)), false⟩, ox 52 (.pick (.t 40) (.t 51) (.k (.bool false))), ox 6 (.mv (.t 52))] true) .ret) .skip)) (.seq (.reg [ox 53 (.fa 2 (.t 5)), ox 54 (.ld false 1 (.t 53)), ox 55 (.bi .eql .int (.t 54) (.k (.int .i64 0))), ox 56 (.mv (.t 55)), ⟨(some 57), .fa 1 (.t 5), (some (56, true)), false⟩, ⟨(some 58), .ld false 1 (.t 57), (some (56, true)), false⟩, ⟨(some 59), .fa 3 (.t 4), (some (56, true)), false⟩, ⟨(some 60), .ld false 1 (.t 59), (some (56, true)), false⟩, ⟨(some 61), .len false (.t 60), (some (56, true)), false⟩, ⟨(some 62), .bi .sub .int (.t 61) (.k (.int .i64 1)), (some (56, true)), false⟩, ⟨(some 63), .call (.f 66) [(.t 58), (.k (.int .i64 0)), (.t 62)], (some (56, true)), false⟩, ox 64 (.pick (.t 56) (.t 63) (.k (.bool false))), ox 65 (.mv (.t 64)), ⟨(some 66), .fa 3 (.t 4), (some (65, true)), false⟩, ⟨(some 67), .ld false 1 (.t 66), (some (65, true)), false⟩, ⟨(some 68), .fa 1 (.t 5), (some (65, true)), false⟩, ⟨(some 69), .ld false 1 (.t 68), (some (65, true)), false⟩, ⟨(some 70), .ia 6 (.t 67) (.t 69), (some (65, true)), false⟩, ⟨(some 71), .fa 1 (.t 70), (some (65, true)), false⟩, ⟨(some 72), .ld false 1 (.t 71), (some (65, true)), false⟩, ⟨(some 73), .bi .eql .int (.t 72) (.k (.int .u8 1)), (some (65, true)), false⟩, ox 74 (.pick (.t 65) (.t 73) (.k (.bool false))), ox 75 (.mv (.t 74)), ⟨(some 76), .fa 9 (.t 5), (some (75, true)), true⟩, ⟨(some 77), .fa 1 (.t 76), (some (75, true)), true⟩, ⟨(some 78), .ld false 1 (.t 77), (some (75, true)), false⟩, ⟨(some 79), .ld true 7 (.t 3), (some (75, true)), false⟩, ⟨(some 80), .fa 3 (.t 4), (some (75, true)), false⟩, ⟨(some 81), .ld false 1 (.t 80), (some (75, true)), false⟩, ⟨(some 82), .fa 1 (.t 5), (some (75, true)), false⟩, ⟨(some 83), .ld false 1 (.t 82), (some (75, true)), false⟩, ⟨(some 84), .ia 6 (.t 81) (.t 83), (some (75, true)), false⟩, ⟨(some 85), .ld true 6 (.t 84), (some (75, true)), false⟩, ⟨(some 86), .call (.f 156) [(.t 79), (.t 85)], (some (75, true)), true⟩, ⟨(some 87), .bi .eql .int (.t 78) (.t 86), (some (75, true)), false⟩, ox 88 (.pick (.t 75) (.t 87) (.k (.bool false))), ox 6 (.mv (.t 88))] true) .ret))) (.seq (.reg [ox 90 (.bi .eql .int (.t 9) (.k (.int .u8 2))), ox 89 (.mv (.t 90))] false) (.cond (.t 89) (.seq (.reg [ox 91 (.fa 9 (.t 5)), ox 92 (.fa 1 (.t 91)), ox 93 (.ld false 1 (.t 92)), ox 7 (.mv (.t 93))] false) (.seq (.reg [ox 94 (.fa 1 (.t 5)), ox 95 (.ld false 1 (.t 94)), ox 96 (.bi .eql .int (.t 95) (.k (.int .i64 0))), ox 97 (.mv (.t 96)), ⟨(some 98), .fa 2 (.t 5), (some (97, true)), false⟩, ⟨(some 99), .ld false 1 (.t 98), (some (97, true)), false⟩, ⟨(some 100), .bi .eql .int (.t 99) (.k (.int .i64 0)), (some (97, true)), false⟩, ox 101 (.pick (.t 97) (.t 100) (.k (.bool false))), ox 102 (.mv (.t 101)), ⟨(some 103), .fa 15 (.t 5), (some (102, true)), false⟩, ⟨(some 104), .ld true 6 (.t 103), (some (102, true)), false⟩, ⟨(some 105), .call (.f 154) [(.t 104)], (some (102, true)), false⟩, ox 106 (.pick (.t 102) (.t 105) (.k (.bool false))), ox 107 (.mv (.t 106)), ⟨(some 108), .ld true 7 (.t 3), (some (107, true)), false⟩, ⟨(some 109), .ld true 9 (.t 4), (some (107, true)), false⟩, ⟨(some 110), .fa 3 (.t 5), (some (107, true)), false⟩, ⟨(some 111), .ld true 6 (.t 110), (some (107, true)), false⟩, ⟨(some 112), .call (.f 155) [(.t 108), (.t 109), (.t 111)], (some (107, true)), false⟩, ox 113 (.pick (.t 107) (.t 112) (.k (.bool false))), ox 114 (.mv (.t 113)), ⟨(some 115), .fa 3 (.t 5), (some (114, true)), false⟩, ⟨(some 116), .fa 1 (.t 115), (some (114, true)), false⟩, ⟨(some 117), .ld false 1 (.t 116), (some (114, true)), false⟩, ⟨(some 118), .fa 2 (.t 3), (some (114, true)), false⟩, ⟨(some 119), .ld false 1 (.t 118), (some (114, true)), false⟩, ⟨(some 120), .bi .eql .int (.t 117) (.t 119), (some (114, true)), false⟩, ox 121 (.pick (.t 114) (.t 120) (.k (.bool false))), ox 122 (.mv (.t 121)), ⟨(some 123), .ld true 7 (.t 3), (some (122, true)), false⟩, ⟨(some 124), .ld true 9 (.t 4), (some (122, true)), false⟩, ⟨(some 125), .fa 9 (.t 5), (some (122, true)), false⟩, ⟨(some 126), .ld true 6 (.t 125), (some (122, true)), false⟩, ⟨(some 127), .call (.f 155) [(.t 123), (.t 124), (.t 126)], (some (122, true)), false⟩, ox 128 (.pick (.t 122) (.t 127) (.k (.bool false))), ox 129 (.mv (.t 128)), ⟨(some 130), .mv (.t 7), (some (129, true)), false⟩, ⟨(some 131), .bi .eql .int (.t 130) (.k (.int .i64 8)), (some (129, true)), false⟩, ⟨(some 132), .mv (.t 131), (some (129, true)), false⟩, ⟨(some 133), .mv (.t 7), (some (132, false)), false⟩, ⟨(some 134), .bi .eql .int (.t 133) (.k (.int .i64 16)), (some (132, false)), false⟩, ⟨(some 135), .pick (.t 132) (.k (.bool true)) (.t 134), (some (129, true)), false⟩, ⟨(some 136), .mv (.t 135), (some (129, true)), false⟩, ⟨(some 137), .mv (.t 7), (some (136, false)), false⟩, ⟨(some 138), .bi .eql .int (.t 137) (.k (.int .i64 32)), (some (136, false)), false⟩, ⟨(some 139), .pick (.t 136) (.k (.bool true)) (.t 138), (some (129, true)), false⟩, ⟨(some 140), .mv (.t 139), (some (129, true)), false⟩, ⟨(some 141), .mv (.t 7), (some (140, false)), false⟩, ⟨(some 142), .bi .eql .int (.t 141) (.k (.int .i64 64)), (some (140, false)), false⟩, ⟨(some 143), .pick (.t 140) (.k (.bool true)) (.t 142), (some (129, true)), false⟩, ox 144 (.pick (.t 129) (.t 143) (.k (.bool false))), ox 6 (.mv (.t 144))] false) .ret)) (.seq (.reg [ox 146 (.bi .eql .int (.t 9) (.k (.int .u8 3))), ox 145 (.mv (.t 146))] false) (.cond (.t 145) (.seq (.reg [ox 147 (.fa 1 (.t 5)), ox 148 (.ld false 1 (.t 147)), ox 149 (.bi .eql .int (.t 148) (.k (.int .i64 0))), ox 150 (.mv (.t 149)), ⟨(some 151), .fa 2 (.t 5), (some (150, true)), false⟩, ⟨(some 152), .ld false 1 (.t 151), (some (150, true)), false⟩, ⟨(some 153), .bi .eql .int (.t 152) (.k (.int .i64 0)), (some (150, true)), false⟩, ox 154 (.pick (.t 150) (.t 153) (.k (.bool false))), ox 155 (.mv (.t 154)), ⟨(some 156), .fa 3 (.t 5), (some (155, true)), false⟩, ⟨(some 157), .ld true 6 (.t 156), (some (155, true)), false⟩, ⟨(some 158), .call (.f 154) [(.t 157)], (some (155, true)), false⟩, ox 159 (.pick (.t 155) (.t 158) (.k (.bool false))), ox 160 (.mv (.t 159)), ⟨(some 161), .ld true 7 (.t 3), (some (160, true)), false⟩, ⟨(some 162), .ld true 9 (.t 4), (some (160, true)), false⟩, ⟨(some 163), .fa 9 (.t 5), (some (160, true)), false⟩, ⟨(some 164), .ld true 6 (.t 163), (some (160, true)), false⟩, ⟨(some 165), .call (.f 155) [(.t 161), (.t 162), (.t 164)], (some (160, true)), false⟩, ox 166 (.pick (.t 160) (.t 165) (.k (.bool false))), ox 167 (.mv (.t 166)), ⟨(some 168), .fa 9 (.t 5), (some (167, true)), false⟩, ⟨(some 169), .fa 1 (.t 168), (some (167, true)), false⟩, ⟨(some 170), .ld false 1 (.t 169), (some (167, true)), false⟩, ⟨(some 171), .fa 2 (.t 3), (some (167, true)), false⟩, ⟨(some 172), .ld false 1 (.t 171), (some (167, true)), false⟩, ⟨(some 173), .bi .eql .int (.t 170) (.t 172), (some (167, true)), false⟩, ox 174 (.pick (.t 167) (.t 173) (.k (.bool false))), ox 175 (.mv (.t 174)), ⟨(some 176), .fa 15 (.t 5), (some (175, true)), false⟩, ⟨(some 177), .ld true 6 (.t 176), (some (175, true)), false⟩, ⟨(some 178), .call (.f 154) [(.t 177)], (some (175, true)), false⟩, ⟨(some 179), .mv (.t 178), (some (175, true)), false⟩, ⟨(some 180), .ld true 7 (.t 3), (some (179, false)), false⟩, ⟨(some 181), .ld true 9 (.t 4), (some (179, false)), false⟩, ⟨(some 182), .fa 15 (.t 5), (some (179, false)), false⟩, ⟨(some 183), .ld true 6 (.t 182), (some (179, false)), false⟩, ⟨(some 184), .call (.f 155) [(.t 180), (.t 181), (.t 183)], (some (179, false)), false⟩, ⟨(some 185), .mv (.t 184), (some (179, false)), false⟩, ⟨(some 186), .fa 15 (.t 5), (some (185, true)), false⟩, ⟨(some 187), .fa 1 (.t 186), (some (185, true)), false⟩, ⟨(some 188), .ld false 1 (.t 187), (some (185, true)), false⟩, ⟨(some 189), .bi .eql .int (.t 188) (.k (.int .i64 1)), (some (185, true)), false⟩, ⟨(some 190), .pick (.t 185) (.t 189) (.k (.bool false)), (some (179, false)), false⟩, ⟨(some 191), .pick (.t 179) (.k (.bool true)) (.t 190), (some (175, true)), false⟩, ox 192 (.pick (.t 175) (.t 191) (.k (.bool false))), ox 6 (.mv (.t 192))] false) .ret) (.seq (.reg [ox 194 (.bi .eql .int (.t 9) (.k (.int .u8 4))), ox 193 (.mv (.t 194))] false) (.cond (.t 193) (.seq (.reg [ox 195 (.fa 1 (.t 5)), ox 196 (.ld false 1 (.t 195)), ox 197 (.bi .eql .int (.t 196) (.k (.int .i64 0))), ox 198 (.mv (.t 197)), ⟨(some 199), .fa 2 (.t 5), (some (198, true)), false⟩, ⟨(some 200), .ld false 1 (.t 199), (some (198, true)), false⟩, ⟨(some 201), .bi .eql .int (.t 200) (.k (.int .i64 0)), (some (198, true)), false⟩, ox 202 (.pick (.t 198) (.t 201) (.k (.bool false))), ox 203 (.mv (.t 202)), ⟨(some 204), .fa 3 (.t 5), (some (203, true)), false⟩, ⟨(some 205), .ld true 6 (.t 204), (some (203, true)), false⟩, ⟨(some 206), .call (.f 154) [(.t 205)], (some (203, true)), false⟩, ox 207 (.pick (.t 203) (.t 206) (.k (.bool false))), ox 208 (.mv (.t 207)), ⟨(some 209), .fa 15 (.t 5), (some (208, true)), false⟩, ⟨(some 210), .ld true 6 (.t 209), (some (208, true)), false⟩, ⟨(some 211), .call (.f 154) [(.t 210)], (some (208, true)), false⟩, ox 212 (.pick (.t 208) (.t 211) (.k (.bool false))), ox 213 (.mv (.t 212)), ⟨(some 214), .ld true 7 (.t 3), (some (213, true)), false⟩, ⟨(some 215), .ld true 9 (.t 4), (some (213, true)), false⟩, ⟨(some 216), .fa 9 (.t 5), (some (213, true)), false⟩, ⟨(some 217), .ld true 6 (.t 216), (some (213, true)), false⟩, ⟨(some 218), .call (.f 155) [(.t 214), (.t 215), (.t 217)], (some (213, true)), false⟩, ox 219 (.pick (.t 213) (.t 218) (.k (.bool false))), ox 6 (.mv (.t 219))] false) .ret) .skip)))))))))) (.seq (.reg [ox 6 (.mv (.k (.bool false)))] false) .ret)))⟩
end Go.Proofs.Dv
set_option maxRecDepth 100000
namespace Go.Proofs.Dv
def ir123 : IFun := ⟨2, [.t 4], (.seq (.reg [ox 4 (.mv (.k (.bool false)))] false) (.seq (.reg [ox 5 (.mv (.t 0)), ox 6 (.call (.f 158) [(.t 5)]), ox 7 (.mv (.t 6)), ⟨(some 8), .mv (.t 1), (some (7, true)), false⟩, ⟨(some 9), .call (.f 158) [(.t 8)], (some (7, true)), false⟩, ⟨(some 10), .un .not (.t 9), (some (7, true)), false⟩, ox 11 (.pick (.t 7) (.t 10) (.k (.bool false))), ox 12 (.mv (.t 11)), ⟨(some 13), .mv (.t 0), (some (12, false)), false⟩, ⟨(some 14), .mv (.t 1), (some (12, false)), false⟩, ⟨(some 15), .bi .lss .int (.t 13) (.t 14), (some (12, false)), false⟩, ox 16 (.pick (.t 12) (.k (.bool true)) (.t 15)), ox 4 (.mv (.t 16))] false) .ret))⟩
def ir124 : IFun := ⟨1, [.t 2], (.seq (.reg [ox 2 (.mv (.k (.bool false)))] false) (.seq (.reg [ox 3 (.mv (.t 0)), ox 4 (.mv (.t 0)), ox 5 (.bi .neq .int (.t 3) (.t 4)), ox 2 (.mv (.t 5))] false) .ret))⟩
def ir125 : IFun := ⟨1, [.t 2], (.seq (.reg [ox 2 (.mv (.k (.bool false)))] false) (.seq (.reg [ox 3 (.mv (.t 0)), ox 4 (.bi .geq .int (.t 3) (.k (.int .i64 1))), ox 5 (.mv (.t 4)), ⟨(some 6), .mv (.t 0), (some (5, true)), false⟩, ⟨(some 7), .bi .leq .int (.t 6) (.k (.int .i64 64)), (some (5, true)), false⟩, ox 8 (.pick (.t 5) (.t 7) (.k (.bool false))), ox 2 (.mv (.t 8))] false) .ret))⟩
def lp144x0 : IC := (.seq (.reg [ox 9 (.bi .lss .int (.t 8) (.t 7))] false) (.seq (.cond (.t 9) .skip (.exit 0)) (.seq (.blk 1 (.seq (.reg [ox 10 (.ia 2 (.t 6) (.t 8)), ox 11 (.ld true 2 (.t 10)), ox 4 (.alc [.int .i64 0, .int .i64 0]), ⟨none, .st 2 (.t 4) (.t 11), none, false⟩] false) (.reg [ox 12 (.mv (.t 2)), ox 13 (.fa 1 (.t 4)), ox 14 (.ld false 1 (.t 13)), ox 15 (.bi .add .int (.t 12) (.t 14)), ox 2 (.mv (.t 15))] false))) (.reg [ox 16 (.bi .add .int (.t 8) (.k (.int .i64 1))), ox 8 (.mv (.t 16))] false))))
def ir144 : IFun := ⟨1, [.t 2], (.seq (.reg [ox 1 (.box (.t 0)), ox 2 (.mv (.k (.int .i64 0)))] false) (.seq (.seq (.reg [ox 5 (.fa 4 (.t 1)), ox 6 (.ld false 1 (.t 5)), ox 7 (.len false (.t 6)), ox 8 (.mv (.k (.int .i64 0)))] false) (.blk 0 (.loop [2, 6, 7, 8] lp144x0))) (.seq (.reg [ox 17 (.mv (.t 2)), ox 2 (.mv (.t 17))] false) .ret)))⟩
def lp145x0 : IC := (.seq (.reg [ox 9 (.bi .lss .int (.t 8) (.t 7))] false) (.seq (.cond (.t 9) .skip (.exit 0)) (.seq (.blk 1 (.seq (.reg [ox 10 (.mv (.t 8)), ox 5 (.mv (.t 10))] false) (.seq (.reg [ox 11 (.mv (.t 1)), ox 12 (.mv (.t 0)), ox 13 (.mv (.t 5)), ox 14 (.ia 1 (.t 12) (.t 13)), ox 15 (.ld false 1 (.t 14)), ox 16 (.bi .eql .int (.t 11) (.t 15))] false) (.cond (.t 16) (.seq (.reg [ox 17 (.mv (.t 5)), ox 4 (.mv (.t 17))] false) .ret) .skip)))) (.reg [ox 18 (.bi .add .int (.t 8) (.k (.int .i64 1))), ox 8 (.mv (.t 18))] false))))
def ir145 : IFun := ⟨2, [.t 4], (.seq (.reg [ox 4 (.mv (.k (.int .i64 0)))] false) (.seq (.seq (.reg [ox 6 (.mv (.t 0)), ox 7 (.len false (.t 6)), ox 8 (.mv (.k (.int .i64 0)))] false) (.blk 0 (.loop [0, 1, 7, 8] lp145x0))) (.seq (.reg [ox 4 (.mv (.k (.int .i64 (-1))))] false) .ret)))⟩
def lp146x0 : IC := (.seq (.seq (.reg [ox 12 (.mv (.t 4)), ox 13 (.mv (.t 0)), ox 14 (.len false (.t 13)), ox 15 (.bi .lss .int (.t 12) (.t 14))] false) (.cond (.t 15) .skip (.exit 0))) (.seq (.blk 1 (.reg [ox 18 (.mv (.t 3)), ox 19 (.mv (.t 0)), ox 20 (.mv (.t 4)), ox 21 (.ia 1 (.t 19) (.t 20)), ox 22 (.ld false 1 (.t 21)), ox 23 (.mx false (.t 18) (.t 22)), ox 3 (.mv (.t 23))] false)) (.reg [ox 16 (.mv (.t 4)), ox 17 (.bi .add .int (.t 16) (.k (.int .i64 1))), ox 4 (.mv (.t 17))] false)))
def ir146 : IFun := ⟨1, [.t 2], (.seq (.reg [ox 2 (.mv (.k (.int .i64 0)))] false) (.seq (.seq (.reg [ox 5 (.mv (.t 0)), ox 6 (.len false (.t 5)), ox 7 (.bi .lss .int (.t 6) (.k (.int .i64 1)))] false) (.cond (.t 7) (.reg [ox 8 (.bad), ⟨none, .bad, none, false⟩] false) .skip)) (.seq (.reg [ox 9 (.mv (.t 0)), ox 10 (.ia 1 (.t 9) (.k (.int .i64 0))), ox 11 (.ld false 1 (.t 10)), ox 3 (.mv (.t 11))] false) (.seq (.seq (.reg [ox 4 (.mv (.k (.int .i64 1)))] false) (.blk 0 (.loop [0, 3, 4] lp146x0))) (.seq (.reg [ox 24 (.mv (.t 3)), ox 2 (.mv (.t 24))] false) .ret)))))⟩
def lp147x0 : IC := (.seq (.reg [ox 9 (.bi .lss .int (.t 8) (.t 7))] false) (.seq (.cond (.t 9) .skip (.exit 0)) (.seq (.blk 1 (.seq (.reg [ox 10 (.mv (.t 8)), ox 5 (.mv (.t 10))] false) (.seq (.reg [ox 11 (.mv (.t 1)), ox 12 (.mv (.t 0)), ox 13 (.mv (.t 5)), ox 14 (.ia 1 (.t 12) (.t 13)), ox 15 (.ld false 1 (.t 14)), ox 16 (.bi .eql .str (.t 11) (.t 15))] false) (.cond (.t 16) (.seq (.reg [ox 17 (.mv (.t 5)), ox 4 (.mv (.t 17))] false) .ret) .skip)))) (.reg [ox 18 (.bi .add .int (.t 8) (.k (.int .i64 1))), ox 8 (.mv (.t 18))] false))))
def ir147 : IFun := ⟨2, [.t 4], (.seq (.reg [ox 4 (.mv (.k (.int .i64 0)))] false) (.seq (.seq (.reg [ox 6 (.mv (.t 0)), ox 7 (.len false (.t 6)), ox 8 (.mv (.k (.int .i64 0)))] false) (.blk 0 (.loop [0, 1, 7, 8] lp147x0))) (.seq (.reg [ox 4 (.mv (.k (.int .i64 (-1))))] false) .ret)))⟩
def ir148 : IFun := ⟨2, [.t 4], (.seq (.reg [ox 2 (.box (.t 0)), ox 3 (.box (.t 1)), ox 4 (.mv (.k (.int .i64 0)))] false) (.seq (.seq (.reg [ox 5 (.fa 1 (.t 3)), ox 6 (.ld false 1 (.t 5)), ox 7 (.bi .neq .int (.t 6) (.k (.int .u8 1)))] false) (.cond (.t 7) (.seq (.reg [ox 8 (.fa 2 (.t 2)), ox 9 (.ld false 1 (.t 8)), ox 4 (.mv (.t 9))] false) .ret) .skip)) (.seq (.reg [ox 10 (.fa 3 (.t 2)), ox 11 (.ld false 1 (.t 10)), ox 12 (.fa 4 (.t 2)), ox 13 (.ld false 1 (.t 12)), ox 14 (.fa 2 (.t 3)), ox 15 (.ld false 1 (.t 14)), ox 16 (.ia 2 (.t 13) (.t 15)), ox 17 (.fa 1 (.t 16)), ox 18 (.ld false 1 (.t 17)), ox 19 (.ia 1 (.t 18) (.k (.int .i64 0))), ox 20 (.ld false 1 (.t 19)), ox 21 (.ia 4 (.t 11) (.t 20)), ox 22 (.fa 1 (.t 21)), ox 23 (.ld false 1 (.t 22)), ox 4 (.mv (.t 23))] true) .ret)))⟩
def lp149x0 : IC := (.seq (.reg [ox 11 (.bi .lss .int (.t 10) (.t 9))] false) (.seq (.cond (.t 11) .skip (.exit 0)) (.seq (.blk 1 (.seq (.reg [ox 12 (.ia 6 (.t 8) (.t 10)), ox 13 (.ld true 6 (.t 12)), ox 7 (.alc [.int .u8 0, .int .i64 0, .int .u64 0, .str [], .int .i64 0, .nilS]), ⟨none, .st 6 (.t 7) (.t 13), none, false⟩] false) (.seq (.reg [ox 14 (.mv (.t 0)), ox 15 (.ld true 6 (.t 7)), ox 16 (.call (.f 163) [(.t 15)]), ox 17 (.bi .eql .int (.t 16) (.k (.int .i64 0))), ox 18 (.bsl 1 [.bool false] 1 [(0, (.t 17))]), ox 19 (.call (.f 56) [(.t 14), (.t 18)])] false) (.seq (.seq (.reg [ox 20 (.mv (.t 0)), ox 21 (.nilc (.t 20)), ox 22 (.fa 7 (.t 21)), ox 23 (.ld false 1 (.t 22)), ox 24 (.un .not (.t 23))] false) (.cond (.t 24) .ret .skip)) (.reg [ox 25 (.mv (.t 0)), ox 26 (.mv (.t 1)), ox 27 (.ld true 6 (.t 7)), ox 28 (.call (.f 164) [(.t 25), (.t 26), (.t 27)])] false))))) (.reg [ox 29 (.bi .add .int (.t 10) (.k (.int .i64 1))), ox 10 (.mv (.t 29))] false))))
def ir149 : IFun := ⟨3, [], (.seq (.reg [ox 8 (.mv (.t 2)), ox 9 (.len false (.t 8)), ox 10 (.mv (.k (.int .i64 0)))] false) (.blk 0 (.loop [0, 1, 8, 9, 10] lp149x0)))⟩
def lp150x0 : IC := (.seq (.reg [ox 8 (.bi .lss .int (.t 7) (.t 6))] false) (.seq (.cond (.t 8) .skip (.exit 0)) (.seq (.blk 1 (.seq (.reg [ox 9 (.ia 6 (.t 5) (.t 7)), ox 10 (.ld true 6 (.t 9)), ox 4 (.alc [.int .u8 0, .int .i64 0, .int .u64 0, .str [], .int .i64 0, .nilS]), ⟨none, .st 6 (.t 4) (.t 10), none, false⟩] false) (.seq (.reg [ox 11 (.fa 0 (.t 4)), ox 12 (.ld false 1 (.t 11)), ox 13 (.bi .neq .int (.t 12) (.k (.int .u8 0))), ox 14 (.mv (.t 13)), ⟨(some 15), .fa 1 (.t 4), (some (14, false)), false⟩, ⟨(some 16), .ld false 1 (.t 15), (some (14, false)), false⟩, ⟨(some 17), .bi .neq .int (.t 16) (.k (.int .i64 0)), (some (14, false)), false⟩, ox 18 (.pick (.t 14) (.k (.bool true)) (.t 17)), ox 19 (.mv (.t 18)), ⟨(some 20), .fa 2 (.t 4), (some (19, false)), false⟩, ⟨(some 21), .ld false 1 (.t 20), (some (19, false)), false⟩, ⟨(some 22), .bi .neq .int (.t 21) (.k (.int .u64 0)), (some (19, false)), false⟩, ox 23 (.pick (.t 19) (.k (.bool true)) (.t 22)), ox 24 (.mv (.t 23)), ⟨(some 25), .fa 3 (.t 4), (some (24, false)), false⟩, ⟨(some 26), .ld false 1 (.t 25), (some (24, false)), false⟩, ⟨(some 27), .bi .neq .str (.t 26) (.k (.str [])), (some (24, false)), false⟩, ox 28 (.pick (.t 24) (.k (.bool true)) (.t 27)), ox 29 (.mv (.t 28)), ⟨(some 30), .fa 4 (.t 4), (some (29, false)), false⟩, ⟨(some 31), .ld false 1 (.t 30), (some (29, false)), false⟩, ⟨(some 32), .bi .neq .int (.t 31) (.k (.int .i64 0)), (some (29, false)), false⟩, ox 33 (.pick (.t 29) (.k (.bool true)) (.t 32)), ox 34 (.mv (.t 33)), ⟨(some 35), .fa 5 (.t 4), (some (34, false)), false⟩, ⟨(some 36), .ld false 1 (.t 35), (some (34, false)), false⟩, ⟨(some 37), .len false (.t 36), (some (34, false)), false⟩, ⟨(some 38), .bi .gtr .int (.t 37) (.k (.int .i64 0)), (some (34, false)), false⟩, ox 39 (.pick (.t 34) (.k (.bool true)) (.t 38))] false) (.cond (.t 39) (.seq (.reg [ox 2 (.mv (.k (.bool false)))] false) .ret) .skip)))) (.reg [ox 40 (.bi .add .int (.t 7) (.k (.int .i64 1))), ox 7 (.mv (.t 40))] false))))
def ir150 : IFun := ⟨1, [.t 2], (.seq (.reg [ox 2 (.mv (.k (.bool false)))] false) (.seq (.seq (.reg [ox 5 (.mv (.t 0)), ox 6 (.len false (.t 5)), ox 7 (.mv (.k (.int .i64 0)))] false) (.blk 0 (.loop [5, 6, 7] lp150x0))) (.seq (.reg [ox 2 (.mv (.k (.bool true)))] false) .ret)))⟩
def lp151x0 : IC := (.seq (.seq (.reg [ox 7 (.mv (.t 5)), ox 8 (.fa 4 (.t 2)), ox 9 (.ld false 1 (.t 8)), ox 10 (.len false (.t 9)), ox 11 (.bi .lss .int (.t 7) (.t 10))] false) (.cond (.t 11) .skip (.exit 0))) (.seq (.blk 1 (.seq (.reg [ox 14 (.fa 4 (.t 2)), ox 15 (.ld false 1 (.t 14)), ox 16 (.mv (.t 5)), ox 17 (.ia 2 (.t 15) (.t 16)), ox 18 (.ld true 2 (.t 17)), ox 6 (.alc [.int .i64 0, .int .i64 0]), ⟨none, .st 2 (.t 6) (.t 18), none, false⟩] false) (.seq (.reg [ox 19 (.fa 1 (.t 6)), ox 20 (.ld false 1 (.t 19)), ox 21 (.mv (.t 1)), ox 22 (.bi .mul .int (.k (.int .i64 8)) (.t 21)), ox 23 (.call (.f 66) [(.t 20), (.k (.int .i64 1)), (.t 22)]), ox 24 (.un .not (.t 23)), ox 25 (.mv (.t 24)), ⟨(some 26), .fa 0 (.t 6), (some (25, false)), false⟩, ⟨(some 27), .ld false 1 (.t 26), (some (25, false)), false⟩, ⟨(some 28), .mv (.t 1), (some (25, false)), false⟩, ⟨(some 29), .bi .mul .int (.k (.int .i64 8)) (.t 28), (some (25, false)), false⟩, ⟨(some 30), .fa 1 (.t 6), (some (25, false)), false⟩, ⟨(some 31), .ld false 1 (.t 30), (some (25, false)), false⟩, ⟨(some 32), .bi .sub .int (.t 29) (.t 31), (some (25, false)), false⟩, ⟨(some 33), .call (.f 66) [(.t 27), (.k (.int .i64 0)), (.t 32)], (some (25, false)), false⟩, ⟨(some 34), .un .not (.t 33), (some (25, false)), false⟩, ox 35 (.pick (.t 25) (.k (.bool true)) (.t 34))] false) (.cond (.t 35) (.seq (.reg [ox 4 (.mv (.k (.bool false)))] false) .ret) .skip)))) (.reg [ox 12 (.mv (.t 5)), ox 13 (.bi .add .int (.t 12) (.k (.int .i64 1))), ox 5 (.mv (.t 13))] false)))
def ir151 : IFun := ⟨2, [.t 4], (.seq (.reg [ox 2 (.box (.t 0)), ox 4 (.mv (.k (.bool false)))] false) (.seq (.seq (.reg [ox 5 (.mv (.k (.int .i64 0)))] false) (.blk 0 (.loop [1, 2, 5] lp151x0))) (.seq (.reg [ox 4 (.mv (.k (.bool true)))] false) .ret)))⟩
def lp152x0 : IC := (.seq (.seq (.reg [ox 5 (.mv (.t 4)), ox 6 (.fa 4 (.t 1)), ox 7 (.ld false 1 (.t 6)), ox 8 (.len false (.t 7)), ox 9 (.bi .lss .int (.t 5) (.t 8))] false) (.cond (.t 9) .skip (.exit 0))) (.seq (.blk 1 (.reg [ox 12 (.mv (.t 3)), ox 13 (.fa 4 (.t 1)), ox 14 (.ld false 1 (.t 13)), ox 15 (.mv (.t 4)), ox 16 (.ia 2 (.t 14) (.t 15)), ox 17 (.fa 1 (.t 16)), ox 18 (.ld false 1 (.t 17)), ox 19 (.bi .add .int (.t 12) (.t 18)), ox 3 (.mv (.t 19))] false)) (.reg [ox 10 (.mv (.t 4)), ox 11 (.bi .add .int (.t 10) (.k (.int .i64 1))), ox 4 (.mv (.t 11))] false)))
def ir152 : IFun := ⟨1, [.t 2], (.seq (.reg [ox 1 (.box (.t 0)), ox 2 (.mv (.k (.int .i64 0)))] false) (.seq (.reg [ox 3 (.mv (.k (.int .i64 0)))] false) (.seq (.seq (.reg [ox 4 (.mv (.k (.int .i64 0)))] false) (.blk 0 (.loop [1, 3, 4] lp152x0))) (.seq (.reg [ox 20 (.mv (.t 3)), ox 2 (.mv (.t 20))] false) .ret))))⟩
def lp153x0 : IC := (.seq (.seq (.reg [ox 5 (.mv (.t 4)), ox 6 (.mv (.t 0)), ox 7 (.bi .lss .int (.t 5) (.t 6))] false) (.cond (.t 7) .skip (.exit 0))) (.seq (.blk 1 (.reg [ox 10 (.mv (.t 3)), ox 11 (.bi .mul .int (.k (.int .i64 2)) (.t 10)), ox 3 (.mv (.t 11))] false)) (.reg [ox 8 (.mv (.t 4)), ox 9 (.bi .add .int (.t 8) (.k (.int .i64 1))), ox 4 (.mv (.t 9))] false)))
def ir153 : IFun := ⟨1, [.t 2], (.seq (.reg [ox 2 (.mv (.k (.int .i64 0)))] false) (.seq (.reg [ox 3 (.mv (.k (.int .i64 1)))] false) (.seq (.seq (.reg [ox 4 (.mv (.k (.int .i64 0)))] false) (.blk 0 (.loop [0, 3, 4] lp153x0))) (.seq (.reg [ox 12 (.mv (.t 3)), ox 2 (.mv (.t 12))] false) .ret))))⟩
def ir154 : IFun := ⟨1, [.t 2], (.seq (.reg [ox 1 (.box (.t 0)), ox 2 (.mv (.k (.bool false)))] false) (.seq (.reg [ox 3 (.fa 0 (.t 1)), ox 4 (.ld false 1 (.t 3)), ox 5 (.bi .eql .int (.t 4) (.k (.int .u8 0))), ox 6 (.mv (.t 5)), ⟨(some 7), .fa 1 (.t 1), (some (6, true)), false⟩, ⟨(some 8), .ld false 1 (.t 7), (some (6, true)), false⟩, ⟨(some 9), .bi .eql .int (.t 8) (.k (.int .i64 0)), (some (6, true)), false⟩, ox 10 (.pick (.t 6) (.t 9) (.k (.bool false))), ox 11 (.mv (.t 10)), ⟨(some 12), .fa 2 (.t 1), (some (11, true)), false⟩, ⟨(some 13), .ld false 1 (.t 12), (some (11, true)), false⟩, ⟨(some 14), .bi .eql .int (.t 13) (.k (.int .u64 0)), (some (11, true)), false⟩, ox 15 (.pick (.t 11) (.t 14) (.k (.bool false))), ox 16 (.mv (.t 15)), ⟨(some 17), .fa 3 (.t 1), (some (16, true)), false⟩, ⟨(some 18), .ld false 1 (.t 17), (some (16, true)), false⟩, ⟨(some 19), .bi .eql .str (.t 18) (.k (.str [])), (some (16, true)), false⟩, ox 20 (.pick (.t 16) (.t 19) (.k (.bool false))), ox 21 (.mv (.t 20)), ⟨(some 22), .fa 4 (.t 1), (some (21, true)), false⟩, ⟨(some 23), .ld false 1 (.t 22), (some (21, true)), false⟩, ⟨(some 24), .bi .eql .int (.t 23) (.k (.int .i64 0)), (some (21, true)), false⟩, ox 25 (.pick (.t 21) (.t 24) (.k (.bool false))), ox 26 (.mv (.t 25)), ⟨(some 27), .fa 5 (.t 1), (some (26, true)), false⟩, ⟨(some 28), .ld false 1 (.t 27), (some (26, true)), false⟩, ⟨(some 29), .len false (.t 28), (some (26, true)), false⟩, ⟨(some 30), .bi .eql .int (.t 29) (.k (.int .i64 0)), (some (26, true)), false⟩, ox 31 (.pick (.t 26) (.t 30) (.k (.bool false))), ox 2 (.mv (.t 31))] false) .ret))⟩
def ir155 : IFun := ⟨3, [.t 6], (.seq (.reg [ox 3 (.box (.t 0)), ox 4 (.box (.t 1)), ox 5 (.box (.t 2)), ox 6 (.mv (.k (.bool false)))] false) (.seq (.reg [ox 7 (.ld true 6 (.t 5)), ox 8 (.call (.f 165) [(.t 7)]), ox 9 (.bi .eql .int (.t 8) (.k (.int .i64 0))), ox 10 (.mv (.t 9)), ⟨(some 11), .ld true 7 (.t 3), (some (10, true)), false⟩, ⟨(some 12), .ld true 9 (.t 4), (some (10, true)), false⟩, ⟨(some 13), .ld true 6 (.t 5), (some (10, true)), false⟩, ⟨(some 14), .call (.f 166) [(.t 11), (.t 12), (.t 13)], (some (10, true)), false⟩, ox 15 (.pick (.t 10) (.t 14) (.k (.bool false))), ox 6 (.mv (.t 15))] false) .ret))⟩
def ir156 : IFun := ⟨2, [.t 4], (.seq (.reg [ox 2 (.box (.t 0)), ox 3 (.box (.t 1)), ox 4 (.mv (.k (.int .i64 0)))] false) (.seq (.seq (.reg [ox 5 (.fa 1 (.t 3)), ox 6 (.ld false 1 (.t 5)), ox 7 (.bi .eql .int (.t 6) (.k (.int .u8 1)))] false) (.cond (.t 7) (.seq (.reg [ox 8 (.fa 3 (.t 2)), ox 9 (.ld false 1 (.t 8)), ox 10 (.fa 4 (.t 2)), ox 11 (.ld false 1 (.t 10)), ox 12 (.fa 2 (.t 3)), ox 13 (.ld false 1 (.t 12)), ox 14 (.ia 2 (.t 11) (.t 13)), ox 15 (.fa 1 (.t 14)), ox 16 (.ld false 1 (.t 15)), ox 17 (.ia 1 (.t 16) (.k (.int .i64 0))), ox 18 (.ld false 1 (.t 17)), ox 19 (.ia 4 (.t 9) (.t 18)), ox 20 (.fa 1 (.t 19)), ox 21 (.ld false 1 (.t 20)), ox 4 (.mv (.t 21))] true) .ret) .skip)) (.seq (.reg [ox 22 (.fa 2 (.t 2)), ox 23 (.ld false 1 (.t 22)), ox 4 (.mv (.t 23))] false) .ret)))⟩
def ir158 : IFun := ⟨1, [.t 2], (.seq (.reg [ox 2 (.mv (.k (.bool false)))] false) (.seq (.reg [ox 3 (.mv (.t 0)), ox 4 (.mv (.t 0)), ox 5 (.bi .neq .int (.t 3) (.t 4)), ox 2 (.mv (.t 5))] false) .ret))⟩
def lp163x0 : IC := (.blk 1 (.seq (.reg [ox 17 (.ld true 6 (.t 3)), ox 18 (.call (.f 170) [(.t 17)]), ox 19 (.un .not (.t 18))] false) (.cond (.t 19) (.seq (.reg [⟨none, .st 1 (.t 2) (.k (.int .i64 8)), none, false⟩] false) .ret) .skip)))
def ir163 : IFun := ⟨1, [.cell false 1 2], (.seq (.reg [ox 1 (.box (.t 0)), ox 2 (.alc [.int .i64 0])] false) (.seq (.seq (.reg [ox 6 (.ld true 6 (.t 1)), ox 7 (.call (.f 167) [(.t 6)]), ox 8 (.bi .gtr .int (.t 7) (.k (.int .i64 400))), ox 9 (.mv (.t 8)), ⟨(some 10), .ld true 6 (.t 1), (some (9, false)), false⟩, ⟨(some 11), .call (.f 168) [(.t 10)], (some (9, false)), false⟩, ⟨(some 12), .bi .gtr .int (.t 11) (.k (.int .i64 60)), (some (9, false)), false⟩, ox 13 (.pick (.t 9) (.k (.bool true)) (.t 12))] false) (.cond (.t 13) (.seq (.reg [⟨none, .st 1 (.t 2) (.k (.int .i64 4)), none, false⟩] false) .ret) .skip)) (.seq (.seq (.reg [ox 14 (.ld true 6 (.t 1)), ox 15 (.call (.f 169) [(.t 14)])] false) (.blk 0 (.rng (.t 15) [16] [1, 2] (.reg [ox 3 (.alc [.int .u8 0, .int .i64 0, .int .u64 0, .str [], .int .i64 0, .nilS]), ⟨none, .st 6 (.t 3) (.t 16), none, false⟩] false) lp163x0))) (.seq (.seq (.reg [ox 21 (.ld true 6 (.t 1)), ox 22 (.call (.f 171) [(.t 21)]), ox 20 (.mv (.t 22)), ox 23 (.ext (.t 20) 0), ox 24 (.ext (.t 20) 1), ox 4 (.mv (.t 23)), ox 5 (.mv (.t 24))] false) (.seq (.reg [ox 25 (.mv (.t 5)), ox 26 (.un .not (.t 25))] false) (.cond (.t 26) (.seq (.reg [⟨none, .st 1 (.t 2) (.k (.int .i64 14)), none, false⟩] false) .ret) .skip))) (.seq (.reg [⟨none, .st 1 (.t 2) (.k (.int .i64 0)), none, false⟩] false) .ret)))))⟩
def lp164x0 : IC := (.seq (.reg [ox 42 (.bi .lss .int (.t 41) (.t 40))] false) (.seq (.cond (.t 42) .skip (.exit 1)) (.seq (.blk 2 (.seq (.reg [ox 43 (.ia 6 (.t 39) (.t 41)), ox 44 (.ld true 6 (.t 43)), ox 7 (.alc [.int .u8 0, .int .i64 0, .int .u64 0, .str [], .int .i64 0, .nilS]), ⟨none, .st 6 (.t 7) (.t 44), none, false⟩] false) (.reg [ox 45 (.mv (.t 0)), ox 46 (.mv (.t 1)), ox 47 (.ld true 6 (.t 7)), ox 48 (.call (.f 164) [(.t 45), (.t 46), (.t 47)])] false))) (.reg [ox 49 (.bi .add .int (.t 41) (.k (.int .i64 1))), ox 41 (.mv (.t 49))] false))))
def ir164 : IFun := ⟨3, [], (.seq (.reg [ox 5 (.box (.t 2))] false) (.seq (.seq (.reg [ox 8 (.fa 0 (.t 5)), ox 9 (.ld false 1 (.t 8))] false) (.blk 0 (.seq (.reg [ox 11 (.bi .eql .int (.t 9) (.k (.int .u8 2))), ox 10 (.mv (.t 11))] false) (.cond (.t 10) (.reg [ox 12 (.mv (.t 0)), ox 13 (.mv (.t 1)), ox 14 (.fa 3 (.t 5)), ox 15 (.ld false 1 (.t 14)), ox 16 (.mlk true false (.int .i64 0) (.t 13) (.t 15)), ox 17 (.fa 1 (.t 5)), ox 18 (.ld false 1 (.t 17)), ox 19 (.bi .eql .int (.t 16) (.t 18)), ox 20 (.bsl 1 [.bool false] 1 [(0, (.t 19))]), ox 21 (.call (.f 56) [(.t 12), (.t 20)])] false) (.seq (.reg [ox 23 (.bi .eql .int (.t 9) (.k (.int .u8 24))), ox 22 (.mv (.t 23))] false) (.cond (.t 22) (.reg [ox 24 (.mv (.t 0)), ox 25 (.fa 5 (.t 5)), ox 26 (.ld false 1 (.t 25)), ox 27 (.ia 6 (.t 26) (.k (.int .i64 0))), ox 28 (.fa 1 (.t 27)), ox 29 (.ld false 1 (.t 28)), ox 30 (.mv (.t 0)), ox 31 (.nilc (.t 30)), ox 32 (.fa 0 (.t 31)), ox 33 (.fa 2 (.t 32)), ox 34 (.ld false 1 (.t 33)), ox 35 (.bi .eql .int (.t 29) (.t 34)), ox 36 (.bsl 1 [.bool false] 1 [(0, (.t 35))]), ox 37 (.call (.f 56) [(.t 24), (.t 36)])] true) .skip)))))) (.seq (.reg [ox 38 (.fa 5 (.t 5)), ox 39 (.ld false 1 (.t 38)), ox 40 (.len false (.t 39)), ox 41 (.mv (.k (.int .i64 0)))] false) (.blk 1 (.loop [0, 1, 39, 40, 41] lp164x0)))))⟩
def lp165x0 : IC := (.seq (.seq (.reg [ox 25 (.mv (.t 5)), ox 26 (.mv (.t 4)), ox 27 (.bi .lss .int (.t 25) (.t 26))] false) (.cond (.t 27) .skip (.exit 2))) (.seq (.blk 3 (.seq (.reg [ox 30 (.mv (.t 3)), ox 31 (.mv (.t 5)), ox 32 (.ia 3 (.t 30) (.t 31)), ox 33 (.fa 0 (.t 32)), ox 34 (.ld false 1 (.t 33)), ox 35 (.mv (.t 3)), ox 36 (.mv (.t 4)), ox 37 (.ia 3 (.t 35) (.t 36)), ox 38 (.fa 0 (.t 37)), ox 39 (.ld false 1 (.t 38)), ox 40 (.bi .eql .str (.t 34) (.t 39)), ox 41 (.mv (.t 40)), ⟨(some 42), .mv (.t 3), (some (41, true)), false⟩, ⟨(some 43), .mv (.t 5), (some (41, true)), false⟩, ⟨(some 44), .ia 3 (.t 42) (.t 43), (some (41, true)), false⟩, ⟨(some 45), .fa 1 (.t 44), (some (41, true)), false⟩, ⟨(some 46), .ld false 1 (.t 45), (some (41, true)), false⟩, ⟨(some 47), .mv (.t 3), (some (41, true)), false⟩, ⟨(some 48), .mv (.t 4), (some (41, true)), false⟩, ⟨(some 49), .ia 3 (.t 47) (.t 48), (some (41, true)), false⟩, ⟨(some 50), .fa 1 (.t 49), (some (41, true)), false⟩, ⟨(some 51), .ld false 1 (.t 50), (some (41, true)), false⟩, ⟨(some 52), .bi .neq .int (.t 46) (.t 51), (some (41, true)), false⟩, ox 53 (.pick (.t 41) (.t 52) (.k (.bool false)))] true) (.cond (.t 53) (.seq (.reg [ox 2 (.mv (.k (.int .i64 14)))] false) .ret) .skip))) (.reg [ox 28 (.mv (.t 5)), ox 29 (.bi .add .int (.t 28) (.k (.int .i64 1))), ox 5 (.mv (.t 29))] false)))
def lp165x1 : IC := (.seq (.seq (.reg [ox 19 (.mv (.t 4)), ox 20 (.mv (.t 3)), ox 21 (.len false (.t 20)), ox 22 (.bi .lss .int (.t 19) (.t 21))] false) (.cond (.t 22) .skip (.exit 0))) (.seq (.blk 1 (.seq (.reg [ox 5 (.mv (.k (.int .i64 0)))] false) (.blk 2 (.loop [3, 4, 5] lp165x0)))) (.reg [ox 23 (.mv (.t 4)), ox 24 (.bi .add .int (.t 23) (.k (.int .i64 1))), ox 4 (.mv (.t 24))] false)))
def ir165 : IFun := ⟨1, [.t 2], (.seq (.reg [ox 1 (.box (.t 0)), ox 2 (.mv (.k (.int .i64 0)))] false) (.seq (.seq (.reg [ox 6 (.ld true 6 (.t 1)), ox 7 (.call (.f 104) [(.t 6)]), ox 8 (.bi .gtr .int (.t 7) (.k (.int .i64 400))), ox 9 (.mv (.t 8)), ⟨(some 10), .ld true 6 (.t 1), (some (9, false)), false⟩, ⟨(some 11), .call (.f 172) [(.t 10)], (some (9, false)), false⟩, ⟨(some 12), .bi .gtr .int (.t 11) (.k (.int .i64 60)), (some (9, false)), false⟩, ox 13 (.pick (.t 9) (.k (.bool true)) (.t 12))] false) (.cond (.t 13) (.seq (.reg [ox 2 (.mv (.k (.int .i64 4)))] false) .ret) .skip)) (.seq (.seq (.reg [ox 14 (.ld true 6 (.t 1)), ox 15 (.call (.f 173) [(.t 14)]), ox 16 (.un .not (.t 15))] false) (.cond (.t 16) (.seq (.reg [ox 2 (.mv (.k (.int .i64 8)))] false) .ret) .skip)) (.seq (.reg [ox 17 (.ld true 6 (.t 1)), ox 18 (.call (.f 174) [(.t 17)]), ox 3 (.mv (.t 18))] false) (.seq (.seq (.reg [ox 4 (.mv (.k (.int .i64 0)))] false) (.blk 0 (.loop [3, 4] lp165x1))) (.seq (.reg [ox 2 (.mv (.k (.int .i64 0)))] false) .ret))))))⟩
def lp166x0 : IC := (.seq (.seq (.reg [ox 34 (.mv (.t 7)), ox 35 (.fa 5 (.t 5)), ox 36 (.ld false 1 (.t 35)), ox 37 (.len false (.t 36)), ox 38 (.bi .lss .int (.t 34) (.t 37))] false) (.cond (.t 38) .skip (.exit 0))) (.seq (.blk 1 (.seq (.reg [ox 41 (.ld true 7 (.t 3)), ox 42 (.ld true 9 (.t 4)), ox 43 (.fa 5 (.t 5)), ox 44 (.ld false 1 (.t 43)), ox 45 (.mv (.t 7)), ox 46 (.ia 6 (.t 44) (.t 45)), ox 47 (.ld true 6 (.t 46)), ox 48 (.call (.f 166) [(.t 41), (.t 42), (.t 47)]), ox 49 (.un .not (.t 48))] true) (.cond (.t 49) (.seq (.reg [ox 6 (.mv (.k (.bool false)))] false) .ret) .skip))) (.reg [ox 39 (.mv (.t 7)), ox 40 (.bi .add .int (.t 39) (.k (.int .i64 1))), ox 7 (.mv (.t 40))] false)))
def ir166 : IFun := ⟨3, [.t 6], (.seq (.reg [ox 3 (.box (.t 0)), ox 4 (.box (.t 1)), ox 5 (.box (.t 2)), ox 6 (.mv (.k (.bool false)))] false) (.seq (.seq (.reg [ox 8 (.fa 0 (.t 5)), ox 9 (.ld false 1 (.t 8)), ox 10 (.bi .eql .int (.t 9) (.k (.int .u8 2))), ox 11 (.mv (.t 10)), ⟨(some 12), .ld true 7 (.t 3), (some (11, true)), false⟩, ⟨(some 13), .ld true 9 (.t 4), (some (11, true)), false⟩, ⟨(some 14), .fa 3 (.t 5), (some (11, true)), false⟩, ⟨(some 15), .ld false 1 (.t 14), (some (11, true)), false⟩, ⟨(some 16), .fa 1 (.t 5), (some (11, true)), false⟩, ⟨(some 17), .ld false 1 (.t 16), (some (11, true)), false⟩, ⟨(some 18), .call (.f 175) [(.t 12), (.t 13), (.t 15), (.t 17)], (some (11, true)), false⟩, ⟨(some 19), .un .not (.t 18), (some (11, true)), false⟩, ox 20 (.pick (.t 11) (.t 19) (.k (.bool false)))] false) (.cond (.t 20) (.seq (.reg [ox 6 (.mv (.k (.bool false)))] false) .ret) .skip)) (.seq (.seq (.reg [ox 21 (.fa 0 (.t 5)), ox 22 (.ld false 1 (.t 21)), ox 23 (.bi .eql .int (.t 22) (.k (.int .u8 24))), ox 24 (.mv (.t 23)), ⟨(some 25), .fa 5 (.t 5), (some (24, true)), false⟩, ⟨(some 26), .ld false 1 (.t 25), (some (24, true)), false⟩, ⟨(some 27), .ia 6 (.t 26) (.k (.int .i64 0)), (some (24, true)), false⟩, ⟨(some 28), .fa 1 (.t 27), (some (24, true)), false⟩, ⟨(some 29), .ld false 1 (.t 28), (some (24, true)), false⟩, ⟨(some 30), .fa 2 (.t 3), (some (24, true)), false⟩, ⟨(some 31), .ld false 1 (.t 30), (some (24, true)), false⟩, ⟨(some 32), .bi .neq .int (.t 29) (.t 31), (some (24, true)), false⟩, ox 33 (.pick (.t 24) (.t 32) (.k (.bool false)))] true) (.cond (.t 33) (.seq (.reg [ox 6 (.mv (.k (.bool false)))] false) .ret) .skip)) (.seq (.seq (.reg [ox 7 (.mv (.k (.int .i64 0)))] false) (.blk 0 (.loop [3, 4, 5, 7] lp166x0))) (.seq (.reg [ox 6 (.mv (.k (.bool true)))] false) .ret)))))⟩
def lp167x0 : IC := (.blk 1 (.reg [ox 7 (.ld false 1 (.t 3)), ox 8 (.bi .add .int (.t 7) (.k (.int .i64 1))), ⟨none, .st 1 (.t 3) (.t 8), none, false⟩] false))
def ir167 : IFun := ⟨1, [.t 2], (.seq (.reg [ox 1 (.box (.t 0)), ox 2 (.mv (.k (.int .i64 0)))] false) (.seq (.reg [ox 3 (.alc [.int .i64 0]), ⟨none, .st 1 (.t 3) (.k (.int .i64 0)), none, false⟩] false) (.seq (.seq (.reg [ox 4 (.ld true 6 (.t 1)), ox 5 (.call (.f 169) [(.t 4)])] false) (.blk 0 (.rng (.t 5) [6] [2, 3] .skip lp167x0))) (.seq (.reg [ox 9 (.ld false 1 (.t 3)), ox 2 (.mv (.t 9))] false) .ret))))⟩
def lp168x0 : IC := (.seq (.reg [ox 10 (.bi .lss .int (.t 9) (.t 8))] false) (.seq (.cond (.t 10) .skip (.exit 0)) (.seq (.blk 1 (.seq (.reg [ox 11 (.ia 6 (.t 7) (.t 9)), ox 12 (.ld true 6 (.t 11)), ox 5 (.alc [.int .u8 0, .int .i64 0, .int .u64 0, .str [], .int .i64 0, .nilS]), ⟨none, .st 6 (.t 5) (.t 12), none, false⟩] false) (.reg [ox 13 (.mv (.t 3)), ox 14 (.ld true 6 (.t 5)), ox 15 (.call (.f 168) [(.t 14)]), ox 16 (.mx false (.t 13) (.t 15)), ox 3 (.mv (.t 16))] false))) (.reg [ox 17 (.bi .add .int (.t 9) (.k (.int .i64 1))), ox 9 (.mv (.t 17))] false))))
def ir168 : IFun := ⟨1, [.t 2], (.seq (.reg [ox 1 (.box (.t 0)), ox 2 (.mv (.k (.int .i64 0)))] false) (.seq (.reg [ox 3 (.mv (.k (.int .i64 0)))] false) (.seq (.seq (.reg [ox 6 (.fa 5 (.t 1)), ox 7 (.ld false 1 (.t 6)), ox 8 (.len false (.t 7)), ox 9 (.mv (.k (.int .i64 0)))] false) (.blk 0 (.loop [3, 7, 8, 9] lp168x0))) (.seq (.reg [ox 18 (.mv (.t 3)), ox 19 (.bi .add .int (.t 18) (.k (.int .i64 1))), ox 2 (.mv (.t 19))] false) .ret))))⟩
def ir169 : IFun := ⟨1, [.t 2], (.seq (.reg [ox 1 (.box (.t 0)), ox 2 (.mv (.k .nilF))] false) (.seq (.reg [ox 3 (.mkf 176 [(.t 1)]), ox 2 (.mv (.t 3))] false) .ret))⟩
def ir170 : IFun := ⟨1, [.t 2], (.seq (.reg [ox 1 (.box (.t 0)), ox 2 (.mv (.k (.bool false)))] false) (.seq (.seq (.reg [ox 6 (.fa 1 (.t 1)), ox 7 (.ld false 1 (.t 6)), ox 8 (.call (.f 178) [(.t 7)]), ox 9 (.un .not (.t 8))] false) (.cond (.t 9) (.seq (.reg [ox 2 (.mv (.k (.bool false)))] false) .ret) .skip)) (.seq (.reg [ox 11 (.fa 0 (.t 1)), ox 12 (.ld false 1 (.t 11)), ox 13 (.call (.f 179) [(.t 12)]), ox 10 (.mv (.t 13)), ox 14 (.ext (.t 10) 0), ox 15 (.ext (.t 10) 1), ox 3 (.alc [.str [], .int .i64 0, .int .i64 0]), ⟨none, .st 3 (.t 3) (.t 14), none, false⟩, ox 4 (.mv (.t 15))] false) (.seq (.seq (.reg [ox 16 (.mv (.t 4)), ox 17 (.un .not (.t 16))] false) (.cond (.t 17) (.seq (.reg [ox 18 (.fa 5 (.t 1)), ox 19 (.ld false 1 (.t 18)), ox 20 (.len false (.t 19)), ox 21 (.bi .eql .int (.t 20) (.k (.int .i64 0))), ox 22 (.mv (.t 21)), ⟨(some 23), .fa 4 (.t 1), (some (22, true)), false⟩, ⟨(some 24), .ld false 1 (.t 23), (some (22, true)), false⟩, ⟨(some 25), .bi .eql .int (.t 24) (.k (.int .i64 0)), (some (22, true)), false⟩, ox 26 (.pick (.t 22) (.t 25) (.k (.bool false))), ox 5 (.mv (.t 26))] false) (.seq (.reg [ox 27 (.mv (.t 5)), ox 28 (.mv (.t 27)), ⟨(some 29), .fa 0 (.t 1), (some (28, true)), false⟩, ⟨(some 30), .ld false 1 (.t 29), (some (28, true)), false⟩, ⟨(some 31), .bi .eql .int (.t 30) (.k (.int .u8 1)), (some (28, true)), false⟩, ⟨(some 32), .mv (.t 31), (some (28, true)), false⟩, ⟨(some 33), .fa 3 (.t 1), (some (32, true)), false⟩, ⟨(some 34), .ld false 1 (.t 33), (some (32, true)), false⟩, ⟨(some 35), .bi .eql .str (.t 34) (.k (.str [])), (some (32, true)), false⟩, ⟨(some 36), .pick (.t 32) (.t 35) (.k (.bool false)), (some (28, true)), false⟩, ⟨(some 37), .mv (.t 36), (some (28, true)), false⟩, ⟨(some 38), .fa 1 (.t 1), (some (37, true)), false⟩, ⟨(some 39), .ld false 1 (.t 38), (some (37, true)), false⟩, ⟨(some 40), .fa 2 (.t 1), (some (37, true)), false⟩, ⟨(some 41), .ld false 1 (.t 40), (some (37, true)), false⟩, ⟨(some 42), .call (.f 92) [(.t 39), (.t 41)], (some (37, true)), false⟩, ⟨(some 43), .pick (.t 37) (.t 42) (.k (.bool false)), (some (28, true)), false⟩, ⟨(some 44), .mv (.t 43), (some (28, true)), false⟩, ⟨(some 45), .fa 0 (.t 1), (some (44, false)), false⟩, ⟨(some 46), .ld false 1 (.t 45), (some (44, false)), false⟩, ⟨(some 47), .bi .eql .int (.t 46) (.k (.int .u8 2)), (some (44, false)), false⟩, ⟨(some 48), .mv (.t 47), (some (44, false)), false⟩, ⟨(some 49), .fa 2 (.t 1), (some (48, true)), false⟩, ⟨(some 50), .ld false 1 (.t 49), (some (48, true)), false⟩, ⟨(some 51), .bi .eql .int (.t 50) (.k (.int .u64 0)), (some (48, true)), false⟩, ⟨(some 52), .pick (.t 48) (.t 51) (.k (.bool false)), (some (44, false)), false⟩, ⟨(some 53), .mv (.t 52), (some (44, false)), false⟩, ⟨(some 54), .fa 3 (.t 1), (some (53, true)), false⟩, ⟨(some 55), .ld false 1 (.t 54), (some (53, true)), false⟩, ⟨(some 56), .call (.f 180) [(.t 55)], (some (53, true)), false⟩, ⟨(some 57), .pick (.t 53) (.t 56) (.k (.bool false)), (some (44, false)), false⟩, ⟨(some 58), .pick (.t 44) (.k (.bool true)) (.t 57), (some (28, true)), false⟩, ox 59 (.pick (.t 28) (.t 58) (.k (.bool false))), ox 2 (.mv (.t 59))] false) .ret)) .skip)) (.seq (.reg [ox 60 (.fa 2 (.t 1)), ox 61 (.ld false 1 (.t 60)), ox 62 (.bi .eql .int (.t 61) (.k (.int .u64 0))), ox 63 (.mv (.t 62)), ⟨(some 64), .fa 3 (.t 1), (some (63, true)), false⟩, ⟨(some 65), .ld false 1 (.t 64), (some (63, true)), false⟩, ⟨(some 66), .bi .eql .str (.t 65) (.k (.str [])), (some (63, true)), false⟩, ox 67 (.pick (.t 63) (.t 66) (.k (.bool false))), ox 68 (.mv (.t 67)), ⟨(some 69), .fa 4 (.t 1), (some (68, true)), false⟩, ⟨(some 70), .ld false 1 (.t 69), (some (68, true)), false⟩, ⟨(some 71), .bi .eql .int (.t 70) (.k (.int .i64 0)), (some (68, true)), false⟩, ⟨(some 72), .mv (.t 71), (some (68, true)), false⟩, ⟨(some 73), .fa 2 (.t 3), (some (72, false)), false⟩, ⟨(some 74), .ld false 1 (.t 73), (some (72, false)), false⟩, ⟨(some 75), .bi .eql .int (.t 74) (.k (.int .i64 5)), (some (72, false)), false⟩, ⟨(some 76), .pick (.t 72) (.k (.bool true)) (.t 75), (some (68, true)), false⟩, ox 77 (.pick (.t 68) (.t 76) (.k (.bool false))), ox 78 (.mv (.t 77)), ⟨(some 79), .fa 5 (.t 1), (some (78, true)), false⟩, ⟨(some 80), .ld false 1 (.t 79), (some (78, true)), false⟩, ⟨(some 81), .len false (.t 80), (some (78, true)), false⟩, ⟨(some 82), .fa 1 (.t 3), (some (78, true)), false⟩, ⟨(some 83), .ld false 1 (.t 82), (some (78, true)), false⟩, ⟨(some 84), .bi .eql .int (.t 81) (.t 83), (some (78, true)), false⟩, ox 85 (.pick (.t 78) (.t 84) (.k (.bool false))), ox 86 (.mv (.t 85)), ⟨(some 87), .ld true 6 (.t 1), (some (86, true)), false⟩, ⟨(some 88), .fa 2 (.t 3), (some (86, true)), false⟩, ⟨(some 89), .ld false 1 (.t 88), (some (86, true)), false⟩, ⟨(some 90), .call (.f 181) [(.t 87), (.t 89)], (some (86, true)), false⟩, ox 91 (.pick (.t 86) (.t 90) (.k (.bool false))), ox 2 (.mv (.t 91))] false) .ret)))))⟩
def lp171x0 : IC := (.blk 1 (.seq (.seq (.reg [ox 12 (.fa 0 (.t 5)), ox 13 (.ld false 1 (.t 12)), ox 14 (.bi .neq .int (.t 13) (.k (.int .u8 2)))] false) (.cond (.t 14) (.exit 1) .skip)) (.seq (.seq (.reg [ox 16 (.ld false 1 (.t 4)), ox 17 (.fa 3 (.t 5)), ox 18 (.ld false 1 (.t 17)), ox 19 (.mlk true true (.int .i64 0) (.t 16) (.t 18)), ox 15 (.mv (.t 19)), ox 20 (.ext (.t 15) 0), ox 21 (.ext (.t 15) 1), ox 6 (.mv (.t 20)), ox 7 (.mv (.t 21))] false) (.seq (.reg [ox 22 (.mv (.t 7)), ox 23 (.mv (.t 22)), ⟨(some 24), .mv (.t 6), (some (23, true)), false⟩, ⟨(some 25), .fa 1 (.t 5), (some (23, true)), false⟩, ⟨(some 26), .ld false 1 (.t 25), (some (23, true)), false⟩, ⟨(some 27), .bi .neq .int (.t 24) (.t 26), (some (23, true)), false⟩, ox 28 (.pick (.t 23) (.t 27) (.k (.bool false)))] false) (.cond (.t 28) (.seq (.reg [⟨none, .st 1 (.t 2) (.k .nilM), none, false⟩, ⟨none, .st 1 (.t 3) (.k (.bool false)), none, false⟩] false) .ret) .skip))) (.reg [ox 29 (.ld false 1 (.t 4)), ox 30 (.fa 3 (.t 5)), ox 31 (.ld false 1 (.t 30)), ox 32 (.fa 1 (.t 5)), ox 33 (.ld false 1 (.t 32)), ⟨none, .mup true (.t 29) (.t 31) (.t 33), none, false⟩] false))))
def ir171 : IFun := ⟨1, [.cell false 1 2, .cell false 1 3], (.seq (.reg [ox 1 (.box (.t 0)), ox 2 (.alc [.nilM]), ox 3 (.alc [.bool false])] false) (.seq (.reg [ox 8 (.mmk), ox 4 (.alc [.nilM]), ⟨none, .st 1 (.t 4) (.t 8), none, false⟩] false) (.seq (.seq (.reg [ox 9 (.ld true 6 (.t 1)), ox 10 (.call (.f 169) [(.t 9)])] false) (.blk 0 (.rng (.t 10) [11] [2, 3, 4] (.reg [ox 5 (.alc [.int .u8 0, .int .i64 0, .int .u64 0, .str [], .int .i64 0, .nilS]), ⟨none, .st 6 (.t 5) (.t 11), none, false⟩] false) lp171x0))) (.seq (.reg [ox 34 (.ld false 1 (.t 4)), ⟨none, .st 1 (.t 2) (.t 34), none, false⟩, ⟨none, .st 1 (.t 3) (.k (.bool true)), none, false⟩] false) .ret))))⟩
def lp172x0 : IC := (.seq (.seq (.reg [ox 5 (.mv (.t 4)), ox 6 (.fa 5 (.t 1)), ox 7 (.ld false 1 (.t 6)), ox 8 (.len false (.t 7)), ox 9 (.bi .lss .int (.t 5) (.t 8))] false) (.cond (.t 9) .skip (.exit 0))) (.seq (.blk 1 (.reg [ox 12 (.mv (.t 3)), ox 13 (.fa 5 (.t 1)), ox 14 (.ld false 1 (.t 13)), ox 15 (.mv (.t 4)), ox 16 (.ia 6 (.t 14) (.t 15)), ox 17 (.ld true 6 (.t 16)), ox 18 (.call (.f 172) [(.t 17)]), ox 19 (.mx false (.t 12) (.t 18)), ox 3 (.mv (.t 19))] false)) (.reg [ox 10 (.mv (.t 4)), ox 11 (.bi .add .int (.t 10) (.k (.int .i64 1))), ox 4 (.mv (.t 11))] false)))
def ir172 : IFun := ⟨1, [.t 2], (.seq (.reg [ox 1 (.box (.t 0)), ox 2 (.mv (.k (.int .i64 0)))] false) (.seq (.reg [ox 3 (.mv (.k (.int .i64 0)))] false) (.seq (.seq (.reg [ox 4 (.mv (.k (.int .i64 0)))] false) (.blk 0 (.loop [1, 3, 4] lp172x0))) (.seq (.reg [ox 20 (.mv (.t 3)), ox 21 (.bi .add .int (.t 20) (.k (.int .i64 1))), ox 2 (.mv (.t 21))] false) .ret))))⟩
end Go.Proofs.Dv
set_option maxRecDepth 100000
namespace Go.Proofs.Dv
def lp173x0 : IC := (.seq (.seq (.reg [ox 7 (.mv (.t 3)), ox 8 (.fa 5 (.t 1)), ox 9 (.ld false 1 (.t 8)), ox 10 (.len false (.t 9)), ox 11 (.bi .lss .int (.t 7) (.t 10))] false) (.cond (.t 11) .skip (.exit 0))) (.seq (.blk 1 (.seq (.reg [ox 14 (.fa 5 (.t 1)), ox 15 (.ld false 1 (.t 14)), ox 16 (.mv (.t 3)), ox 17 (.ia 6 (.t 15) (.t 16)), ox 18 (.ld true 6 (.t 17)), ox 19 (.call (.f 173) [(.t 18)]), ox 20 (.un .not (.t 19))] false) (.cond (.t 20) (.seq (.reg [ox 2 (.mv (.k (.bool false)))] false) .ret) .skip))) (.reg [ox 12 (.mv (.t 3)), ox 13 (.bi .add .int (.t 12) (.k (.int .i64 1))), ox 3 (.mv (.t 13))] false)))
def ir173 : IFun := ⟨1, [.t 2], (.seq (.reg [ox 1 (.box (.t 0)), ox 2 (.mv (.k (.bool false)))] false) (.seq (.seq (.reg [ox 3 (.mv (.k (.int .i64 0)))] false) (.blk 0 (.loop [1, 3] lp173x0))) (.seq (.reg [ox 21 (.fa 1 (.t 1)), ox 22 (.ld false 1 (.t 21)), ox 23 (.fa 5 (.t 1)), ox 24 (.ld false 1 (.t 23)), ox 25 (.len false (.t 24)), ox 4 (.mv (.t 22)), ox 5 (.mv (.t 25))] true) (.seq (.seq (.reg [ox 26 (.mv (.t 4)), ox 27 (.call (.f 182) [(.t 26)]), ox 28 (.un .not (.t 27))] false) (.cond (.t 28) (.seq (.reg [ox 2 (.mv (.k (.bool false)))] false) .ret) .skip)) (.seq (.seq (.reg [ox 29 (.fa 0 (.t 1)), ox 30 (.ld false 1 (.t 29))] false) (.blk 2 (.seq (.reg [ox 32 (.bi .eql .int (.t 30) (.k (.int .u8 1))), ox 31 (.mv (.t 32))] false) (.cond (.t 31) (.seq (.reg [ox 33 (.mv (.t 5)), ox 34 (.bi .eql .int (.t 33) (.k (.int .i64 0))), ox 35 (.mv (.t 34)), ⟨(some 36), .fa 3 (.t 1), (some (35, true)), false⟩, ⟨(some 37), .ld false 1 (.t 36), (some (35, true)), false⟩, ⟨(some 38), .bi .eql .str (.t 37) (.k (.str [])), (some (35, true)), false⟩, ox 39 (.pick (.t 35) (.t 38) (.k (.bool false))), ox 40 (.mv (.t 39)), ⟨(some 41), .fa 4 (.t 1), (some (40, true)), false⟩, ⟨(some 42), .ld false 1 (.t 41), (some (40, true)), false⟩, ⟨(some 43), .bi .eql .int (.t 42) (.k (.int .i64 0)), (some (40, true)), false⟩, ox 44 (.pick (.t 40) (.t 43) (.k (.bool false))), ox 45 (.mv (.t 44)), ⟨(some 46), .mv (.t 4), (some (45, true)), false⟩, ⟨(some 47), .fa 2 (.t 1), (some (45, true)), false⟩, ⟨(some 48), .ld false 1 (.t 47), (some (45, true)), false⟩, ⟨(some 49), .call (.f 183) [(.t 46), (.t 48)], (some (45, true)), false⟩, ox 50 (.pick (.t 45) (.t 49) (.k (.bool false))), ox 2 (.mv (.t 50))] false) .ret) (.seq (.reg [ox 52 (.bi .eql .int (.t 30) (.k (.int .u8 2))), ox 51 (.mv (.t 52))] false) (.cond (.t 51) (.seq (.reg [ox 53 (.mv (.t 5)), ox 54 (.bi .eql .int (.t 53) (.k (.int .i64 0))), ox 55 (.mv (.t 54)), ⟨(some 56), .fa 2 (.t 1), (some (55, true)), false⟩, ⟨(some 57), .ld false 1 (.t 56), (some (55, true)), false⟩, ⟨(some 58), .bi .eql .int (.t 57) (.k (.int .u64 0)), (some (55, true)), false⟩, ox 59 (.pick (.t 55) (.t 58) (.k (.bool false))), ox 60 (.mv (.t 59)), ⟨(some 61), .fa 4 (.t 1), (some (60, true)), false⟩, ⟨(some 62), .ld false 1 (.t 61), (some (60, true)), false⟩, ⟨(some 63), .bi .eql .int (.t 62) (.k (.int .i64 0)), (some (60, true)), false⟩, ox 64 (.pick (.t 60) (.t 63) (.k (.bool false))), ox 65 (.mv (.t 64)), ⟨(some 66), .fa 3 (.t 1), (some (65, true)), false⟩, ⟨(some 67), .ld false 1 (.t 66), (some (65, true)), false⟩, ⟨(some 68), .call (.f 184) [(.t 67)], (some (65, true)), false⟩, ox 69 (.pick (.t 65) (.t 68) (.k (.bool false))), ox 2 (.mv (.t 69))] false) .ret) .skip)))))) (.seq (.seq (.reg [ox 70 (.fa 0 (.t 1)), ox 71 (.ld false 1 (.t 70)), ox 72 (.bi .lss .int (.t 71) (.k (.int .u8 3))), ox 73 (.mv (.t 72)), ⟨(some 74), .fa 0 (.t 1), (some (73, false)), false⟩, ⟨(some 75), .ld false 1 (.t 74), (some (73, false)), false⟩, ⟨(some 76), .bi .gtr .int (.t 75) (.k (.int .u8 24)), (some (73, false)), false⟩, ox 77 (.pick (.t 73) (.k (.bool true)) (.t 76)), ox 78 (.mv (.t 77)), ⟨(some 79), .fa 2 (.t 1), (some (78, false)), false⟩, ⟨(some 80), .ld false 1 (.t 79), (some (78, false)), false⟩, ⟨(some 81), .bi .neq .int (.t 80) (.k (.int .u64 0)), (some (78, false)), false⟩, ox 82 (.pick (.t 78) (.k (.bool true)) (.t 81)), ox 83 (.mv (.t 82)), ⟨(some 84), .fa 3 (.t 1), (some (83, false)), false⟩, ⟨(some 85), .ld false 1 (.t 84), (some (83, false)), false⟩, ⟨(some 86), .bi .neq .str (.t 85) (.k (.str [])), (some (83, false)), false⟩, ox 87 (.pick (.t 83) (.k (.bool true)) (.t 86)), ox 88 (.mv (.t 87)), ⟨(some 89), .fa 4 (.t 1), (some (88, false)), false⟩, ⟨(some 90), .ld false 1 (.t 89), (some (88, false)), false⟩, ⟨(some 91), .bi .neq .int (.t 90) (.k (.int .i64 0)), (some (88, false)), false⟩, ⟨(some 92), .mv (.t 91), (some (88, false)), false⟩, ⟨(some 93), .fa 0 (.t 1), (some (92, true)), false⟩, ⟨(some 94), .ld false 1 (.t 93), (some (92, true)), false⟩, ⟨(some 95), .bi .neq .int (.t 94) (.k (.int .u8 21)), (some (92, true)), false⟩, ⟨(some 96), .pick (.t 92) (.t 95) (.k (.bool false)), (some (88, false)), false⟩, ox 97 (.pick (.t 88) (.k (.bool true)) (.t 96)), ox 98 (.mv (.t 97)), ⟨(some 99), .mv (.t 5), (some (98, false)), false⟩, ⟨(some 100), .bi .eql .int (.t 99) (.k (.int .i64 0)), (some (98, false)), false⟩, ox 101 (.pick (.t 98) (.k (.bool true)) (.t 100))] false) (.cond (.t 101) (.seq (.reg [ox 2 (.mv (.k (.bool false)))] false) .ret) .skip)) (.seq (.reg [ox 102 (.fa 5 (.t 1)), ox 103 (.ld false 1 (.t 102)), ox 104 (.ia 6 (.t 103) (.k (.int .i64 0))), ox 105 (.fa 1 (.t 104)), ox 106 (.ld false 1 (.t 105)), ox 6 (.mv (.t 106))] false) (.seq (.seq (.reg [ox 107 (.fa 0 (.t 1)), ox 108 (.ld false 1 (.t 107))] false) (.blk 3 (.seq (.seq (.reg [ox 110 (.bi .eql .int (.t 108) (.k (.int .u8 3))), ox 109 (.mv (.t 110))] false) (.cond (.t 109) .skip (.reg [ox 111 (.bi .eql .int (.t 108) (.k (.int .u8 4))), ox 109 (.mv (.t 111))] false))) (.cond (.t 109) (.seq (.reg [ox 112 (.mv (.t 5)), ox 113 (.bi .eql .int (.t 112) (.k (.int .i64 1))), ox 114 (.mv (.t 113)), ⟨(some 115), .mv (.t 6), (some (114, true)), false⟩, ⟨(some 116), .mv (.t 4), (some (114, true)), false⟩, ⟨(some 117), .bi .eql .int (.t 115) (.t 116), (some (114, true)), false⟩, ox 118 (.pick (.t 114) (.t 117) (.k (.bool false))), ox 2 (.mv (.t 118))] false) .ret) (.seq (.seq (.reg [ox 120 (.bi .eql .int (.t 108) (.k (.int .u8 16))), ox 119 (.mv (.t 120))] false) (.cond (.t 119) .skip (.seq (.reg [ox 121 (.bi .eql .int (.t 108) (.k (.int .u8 17))), ox 119 (.mv (.t 121))] false) (.cond (.t 119) .skip (.reg [ox 122 (.bi .eql .int (.t 108) (.k (.int .u8 18))), ox 119 (.mv (.t 122))] false))))) (.cond (.t 119) (.seq (.reg [ox 123 (.mv (.t 5)), ox 124 (.bi .eql .int (.t 123) (.k (.int .i64 2))), ox 125 (.mv (.t 124)), ⟨(some 126), .mv (.t 4), (some (125, true)), false⟩, ⟨(some 127), .bi .eql .int (.t 126) (.k (.int .i64 1)), (some (125, true)), false⟩, ox 128 (.pick (.t 125) (.t 127) (.k (.bool false))), ox 129 (.mv (.t 128)), ⟨(some 130), .fa 5 (.t 1), (some (129, true)), false⟩, ⟨(some 131), .ld false 1 (.t 130), (some (129, true)), false⟩, ⟨(some 132), .ia 6 (.t 131) (.k (.int .i64 1)), (some (129, true)), false⟩, ⟨(some 133), .fa 1 (.t 132), (some (129, true)), false⟩, ⟨(some 134), .ld false 1 (.t 133), (some (129, true)), false⟩, ⟨(some 135), .mv (.t 6), (some (129, true)), false⟩, ⟨(some 136), .bi .eql .int (.t 134) (.t 135), (some (129, true)), false⟩, ox 137 (.pick (.t 129) (.t 136) (.k (.bool false))), ox 2 (.mv (.t 137))] false) .ret) (.seq (.reg [ox 139 (.bi .eql .int (.t 108) (.k (.int .u8 19))), ox 138 (.mv (.t 139))] false) (.cond (.t 138) (.seq (.reg [ox 140 (.mv (.t 5)), ox 141 (.bi .eql .int (.t 140) (.k (.int .i64 3))), ox 142 (.mv (.t 141)), ⟨(some 143), .mv (.t 6), (some (142, true)), false⟩, ⟨(some 144), .bi .eql .int (.t 143) (.k (.int .i64 1)), (some (142, true)), false⟩, ox 145 (.pick (.t 142) (.t 144) (.k (.bool false))), ox 146 (.mv (.t 145)), ⟨(some 147), .fa 5 (.t 1), (some (146, true)), false⟩, ⟨(some 148), .ld false 1 (.t 147), (some (146, true)), false⟩, ⟨(some 149), .ia 6 (.t 148) (.k (.int .i64 1)), (some (146, true)), false⟩, ⟨(some 150), .fa 1 (.t 149), (some (146, true)), false⟩, ⟨(some 151), .ld false 1 (.t 150), (some (146, true)), false⟩, ⟨(some 152), .mv (.t 4), (some (146, true)), false⟩, ⟨(some 153), .bi .eql .int (.t 151) (.t 152), (some (146, true)), false⟩, ox 154 (.pick (.t 146) (.t 153) (.k (.bool false))), ox 155 (.mv (.t 154)), ⟨(some 156), .fa 5 (.t 1), (some (155, true)), false⟩, ⟨(some 157), .ld false 1 (.t 156), (some (155, true)), false⟩, ⟨(some 158), .ia 6 (.t 157) (.k (.int .i64 2)), (some (155, true)), false⟩, ⟨(some 159), .fa 1 (.t 158), (some (155, true)), false⟩, ⟨(some 160), .ld false 1 (.t 159), (some (155, true)), false⟩, ⟨(some 161), .mv (.t 4), (some (155, true)), false⟩, ⟨(some 162), .bi .eql .int (.t 160) (.t 161), (some (155, true)), false⟩, ox 163 (.pick (.t 155) (.t 162) (.k (.bool false))), ox 2 (.mv (.t 163))] false) .ret) (.seq (.reg [ox 165 (.bi .eql .int (.t 108) (.k (.int .u8 20))), ox 164 (.mv (.t 165))] false) (.cond (.t 164) (.seq (.reg [ox 166 (.mv (.t 5)), ox 167 (.bi .eql .int (.t 166) (.k (.int .i64 2))), ox 168 (.mv (.t 167)), ⟨(some 169), .mv (.t 6), (some (168, true)), false⟩, ⟨(some 170), .fa 5 (.t 1), (some (168, true)), false⟩, ⟨(some 171), .ld false 1 (.t 170), (some (168, true)), false⟩, ⟨(some 172), .ia 6 (.t 171) (.k (.int .i64 1)), (some (168, true)), false⟩, ⟨(some 173), .fa 1 (.t 172), (some (168, true)), false⟩, ⟨(some 174), .ld false 1 (.t 173), (some (168, true)), false⟩, ⟨(some 175), .bi .add .int (.t 169) (.t 174), (some (168, true)), false⟩, ⟨(some 176), .mv (.t 4), (some (168, true)), false⟩, ⟨(some 177), .bi .eql .int (.t 175) (.t 176), (some (168, true)), false⟩, ox 178 (.pick (.t 168) (.t 177) (.k (.bool false))), ox 2 (.mv (.t 178))] false) .ret) (.seq (.reg [ox 180 (.bi .eql .int (.t 108) (.k (.int .u8 21))), ox 179 (.mv (.t 180))] false) (.cond (.t 179) (.seq (.reg [ox 181 (.mv (.t 5)), ox 182 (.bi .eql .int (.t 181) (.k (.int .i64 1))), ox 183 (.mv (.t 182)), ⟨(some 184), .fa 4 (.t 1), (some (183, true)), false⟩, ⟨(some 185), .ld false 1 (.t 184), (some (183, true)), false⟩, ⟨(some 186), .bi .geq .int (.t 185) (.k (.int .i64 0)), (some (183, true)), false⟩, ox 187 (.pick (.t 183) (.t 186) (.k (.bool false))), ox 188 (.mv (.t 187)), ⟨(some 189), .fa 4 (.t 1), (some (188, true)), false⟩, ⟨(some 190), .ld false 1 (.t 189), (some (188, true)), false⟩, ⟨(some 191), .mv (.t 6), (some (188, true)), false⟩, ⟨(some 192), .bi .leq .int (.t 190) (.t 191), (some (188, true)), false⟩, ox 193 (.pick (.t 188) (.t 192) (.k (.bool false))), ox 194 (.mv (.t 193)), ⟨(some 195), .fa 4 (.t 1), (some (194, true)), false⟩, ⟨(some 196), .ld false 1 (.t 195), (some (194, true)), false⟩, ⟨(some 197), .mv (.t 4), (some (194, true)), false⟩, ⟨(some 198), .bi .add .int (.t 196) (.t 197), (some (194, true)), false⟩, ⟨(some 199), .mv (.t 6), (some (194, true)), false⟩, ⟨(some 200), .bi .leq .int (.t 198) (.t 199), (some (194, true)), false⟩, ox 201 (.pick (.t 194) (.t 200) (.k (.bool false))), ox 2 (.mv (.t 201))] false) .ret) (.seq (.seq (.reg [ox 203 (.bi .eql .int (.t 108) (.k (.int .u8 22))), ox 202 (.mv (.t 203))] false) (.cond (.t 202) .skip (.reg [ox 204 (.bi .eql .int (.t 108) (.k (.int .u8 23))), ox 202 (.mv (.t 204))] false))) (.cond (.t 202) (.seq (.reg [ox 205 (.mv (.t 5)), ox 206 (.bi .eql .int (.t 205) (.k (.int .i64 1))), ox 207 (.mv (.t 206)), ⟨(some 208), .mv (.t 6), (some (207, true)), false⟩, ⟨(some 209), .mv (.t 4), (some (207, true)), false⟩, ⟨(some 210), .bi .leq .int (.t 208) (.t 209), (some (207, true)), false⟩, ox 211 (.pick (.t 207) (.t 210) (.k (.bool false))), ox 2 (.mv (.t 211))] false) .ret) (.seq (.reg [ox 213 (.bi .eql .int (.t 108) (.k (.int .u8 24))), ox 212 (.mv (.t 213))] false) (.cond (.t 212) (.seq (.reg [ox 214 (.mv (.t 5)), ox 215 (.bi .eql .int (.t 214) (.k (.int .i64 1))), ox 216 (.mv (.t 215)), ⟨(some 217), .mv (.t 4), (some (216, true)), false⟩, ⟨(some 218), .call (.f 185) [(.t 217)], (some (216, true)), false⟩, ox 219 (.pick (.t 216) (.t 218) (.k (.bool false))), ox 2 (.mv (.t 219))] false) .ret) .skip)))))))))))))))) (.seq (.reg [ox 220 (.mv (.t 5)), ox 221 (.bi .eql .int (.t 220) (.k (.int .i64 2))), ox 222 (.mv (.t 221)), ⟨(some 223), .mv (.t 6), (some (222, true)), false⟩, ⟨(some 224), .mv (.t 4), (some (222, true)), false⟩, ⟨(some 225), .bi .eql .int (.t 223) (.t 224), (some (222, true)), false⟩, ox 226 (.pick (.t 222) (.t 225) (.k (.bool false))), ox 227 (.mv (.t 226)), ⟨(some 228), .fa 5 (.t 1), (some (227, true)), false⟩, ⟨(some 229), .ld false 1 (.t 228), (some (227, true)), false⟩, ⟨(some 230), .ia 6 (.t 229) (.k (.int .i64 1)), (some (227, true)), false⟩, ⟨(some 231), .fa 1 (.t 230), (some (227, true)), false⟩, ⟨(some 232), .ld false 1 (.t 231), (some (227, true)), false⟩, ⟨(some 233), .mv (.t 4), (some (227, true)), false⟩, ⟨(some 234), .bi .eql .int (.t 232) (.t 233), (some (227, true)), false⟩, ox 235 (.pick (.t 227) (.t 234) (.k (.bool false))), ox 2 (.mv (.t 235))] false) .ret)))))))))⟩
def lp174x0 : IC := (.seq (.seq (.reg [ox 16 (.mv (.t 4)), ox 17 (.fa 5 (.t 1)), ox 18 (.ld false 1 (.t 17)), ox 19 (.len false (.t 18)), ox 20 (.bi .lss .int (.t 16) (.t 19))] false) (.cond (.t 20) .skip (.exit 0))) (.seq (.blk 1 (.reg [ox 23 (.mv (.t 3)), ox 24 (.fa 5 (.t 1)), ox 25 (.ld false 1 (.t 24)), ox 26 (.mv (.t 4)), ox 27 (.ia 6 (.t 25) (.t 26)), ox 28 (.ld true 6 (.t 27)), ox 29 (.call (.f 174) [(.t 28)]), ox 30 (.app 3 32 (.t 23) (.t 29)), ox 3 (.mv (.t 30))] false)) (.reg [ox 21 (.mv (.t 4)), ox 22 (.bi .add .int (.t 21) (.k (.int .i64 1))), ox 4 (.mv (.t 22))] false)))
def ir174 : IFun := ⟨1, [.t 2], (.seq (.reg [ox 1 (.box (.t 0)), ox 2 (.mv (.k .nilS))] false) (.seq (.reg [ox 3 (.mv (.k .nilS))] false) (.own 3 3 (.seq (.seq (.reg [ox 5 (.fa 0 (.t 1)), ox 6 (.ld false 1 (.t 5)), ox 7 (.bi .eql .int (.t 6) (.k (.int .u8 2)))] false) (.cond (.t 7) (.reg [ox 8 (.mv (.t 3)), ox 9 (.fa 3 (.t 1)), ox 10 (.ld false 1 (.t 9)), ox 11 (.fa 1 (.t 1)), ox 12 (.ld false 1 (.t 11)), ox 13 (.bld [.str [], .int .i64 0, .int .u64 0] [(0, 1, (.t 10)), (1, 1, (.t 12))]), ox 14 (.bsl 3 [.str [], .int .i64 0, .int .u64 0] 1 [(0, (.t 13))]), ox 15 (.app 3 32 (.t 8) (.t 14)), ox 3 (.mv (.t 15))] false) .skip)) (.seq (.seq (.reg [ox 4 (.mv (.k (.int .i64 0)))] false) (.blk 0 (.loop [1, 3, 4] lp174x0))) (.seq (.reg [ox 31 (.mv (.t 3)), ox 2 (.mv (.t 31))] false) .ret))))))⟩
def lp175x0 : IC := (.seq (.seq (.reg [ox 17 (.mv (.t 9)), ox 18 (.fa 3 (.t 5)), ox 19 (.ld false 1 (.t 18)), ox 20 (.len false (.t 19)), ox 21 (.bi .lss .int (.t 17) (.t 20))] false) (.cond (.t 21) .skip (.exit 0))) (.seq (.blk 1 (.seq (.reg [ox 24 (.fa 3 (.t 5)), ox 25 (.ld false 1 (.t 24)), ox 26 (.mv (.t 9)), ox 27 (.ia 6 (.t 25) (.t 26)), ox 28 (.fa 0 (.t 27)), ox 29 (.ld false 1 (.t 28)), ox 30 (.mv (.t 2)), ox 31 (.bi .eql .str (.t 29) (.t 30))] false) (.cond (.t 31) (.seq (.reg [⟨(some 32), .mv (.t 3), none, true⟩, ox 33 (.ld true 7 (.t 4)), ox 34 (.fa 3 (.t 5)), ox 35 (.ld false 1 (.t 34)), ox 36 (.mv (.t 9)), ox 37 (.ia 6 (.t 35) (.t 36)), ox 38 (.ld true 6 (.t 37)), ox 39 (.call (.f 156) [(.t 33), (.t 38)]), ox 40 (.bi .eql .int (.t 32) (.t 39)), ox 8 (.mv (.t 40))] true) .ret) .skip))) (.reg [ox 22 (.mv (.t 9)), ox 23 (.bi .add .int (.t 22) (.k (.int .i64 1))), ox 9 (.mv (.t 23))] false)))
def lp175x1 : IC := (.seq (.seq (.reg [ox 41 (.mv (.t 10)), ox 42 (.fa 3 (.t 4)), ox 43 (.ld false 1 (.t 42)), ox 44 (.len false (.t 43)), ox 45 (.bi .lss .int (.t 41) (.t 44))] false) (.cond (.t 45) .skip (.exit 2))) (.seq (.blk 3 (.seq (.reg [ox 48 (.fa 3 (.t 4)), ox 49 (.ld false 1 (.t 48)), ox 50 (.mv (.t 10)), ox 51 (.ia 4 (.t 49) (.t 50)), ox 52 (.fa 0 (.t 51)), ox 53 (.ld false 1 (.t 52)), ox 54 (.bi .add .str (.k (.str [114, 46])) (.t 53)), ox 55 (.mv (.t 2)), ox 56 (.bi .eql .str (.t 54) (.t 55))] false) (.cond (.t 56) (.seq (.reg [ox 57 (.mv (.t 3)), ox 58 (.fa 3 (.t 4)), ox 59 (.ld false 1 (.t 58)), ox 60 (.mv (.t 10)), ox 61 (.ia 4 (.t 59) (.t 60)), ox 62 (.fa 1 (.t 61)), ox 63 (.ld false 1 (.t 62)), ox 64 (.bi .eql .int (.t 57) (.t 63)), ox 8 (.mv (.t 64))] false) .ret) .skip))) (.reg [ox 46 (.mv (.t 10)), ox 47 (.bi .add .int (.t 46) (.k (.int .i64 1))), ox 10 (.mv (.t 47))] false)))
def ir175 : IFun := ⟨4, [.t 8], (.seq (.reg [ox 4 (.box (.t 0)), ox 5 (.box (.t 1)), ox 8 (.mv (.k (.bool false)))] false) (.seq (.seq (.reg [ox 11 (.mv (.t 2)), ox 12 (.bi .eql .str (.t 11) (.k (.str [112, 99])))] false) (.cond (.t 12) (.seq (.reg [ox 13 (.mv (.t 3)), ox 14 (.fa 2 (.t 4)), ox 15 (.ld false 1 (.t 14)), ox 16 (.bi .eql .int (.t 13) (.t 15)), ox 8 (.mv (.t 16))] false) .ret) .skip)) (.seq (.seq (.reg [ox 9 (.mv (.k (.int .i64 0)))] false) (.blk 0 (.loop [2, 3, 4, 5, 9] lp175x0))) (.seq (.seq (.reg [ox 10 (.mv (.k (.int .i64 0)))] false) (.blk 2 (.loop [2, 3, 4, 10] lp175x1))) (.seq (.reg [ox 8 (.mv (.k (.bool false)))] false) .ret)))))⟩
def ir176 : IFun := ⟨2, [], (.reg [ox 3 (.ld true 6 (.t 1)), ox 4 (.mv (.t 0)), ox 5 (.call (.f 177) [(.t 3), (.t 4)])] false)⟩
def lp177x0 : IC := (.seq (.reg [ox 15 (.bi .lss .int (.t 14) (.t 13))] false) (.seq (.cond (.t 15) .skip (.exit 0)) (.seq (.blk 1 (.seq (.reg [ox 16 (.ia 6 (.t 12) (.t 14)), ox 17 (.ld true 6 (.t 16)), ox 6 (.alc [.int .u8 0, .int .i64 0, .int .u64 0, .str [], .int .i64 0, .nilS]), ⟨none, .st 6 (.t 6) (.t 17), none, false⟩] false) (.seq (.reg [ox 18 (.ld true 6 (.t 6)), ox 19 (.mv (.t 1)), ox 20 (.call (.f 177) [(.t 18), (.t 19)]), ox 21 (.un .not (.t 20))] false) (.cond (.t 21) (.seq (.reg [ox 4 (.mv (.k (.bool false)))] false) .ret) .skip)))) (.reg [ox 22 (.bi .add .int (.t 14) (.k (.int .i64 1))), ox 14 (.mv (.t 22))] false))))
def ir177 : IFun := ⟨2, [.t 4], (.seq (.reg [ox 2 (.box (.t 0)), ox 4 (.mv (.k (.bool false)))] false) (.seq (.seq (.reg [ox 7 (.mv (.t 1)), ox 8 (.ld true 6 (.t 2)), ox 9 (.call (.t 7) [(.t 8)]), ox 10 (.un .not (.t 9))] false) (.cond (.t 10) (.seq (.reg [ox 4 (.mv (.k (.bool false)))] false) .ret) .skip)) (.seq (.seq (.reg [ox 11 (.fa 5 (.t 2)), ox 12 (.ld false 1 (.t 11)), ox 13 (.len false (.t 12)), ox 14 (.mv (.k (.int .i64 0)))] false) (.blk 0 (.loop [1, 12, 13, 14] lp177x0))) (.seq (.reg [ox 4 (.mv (.k (.bool true)))] false) .ret))))⟩
def ir178 : IFun := ⟨1, [.t 2], (.seq (.reg [ox 2 (.mv (.k (.bool false)))] false) (.seq (.reg [ox 3 (.mv (.t 0)), ox 4 (.bi .geq .int (.t 3) (.k (.int .i64 1))), ox 5 (.mv (.t 4)), ⟨(some 6), .mv (.t 0), (some (5, true)), false⟩, ⟨(some 7), .bi .leq .int (.t 6) (.k (.int .i64 64)), (some (5, true)), false⟩, ox 8 (.pick (.t 5) (.t 7) (.k (.bool false))), ox 2 (.mv (.t 8))] false) .ret))⟩
def ir179 : IFun := ⟨1, [.cell true 3 2, .t 3], (.seq (.reg [ox 2 (.alc [.str [], .int .i64 0, .int .i64 0]), ox 3 (.mv (.k (.bool false)))] false) (.seq (.seq (.reg [ox 4 (.mv (.t 0)), ox 5 (.bi .gtr .int (.t 4) (.k (.int .u8 24)))] false) (.cond (.t 5) (.seq (.reg [ox 6 (.bld [.str [], .int .i64 0, .int .i64 0] []), ⟨none, .st 3 (.t 2) (.t 6), none, false⟩, ox 3 (.mv (.k (.bool false)))] false) .ret) .skip)) (.seq (.reg [ox 7 (.mv (.t 0)), ox 8 (.iaa 25 3 (.g 0) (.t 7)), ox 9 (.ld true 3 (.t 8)), ⟨(some 10), .mv (.t 0), none, true⟩, ⟨(some 11), .iaa 25 3 (.g 0) (.t 10), none, true⟩, ⟨(some 12), .fa 1 (.t 11), none, true⟩, ⟨(some 13), .ld false 1 (.t 12), none, true⟩, ⟨(some 14), .bi .gtr .int (.t 13) (.k (.int .i64 0)), none, true⟩, ⟨none, .st 3 (.t 2) (.t 9), none, false⟩, ox 3 (.mv (.t 14))] true) .ret)))⟩
def ir180 : IFun := ⟨1, [.t 2], (.seq (.reg [ox 2 (.mv (.k (.bool false)))] false) (.seq (.reg [ox 3 (.mv (.t 0)), ox 4 (.call (.f 186) [(.t 3), (.k (.str [114, 46]))]), ox 5 (.call (.f 57) [(.t 4)]), ox 2 (.mv (.t 5))] false) .ret))⟩
def ir181 : IFun := ⟨2, [.t 4], (.seq (.reg [ox 2 (.box (.t 0)), ox 4 (.mv (.k (.bool false)))] false) (.seq (.reg [ox 7 (.fa 1 (.t 2)), ox 8 (.ld false 1 (.t 7)), ox 5 (.alc [.int .i64 0]), ⟨none, .st 1 (.t 5) (.t 8), none, false⟩] false) (.seq (.reg [ox 9 (.fa 5 (.t 2)), ox 10 (.ld false 1 (.t 9)), ox 11 (.ia 6 (.t 10) (.k (.int .i64 0))), ox 12 (.fa 1 (.t 11)), ox 13 (.ld false 1 (.t 12)), ox 6 (.mv (.t 13))] false) (.seq (.seq (.reg [ox 14 (.mv (.t 1))] false) (.blk 0 (.seq (.reg [ox 16 (.bi .eql .int (.t 14) (.k (.int .i64 1))), ox 15 (.mv (.t 16))] false) (.cond (.t 15) (.seq (.reg [ox 17 (.fa 5 (.t 2)), ox 18 (.ld false 1 (.t 17)), ox 19 (.mkf 188 [(.t 5)]), ox 20 (.call (.f 187) [(.t 18), (.t 19)]), ox 21 (.un .not (.t 20)), ox 4 (.mv (.t 21))] false) .ret) (.seq (.reg [ox 23 (.bi .eql .int (.t 14) (.k (.int .i64 2))), ox 22 (.mv (.t 23))] false) (.cond (.t 22) (.seq (.reg [ox 24 (.ld false 1 (.t 5)), ox 25 (.bi .eql .int (.t 24) (.k (.int .i64 1))), ox 26 (.mv (.t 25)), ⟨(some 27), .fa 5 (.t 2), (some (26, true)), false⟩, ⟨(some 28), .ld false 1 (.t 27), (some (26, true)), false⟩, ⟨(some 29), .ia 6 (.t 28) (.k (.int .i64 1)), (some (26, true)), false⟩, ⟨(some 30), .fa 1 (.t 29), (some (26, true)), false⟩, ⟨(some 31), .ld false 1 (.t 30), (some (26, true)), false⟩, ⟨(some 32), .mv (.t 6), (some (26, true)), false⟩, ⟨(some 33), .bi .eql .int (.t 31) (.t 32), (some (26, true)), false⟩, ox 34 (.pick (.t 26) (.t 33) (.k (.bool false))), ox 4 (.mv (.t 34))] false) .ret) (.seq (.reg [ox 36 (.bi .eql .int (.t 14) (.k (.int .i64 3))), ox 35 (.mv (.t 36))] false) (.cond (.t 35) (.seq (.reg [ox 37 (.mv (.t 6)), ox 38 (.bi .eql .int (.t 37) (.k (.int .i64 1))), ox 39 (.mv (.t 38)), ⟨(some 40), .fa 5 (.t 2), (some (39, true)), false⟩, ⟨(some 41), .ld false 1 (.t 40), (some (39, true)), false⟩, ⟨(some 42), .ia 6 (.t 41) (.k (.int .i64 1)), (some (39, true)), false⟩, ⟨(some 43), .fa 1 (.t 42), (some (39, true)), false⟩, ⟨(some 44), .ld false 1 (.t 43), (some (39, true)), false⟩, ⟨(some 45), .ld false 1 (.t 5), (some (39, true)), false⟩, ⟨(some 46), .bi .eql .int (.t 44) (.t 45), (some (39, true)), false⟩, ox 47 (.pick (.t 39) (.t 46) (.k (.bool false))), ox 48 (.mv (.t 47)), ⟨(some 49), .fa 5 (.t 2), (some (48, true)), false⟩, ⟨(some 50), .ld false 1 (.t 49), (some (48, true)), false⟩, ⟨(some 51), .ia 6 (.t 50) (.k (.int .i64 2)), (some (48, true)), false⟩, ⟨(some 52), .fa 1 (.t 51), (some (48, true)), false⟩, ⟨(some 53), .ld false 1 (.t 52), (some (48, true)), false⟩, ⟨(some 54), .ld false 1 (.t 5), (some (48, true)), false⟩, ⟨(some 55), .bi .eql .int (.t 53) (.t 54), (some (48, true)), false⟩, ox 56 (.pick (.t 48) (.t 55) (.k (.bool false))), ox 4 (.mv (.t 56))] true) .ret) (.seq (.reg [ox 58 (.bi .eql .int (.t 14) (.k (.int .i64 4))), ox 57 (.mv (.t 58))] false) (.cond (.t 57) (.seq (.reg [ox 59 (.mv (.t 6)), ox 60 (.call (.f 178) [(.t 59)]), ox 61 (.mv (.t 60)), ⟨(some 62), .fa 5 (.t 2), (some (61, true)), false⟩, ⟨(some 63), .ld false 1 (.t 62), (some (61, true)), false⟩, ⟨(some 64), .ia 6 (.t 63) (.k (.int .i64 1)), (some (61, true)), false⟩, ⟨(some 65), .fa 1 (.t 64), (some (61, true)), false⟩, ⟨(some 66), .ld false 1 (.t 65), (some (61, true)), false⟩, ⟨(some 67), .call (.f 178) [(.t 66)], (some (61, true)), false⟩, ox 68 (.pick (.t 61) (.t 67) (.k (.bool false))), ox 69 (.mv (.t 68)), ⟨(some 70), .mv (.t 6), (some (69, true)), false⟩, ⟨(some 71), .fa 5 (.t 2), (some (69, true)), false⟩, ⟨(some 72), .ld false 1 (.t 71), (some (69, true)), false⟩, ⟨(some 73), .ia 6 (.t 72) (.k (.int .i64 1)), (some (69, true)), false⟩, ⟨(some 74), .fa 1 (.t 73), (some (69, true)), false⟩, ⟨(some 75), .ld false 1 (.t 74), (some (69, true)), false⟩, ⟨(some 76), .bi .add .int (.t 70) (.t 75), (some (69, true)), false⟩, ⟨(some 77), .ld false 1 (.t 5), (some (69, true)), false⟩, ⟨(some 78), .bi .eql .int (.t 76) (.t 77), (some (69, true)), false⟩, ox 79 (.pick (.t 69) (.t 78) (.k (.bool false))), ox 4 (.mv (.t 79))] true) .ret) (.seq (.reg [ox 81 (.bi .eql .int (.t 14) (.k (.int .i64 5))), ox 80 (.mv (.t 81))] false) (.cond (.t 80) (.seq (.reg [ox 82 (.fa 4 (.t 2)), ox 83 (.ld false 1 (.t 82)), ox 84 (.bi .geq .int (.t 83) (.k (.int .i64 0))), ox 85 (.mv (.t 84)), ⟨(some 86), .mv (.t 6), (some (85, true)), false⟩, ⟨(some 87), .call (.f 178) [(.t 86)], (some (85, true)), false⟩, ox 88 (.pick (.t 85) (.t 87) (.k (.bool false))), ox 89 (.mv (.t 88)), ⟨(some 90), .ld false 1 (.t 5), (some (89, true)), false⟩, ⟨(some 91), .mv (.t 6), (some (89, true)), false⟩, ⟨(some 92), .bi .leq .int (.t 90) (.t 91), (some (89, true)), false⟩, ox 93 (.pick (.t 89) (.t 92) (.k (.bool false))), ox 94 (.mv (.t 93)), ⟨(some 95), .fa 4 (.t 2), (some (94, true)), false⟩, ⟨(some 96), .ld false 1 (.t 95), (some (94, true)), false⟩, ⟨(some 97), .mv (.t 6), (some (94, true)), false⟩, ⟨(some 98), .ld false 1 (.t 5), (some (94, true)), false⟩, ⟨(some 99), .bi .sub .int (.t 97) (.t 98), (some (94, true)), false⟩, ⟨(some 100), .bi .leq .int (.t 96) (.t 99), (some (94, true)), false⟩, ox 101 (.pick (.t 94) (.t 100) (.k (.bool false))), ox 4 (.mv (.t 101))] false) .ret) (.seq (.reg [ox 103 (.bi .eql .int (.t 14) (.k (.int .i64 6))), ox 102 (.mv (.t 103))] false) (.cond (.t 102) (.seq (.reg [ox 104 (.mv (.t 6)), ox 105 (.ld false 1 (.t 5)), ox 106 (.bi .leq .int (.t 104) (.t 105)), ox 4 (.mv (.t 106))] false) .ret) .skip)))))))))))))) (.seq (.reg [ox 107 (.ld false 1 (.t 5)), ox 108 (.call (.f 189) [(.t 107)]), ox 4 (.mv (.t 108))] false) .ret)))))⟩
def ir182 : IFun := ⟨1, [.t 2], (.seq (.reg [ox 2 (.mv (.k (.bool false)))] false) (.seq (.reg [ox 3 (.mv (.t 0)), ox 4 (.bi .geq .int (.t 3) (.k (.int .i64 1))), ox 5 (.mv (.t 4)), ⟨(some 6), .mv (.t 0), (some (5, true)), false⟩, ⟨(some 7), .bi .leq .int (.t 6) (.k (.int .i64 64)), (some (5, true)), false⟩, ox 8 (.pick (.t 5) (.t 7) (.k (.bool false))), ox 2 (.mv (.t 8))] false) .ret))⟩
def ir183 : IFun := ⟨2, [.t 4], (.seq (.reg [ox 4 (.mv (.k (.bool false)))] false) (.seq (.reg [ox 5 (.mv (.t 0)), ox 6 (.call (.f 182) [(.t 5)]), ox 7 (.mv (.t 6)), ⟨(some 8), .mv (.t 0), (some (7, true)), false⟩, ⟨(some 9), .bi .eql .int (.t 8) (.k (.int .i64 64)), (some (7, true)), false⟩, ⟨(some 10), .mv (.t 9), (some (7, true)), false⟩, ⟨(some 11), .mv (.t 1), (some (10, false)), false⟩, ⟨(some 12), .mv (.t 0), (some (10, false)), false⟩, ⟨(some 13), .call (.f 190) [(.t 12)], (some (10, false)), false⟩, ⟨(some 14), .bi .lss .int (.t 11) (.t 13), (some (10, false)), false⟩, ⟨(some 15), .pick (.t 10) (.k (.bool true)) (.t 14), (some (7, true)), false⟩, ox 16 (.pick (.t 7) (.t 15) (.k (.bool false))), ox 4 (.mv (.t 16))] false) .ret))⟩
def ir184 : IFun := ⟨1, [.t 2], (.seq (.reg [ox 2 (.mv (.k (.bool false)))] false) (.seq (.seq (.reg [ox 3 (.mv (.t 0)), ox 4 (.len true (.t 3)), ox 5 (.bi .gtr .int (.t 4) (.k (.int .i64 2))), ox 6 (.mv (.t 5)), ⟨(some 7), .mv (.t 0), (some (6, true)), false⟩, ⟨(some 8), .sls (.t 7) none (some (.k (.int .i64 2))), (some (6, true)), false⟩, ⟨(some 9), .bi .eql .str (.t 8) (.k (.str [114, 46])), (some (6, true)), false⟩, ox 10 (.pick (.t 6) (.t 9) (.k (.bool false)))] false) (.cond (.t 10) (.seq (.reg [ox 11 (.mv (.t 0)), ox 12 (.sls (.t 11) (some (.k (.int .i64 2))) none), ox 13 (.call (.f 65) [(.t 12)]), ox 2 (.mv (.t 13))] false) .ret) .skip)) (.seq (.reg [ox 14 (.mv (.t 0)), ox 15 (.call (.f 65) [(.t 14)]), ox 2 (.mv (.t 15))] false) .ret)))⟩
def ir185 : IFun := ⟨1, [.t 2], (.seq (.reg [ox 2 (.mv (.k (.bool false)))] false) (.seq (.reg [ox 3 (.mv (.t 0)), ox 4 (.bi .eql .int (.t 3) (.k (.int .i64 8))), ox 5 (.mv (.t 4)), ⟨(some 6), .mv (.t 0), (some (5, false)), false⟩, ⟨(some 7), .bi .eql .int (.t 6) (.k (.int .i64 16)), (some (5, false)), false⟩, ox 8 (.pick (.t 5) (.k (.bool true)) (.t 7)), ox 9 (.mv (.t 8)), ⟨(some 10), .mv (.t 0), (some (9, false)), false⟩, ⟨(some 11), .bi .eql .int (.t 10) (.k (.int .i64 32)), (some (9, false)), false⟩, ox 12 (.pick (.t 9) (.k (.bool true)) (.t 11)), ox 13 (.mv (.t 12)), ⟨(some 14), .mv (.t 0), (some (13, false)), false⟩, ⟨(some 15), .bi .eql .int (.t 14) (.k (.int .i64 64)), (some (13, false)), false⟩, ox 16 (.pick (.t 13) (.k (.bool true)) (.t 15)), ox 2 (.mv (.t 16))] false) .ret))⟩
def ir186 : IFun := ⟨2, [.t 4], (.seq (.reg [ox 4 (.mv (.k (.str [])))] false) (.seq (.reg [ox 5 (.mv (.t 0)), ox 6 (.mv (.t 1)), ox 7 (.call (.f 191) [(.t 5), (.t 6)]), ox 4 (.mv (.t 7))] false) .ret))⟩
def ir187 : IFun := ⟨2, [.t 4], (.seq (.reg [ox 4 (.mv (.k (.bool false)))] false) (.seq (.reg [ox 5 (.mv (.t 0)), ox 6 (.mv (.t 1)), ox 7 (.call (.f 192) [(.t 5), (.t 6)]), ox 8 (.bi .geq .int (.t 7) (.k (.int .i64 0))), ox 4 (.mv (.t 8))] false) .ret))⟩
def ir188 : IFun := ⟨2, [.t 3], (.seq (.reg [ox 2 (.box (.t 0)), ox 3 (.mv (.k (.bool false)))] false) (.seq (.reg [ox 4 (.fa 1 (.t 2)), ox 5 (.ld false 1 (.t 4)), ox 6 (.ld false 1 (.t 1)), ox 7 (.bi .neq .int (.t 5) (.t 6)), ox 3 (.mv (.t 7))] false) .ret))⟩
def ir189 : IFun := ⟨1, [.t 2], (.seq (.reg [ox 2 (.mv (.k (.bool false)))] false) (.seq (.reg [ox 3 (.mv (.t 0)), ox 4 (.bi .eql .int (.t 3) (.k (.int .i64 8))), ox 5 (.mv (.t 4)), ⟨(some 6), .mv (.t 0), (some (5, false)), false⟩, ⟨(some 7), .bi .eql .int (.t 6) (.k (.int .i64 16)), (some (5, false)), false⟩, ox 8 (.pick (.t 5) (.k (.bool true)) (.t 7)), ox 9 (.mv (.t 8)), ⟨(some 10), .mv (.t 0), (some (9, false)), false⟩, ⟨(some 11), .bi .eql .int (.t 10) (.k (.int .i64 32)), (some (9, false)), false⟩, ox 12 (.pick (.t 9) (.k (.bool true)) (.t 11)), ox 13 (.mv (.t 12)), ⟨(some 14), .mv (.t 0), (some (13, false)), false⟩, ⟨(some 15), .bi .eql .int (.t 14) (.k (.int .i64 64)), (some (13, false)), false⟩, ox 16 (.pick (.t 13) (.k (.bool true)) (.t 15)), ox 2 (.mv (.t 16))] false) .ret))⟩
def lp190x0 : IC := (.seq (.seq (.reg [ox 5 (.mv (.t 4)), ox 6 (.mv (.t 0)), ox 7 (.bi .lss .int (.t 5) (.t 6))] false) (.cond (.t 7) .skip (.exit 0))) (.seq (.blk 1 (.reg [ox 10 (.mv (.t 3)), ox 11 (.mv (.t 3)), ox 12 (.bi .add .int (.t 10) (.t 11)), ox 3 (.mv (.t 12))] false)) (.reg [ox 8 (.mv (.t 4)), ox 9 (.bi .add .int (.t 8) (.k (.int .i64 1))), ox 4 (.mv (.t 9))] false)))
def ir190 : IFun := ⟨1, [.t 2], (.seq (.reg [ox 2 (.mv (.k (.int .u64 0)))] false) (.seq (.reg [ox 3 (.mv (.k (.int .u64 1)))] false) (.seq (.seq (.reg [ox 4 (.mv (.k (.int .i64 0)))] false) (.blk 0 (.loop [0, 3, 4] lp190x0))) (.seq (.reg [ox 13 (.mv (.t 3)), ox 2 (.mv (.t 13))] false) .ret))))⟩
def ir191 : IFun := ⟨2, [.t 4], (.seq (.reg [ox 4 (.mv (.k (.str [])))] false) (.seq (.seq (.reg [ox 5 (.mv (.t 0)), ox 6 (.mv (.t 1)), ox 7 (.call (.f 193) [(.t 5), (.t 6)])] false) (.cond (.t 7) (.seq (.reg [ox 8 (.mv (.t 0)), ox 9 (.mv (.t 1)), ox 10 (.len true (.t 9)), ox 11 (.sls (.t 8) (some (.t 10)) none), ox 4 (.mv (.t 11))] false) .ret) .skip)) (.seq (.reg [ox 12 (.mv (.t 0)), ox 4 (.mv (.t 12))] false) .ret)))⟩
def lp192x0 : IC := (.seq (.reg [ox 9 (.bi .lss .int (.t 8) (.t 7))] false) (.seq (.cond (.t 9) .skip (.exit 0)) (.seq (.blk 1 (.seq (.reg [ox 10 (.mv (.t 8)), ox 5 (.mv (.t 10))] false) (.seq (.reg [ox 11 (.mv (.t 1)), ox 12 (.mv (.t 0)), ox 13 (.mv (.t 5)), ox 14 (.ia 6 (.t 12) (.t 13)), ox 15 (.ld true 6 (.t 14)), ox 16 (.call (.t 11) [(.t 15)])] false) (.cond (.t 16) (.seq (.reg [ox 17 (.mv (.t 5)), ox 4 (.mv (.t 17))] false) .ret) .skip)))) (.reg [ox 18 (.bi .add .int (.t 8) (.k (.int .i64 1))), ox 8 (.mv (.t 18))] false))))
def ir192 : IFun := ⟨2, [.t 4], (.seq (.reg [ox 4 (.mv (.k (.int .i64 0)))] false) (.seq (.seq (.reg [ox 6 (.mv (.t 0)), ox 7 (.len false (.t 6)), ox 8 (.mv (.k (.int .i64 0)))] false) (.blk 0 (.loop [0, 1, 7, 8] lp192x0))) (.seq (.reg [ox 4 (.mv (.k (.int .i64 (-1))))] false) .ret)))⟩
def ir193 : IFun := ⟨2, [.t 4], (.seq (.reg [ox 4 (.mv (.k (.bool false)))] false) (.seq (.reg [ox 5 (.mv (.t 0)), ox 6 (.len true (.t 5)), ox 7 (.mv (.t 1)), ox 8 (.len true (.t 7)), ox 9 (.bi .geq .int (.t 6) (.t 8)), ox 10 (.mv (.t 9)), ⟨(some 11), .mv (.t 0), (some (10, true)), false⟩, ⟨(some 12), .mv (.t 1), (some (10, true)), false⟩, ⟨(some 13), .len true (.t 12), (some (10, true)), false⟩, ⟨(some 14), .sls (.t 11) none (some (.t 13)), (some (10, true)), false⟩, ⟨(some 15), .mv (.t 1), (some (10, true)), false⟩, ⟨(some 16), .bi .eql .str (.t 14) (.t 15), (some (10, true)), false⟩, ox 17 (.pick (.t 10) (.t 16) (.k (.bool false))), ox 4 (.mv (.t 17))] false) .ret))⟩
end Go.Proofs.Dv
set_option linter.unusedVariables false
set_option linter.unusedSimpArgs false
namespace Go.Proofs.Dv
open Go.RowKit
def mp0 : Mp := ⟨fun _ => 0, fun _ => .nilIface⟩
def cx0 : Ctx := ⟨fun _ => none, fun _ => none, fun _ _ _ _ => none, fun _ _ => none⟩
theorem cx0_ok (P : Program) : CtxOK P cx0 := ⟨fun f s h => by simp [cx0] at h, fun f ds hp nx d hp' nx' h => by simp [cx0] at h, fun gf caps xs h => by simp [cx0] at h⟩
def Fz (T : Nat → Nat → Prop) (nt : Nat) (fr : List (Nat × D)) (a : Act) (W : World) : Prop :=
  (∀ b o, T b o → b < W.heap.size) ∧ FRel T W.heap.size mp0 [] 0 W fr a ∧ a.tmps.size = nt ∧ a.defers = []
def newT (T : Nat → Nat → Prop) (W W' : World) : Nat → Nat → Prop := fun b o => T b o ∨ (W.heap.size ≤ b ∧ b < W'.heap.size)
def fzD (hp : List (Nat × Blk)) : D → D
  | .ptr id o => match lkh hp id with
    | some (.box cells) => if cl.cls cells = true then .rp (cells.drop o) else .junk
    | _ => .junk
  | d => if cl d = true then d else .junk
def fzF (σ : St) : List (Nat × D) := σ.fr.map fun p => (p.1, fzD σ.hp p.2)
theorem lkf_map {f : D → D} (hj : f .junk = .junk) : ∀ (fr : List (Nat × D)) (t : Nat), lkf (fr.map fun p => (p.1, f p.2)) t = f (lkf fr t)
  | [], t => by simp [lkf, hj]
  | (j, d) :: fr, t => by
    simp only [List.map_cons, lkf]
    split
    · rfl
    · exact lkf_map hj fr t
section
variable {P : Program} {T : Nat → Nat → Prop} {nt : Nat} {fr : List (Nat × D)} {a : Act} {W W' : World}
theorem fz_rd {m : Mp} {hp : List (Nat × Blk)} {nx : Nat} {G : Nat → Option (List D)} (hB : W.heap.size ≤ W'.heap.size) (hT : ∀ b o, T b o → b < W.heap.size) (hH : HRel T W.heap.size m hp nx W' G) {d : D} {v : Value} (hd : RdS T W.heap.size m hp nx W' d v) :
    RdS (newT T W W') W'.heap.size mp0 [] 0 W' (fzD hp d) v := by
  have hm : ∀ (hp : List (Nat × Blk)) b o, stab T W.heap.size m hp W' b o → stab (newT T W W') W'.heap.size mp0 [] W' b o := by
    rintro hp b o (⟨h1, h2⟩ | ⟨h1, h2, _⟩)
    · exact .inl ⟨by omega, .inl h2⟩
    · exact .inl ⟨h2, .inr ⟨h1, h2⟩⟩
  have closed : ∀ {d : D}, (if cl d = true then d else D.junk) = fzD hp d → RdS T W.heap.size m hp nx W' d v → RdS (newT T W W') W'.heap.size mp0 [] 0 W' (fzD hp d) v := by
    intro d he hd
    rw [← he]
    split
    · rename_i hcl
      exact (Rd.mono (fun _ _ _ _ h => h) (hm hp) _ none none v (fun E h => by cases h) (Rd.closed _ _ _ hcl hd)).open_
    · exact Rd_junk
  cases d with
  | ptr id o =>
    simp only [fzD]
    split
    · rename_i cells hl
      split
      · rename_i hcl
        have hv := (Rd_ptr.1 hd).2
        subst hv
        obtain ⟨b, o', e1, e2⟩ := Rd_rp.1 (rm_rd hH hl hcl)
        simp only [Value.pointer.injEq, Option.some.injEq, Addr.mk.injEq, and_true] at e1
        obtain ⟨rfl, rfl⟩ := e1
        have hr : Rd0 T W.heap.size m (rmh hp id) W' (.rp (cells.drop o)) (.pointer (some ⟨m.ρ id, o, none⟩)) := by
          refine Rd_rp.2 ⟨_, _, rfl, fun j hj => ?_⟩
          simp only [List.length_drop] at hj
          obtain ⟨c, c1, c2, c3, c4⟩ := e2 (o + j) (by omega)
          simp only [Nat.zero_add] at c1 c2
          exact ⟨c, c1, c2, c3, by rw [List.getElem_drop]; exact c4⟩
        exact (Rd.mono (fun _ _ _ _ h => h) (hm _) _ none none _ (fun E h => by cases h) hr).open_
      · exact Rd_junk
    · exact Rd_junk
  | _ => exact closed rfl hd
theorem Fz.rd0 (h : Fz T nt fr a W) {t : Nat} {d : D} (hd : lkf fr t = d) (hcl : cl d = true) : Rd W T none d (a.tmps.getD t undef) := by
  have := h.2.1 t
  rw [hd] at this
  refine Rd.mono (fun _ _ _ _ h => h) ?_ _ none none _ (fun E h => by cases h) (Rd.closed _ _ _ hcl this)
  rintro b o (⟨_, h⟩ | ⟨h1, h2, _⟩)
  · exact h
  · omega
theorem Fz.keep (h : Fz T nt fr a W) (hs : W.heap.size ≤ W'.heap.size) (hc : ∀ b o u, T b o → W.cell? ⟨b, o, none⟩ = some u → W'.cell? ⟨b, o, none⟩ = some u) : Fz T nt fr a W' := by
  refine ⟨fun b o ht => Nat.lt_of_lt_of_le (h.1 b o ht) hs, fun t => ?_, h.2.2.1, h.2.2.2⟩
  refine Rd.mono (fun b o u hst hcc => ?_) ?_ _ _ _ _ (fun E hE => ⟨E, hE, fun _ _ _ h => h, fun _ _ _ h => h, fun _ _ h => h⟩) (h.2.1 t)
  · rcases hst with ⟨_, hst⟩ | ⟨h1, h2, _⟩
    · exact hc b o u hst hcc
    · omega
  · rintro b o (⟨h1, h2⟩ | ⟨h1, h2, _⟩)
    · exact .inl ⟨Nat.lt_of_lt_of_le h1 hs, h2⟩
    · omega
theorem Fz.more {T' : Nat → Nat → Prop} (h : Fz T nt fr a W) (hT : ∀ b o, T b o → T' b o) (hb : ∀ b o, T' b o → b < W.heap.size) : Fz T' nt fr a W := by
  refine ⟨hb, fun t => ?_, h.2.2.1, h.2.2.2⟩
  refine Rd.mono (fun _ _ _ _ h => h) ?_ _ _ _ _ (fun E hE => ⟨E, hE, fun _ _ _ h => h, fun _ _ _ h => h, fun _ _ h => h⟩) (h.2.1 t)
  rintro b o (⟨h1, h2⟩ | h2)
  · exact .inl ⟨h1, hT _ _ h2⟩
  · exact .inr h2
theorem Fz.put_ (h : Fz T nt fr a W) {t : Nat} {b : Bool} (ht : t < nt) : Fz T nt ((t, .v (.bool b)) :: fr) (a.put (some t) (.bool b)) W := by
  refine ⟨h.1, ?_, by rw [put_size]; exact h.2.2.1, by rw [put_defers]; exact h.2.2.2⟩
  exact h.2.1.put_ (dst := some t) (d := .v (.bool b)) (fun t' e => by simp only [Option.some.injEq] at e; subst e; rw [h.2.2.1]; exact ht) (Rd_v.2 ⟨rfl, rfl⟩)
theorem Below.turn {L : Nat} (h : Below W.heap.size W W') : Turn L W W' :=
  ⟨h.os, h.tape, h.output, h.size, fun k o hk _ => (h.block k (Array.getElem?_eq_some_iff.1 hk).1).trans hk⟩
theorem yield_op {l dst y x : Nat} {ts : Array Nat} {ty : Nat} {pos : String} {after : Array Edge} {gd : Option (Nat × Bool)} {d : D} (hF : Fz T nt fr a W) (hy : lkf fr y = .v (.func (.yield l) #[] #[])) (hx : lkf fr x = d) (hcl : cl d = true) {next : Act → World → Prop} {Q : Exit → Act → World → Prop}
    (hY : ∀ v, Rd W T none d v → YieldAt Fence.wide 0 P l #[v] W fun e Y => ∃ b, e = .returned (.bool b) ∧ next (a.put (some dst) (.bool b)) Y) :
    Oper.wpIn Fence.wide 0 P ⟨some dst, .call { callee := .value (.tmp y), args := #[.tmp x], argTypes := ts }, ty, pos, after, gd⟩ a W next Q := by
  have hyv : a.tmps.getD y undef = .func (.yield l) #[] #[] := by
    have := hF.2.1 y
    rw [hy] at this
    exact (Rd_v.1 this).1
  obtain ⟨fn, tmps, assign, body, h1, h2⟩ := hY _ (hF.rd0 hx hcl)
  refine ⟨fun f _ => trivial, ?_⟩
  rw [Oper.semAt_eq _ _ _ (fun c => by simp)]
  have hrun : (execOp a.eval ⟨some dst, .call { callee := .value (.tmp y), args := #[.tmp x], argTypes := ts }, ty, pos, after, gd⟩).run P W = .ok (.round l fn tmps assign body) W := by
    have e1 : a.eval (.tmp y) = .func (.yield l) #[] #[] := hyv
    have e2 : a.eval (.tmp x) = a.tmps.getD x undef := rfl
    rw [← e2] at h1
    simp only [execOp, resolve, e1, Deferred.ofValue, Sem.run_bind, Sem.run_pure, Result.andThen_ok, invoke, List.map_toArray, List.map_cons, List.map_nil]
    exact h1
  rw [hrun]
  refine ⟨(fun h => by cases h), RoundIn.mono h2 fun e w' hr => ?_⟩
  obtain ⟨b, rfl, hn⟩ := hr
  exact hn
theorem call_op {f dst : Nat} {as : Array Operand} {ts : Array Nat} {ty : Nat} {pos : String} {after : Array Edge} {gd : Option (Nat × Bool)} (hc : callable P f = true) {next : Act → World → Prop} {Q : Exit → Act → World → Prop}
    (hcall : Calls P f (as.map a.eval) W fun e Y => ∃ v, e = .returned v ∧ next (a.put (some dst) v) Y) :
    Oper.wpIn Fence.wide 0 P ⟨some dst, .call { callee := .value (.func f), args := as, argTypes := ts }, ty, pos, after, gd⟩ a W next Q := by
  refine ⟨fun f _ => trivial, ?_⟩
  rw [Oper.semAt_eq _ _ _ (fun c => by simp), run_call (cs := #[]) rfl hc]
  simp only [Array.append_empty]
  refine ⟨(fun h => by cases h), CallsIn.mono (callsIn_wide.2 hcall) fun e w' hr => ?_⟩
  obtain ⟨v, rfl, hn⟩ := hr
  exact hn
end
end Go.Proofs.Dv
set_option linter.unusedVariables false
set_option linter.unusedSimpArgs false
namespace Go.Proofs.Dv
open Go.RowKit
section
variable {P : Program} {nt : Nat}
theorem chk_seq {x y : IC} {c : Code} (h : chk P nt (.seq x y) c = true) : ∃ x' y', c = .seq x' y' ∧ chk P nt x x' = true ∧ chk P nt y y' = true := by
  cases c <;> simp only [chk, Bool.false_eq_true, Bool.and_eq_true] at h
  exact ⟨_, _, rfl, h⟩
theorem chk_cond {x : Opd} {y z : IC} {c : Code} (h : chk P nt (.cond x y z) c = true) : ∃ x' y' z', c = .cond x' y' z' ∧ oeq x' x = true ∧ chk P nt y y' = true ∧ chk P nt z z' = true := by
  cases c <;> simp only [chk, Bool.false_eq_true, Bool.and_eq_true] at h
  exact ⟨_, _, _, rfl, h.1.1, h.1.2, h.2⟩
theorem chk_blk {i : Nat} {x : IC} {c : Code} (h : chk P nt (.blk i x) c = true) : ∃ x', c = .block i x' ∧ chk P nt x x' = true := by
  cases c <;> simp only [chk, Bool.false_eq_true, Bool.and_eq_true, beq_iff_eq] at h
  obtain ⟨rfl, h⟩ := h
  exact ⟨_, rfl, h⟩
theorem chk_loop {ks : List Nat} {x : IC} {c : Code} (h : chk P nt (.loop ks x) c = true) : ∃ x', c = .loop x' ∧ chk P nt x x' = true := by
  cases c <;> simp only [chk, Bool.false_eq_true] at h
  exact ⟨_, rfl, h⟩
theorem chk_ret {c : Code} (h : chk P nt .ret c = true) : c = .ret := by
  cases c <;> simp only [chk, Bool.false_eq_true] at h
  rfl
theorem chk_exit {i : Nat} {c : Code} (h : chk P nt (.exit i) c = true) : c = .exit i := by
  cases c <;> simp only [chk, Bool.false_eq_true, beq_iff_eq] at h
  rw [h]
theorem chk_skip {c : Code} (h : chk P nt .skip c = true) : c = .skip := by
  cases c <;> simp only [chk, Bool.false_eq_true] at h
  rfl
theorem ops_pre {C : Ctx} {E : Ent} (hC : CtxOK P C) {ops : Array Oper} {Q : Exit → Act → World → Prop} {is2 : List Iop} {ro : Option Nat} : ∀ (os : List Oper) (is1 : List Iop) (k : Nat) (σ σ' : St) (a : Act) (w : World), (∀ j, os[j]? = ops[k + j]?) → ioeqs P ops nt os (is1 ++ is2) = true →
    Rel E C.G nt σ a w → evOps C is1 σ = some σ' → (∀ os' k' a' w', (∀ j, os'[j]? = ops[k' + j]?) → ioeqs P ops nt os' is2 = true → Rel E C.G nt σ' a' w' → wpOpsIn (fw ro) 0 P ops Q (List.range' k' os'.length) a' w') → wpOpsIn (fw ro) 0 P ops Q (List.range' k os.length) a w
  | os, [], k, σ, σ', a, w, hk, hi, hR, he, hK => by
    simp only [evOps, Option.some.injEq] at he
    subst he
    exact hK os k a w hk hi hR
  | o :: os, i :: is, k, σ, σ', a, w, hk, hi, hR, he, hK => by
    simp only [List.cons_append, ioeqs, Bool.and_eq_true] at hi
    rw [evOps_cons] at he
    simp only [Option.bind_eq_some_iff] at he
    obtain ⟨⟨d, hp', nx'⟩, h1, h2⟩ := he
    rw [List.length_cons, List.range'_succ, wpOpsIn_cons]
    have hok : ops[k]? = some o := by have := hk 0; simpa using this.symm
    refine step_wp hC hok hi.1 hR h1 fun a' w' hR' => ?_
    exact ops_pre hC os is (k + 1) _ σ' a' w' (fun j => by have := hk (j + 1); simp only [List.getElem?_cons_succ] at this; rw [this]; congr 1; omega) hi.2 hR' h2 hK
  | [], _ :: _, _, _, _, _, _, _, hi, _, _, _ => by simp [ioeqs] at hi
end
section
variable {P : Program} {T : Nat → Nat → Prop} {nt : Nat} {fr : List (Nat × D)} {a : Act} {W W' : World}
def entF (T : Nat → Nat → Prop) (W : World) : Ent := ⟨T, W.heap.size, mp0, [], 0, W, fun _ => False⟩
theorem Fz.rel (hF : Fz T nt fr a W) : Rel (entF T W) cx0.G nt ⟨fr, [], 0⟩ a W := by
  obtain ⟨h1, h2, h3, h4⟩ := hF
  exact ⟨mp0, ⟨Nat.le_refl _, fun id blk hl => by simp [lkh] at hl, fun i j bi bj k hi => by simp [lkh] at hi, fun g cs hg => by simp [cx0] at hg⟩, h2, Up.refl, Below.refl _ _, Nat.le_refl _, h3, by rw [h4]; exact Marks.nil⟩
theorem rel_fz (h1 : ∀ b o, T b o → b < W.heap.size) {σ' : St} {a' : Act} {W' : World} (h : Rel (entF T W) cx0.G nt σ' a' W') : Below W.heap.size W W' ∧ Fz (newT T W W') nt (fzF σ') a' W' := by
  obtain ⟨m', r1, r2, r3, r4, r5, r6, r7⟩ := h
  have r4 : Below W.heap.size W W' := r4
  refine ⟨r4, ?_, ?_, r6, ?_⟩
  · rintro b o (h | h)
    · exact Nat.lt_of_lt_of_le (h1 b o h) r4.size
    · exact h.2
  · intro t
    rw [fzF, lkf_map (by simp [fzD, cl])]
    exact fz_rd r4.size h1 r1 (r2 t)
  · obtain ⟨Ds, d1, _, d3⟩ := r7
    cases Ds with
    | nil => simpa [marks] using d1
    | cons D Ds => exact ((d3 D List.mem_cons_self).2.1).elim
theorem fz_reg {is : List Iop} {c : Code} {σ' : St} {Q : Exit → Act → World → Prop} (hc : chk P nt (.reg is false) c = true) (hF : Fz T nt fr a W) (he : evOps cx0 is ⟨fr, [], 0⟩ = some σ')
    (hK : ∀ a' W', Below W.heap.size W W' → Fz (newT T W W') nt (fzF σ') a' W' → Q .normal a' W') : c.wpIn Fence.wide 0 P Q a W := by
  cases c <;> simp only [chk, Bool.false_eq_true] at hc
  rename_i id ops dr'
  simp only [Bool.and_eq_true, beq_iff_eq, Bool.or_eq_true, Bool.not_eq_true'] at hc
  obtain ⟨⟨rfl, h1⟩, h2⟩ := hc
  refine wpIn_region ?_
  have := ops_wp (E := entF T W) (Q := Q) (cx0_ok P) ops.toList is 0 _ σ' a W (fun j => by simp) h1 hF.rel he (fun a' w' h => by obtain ⟨h3, h4⟩ := rel_fz hF.1 h; exact hK a' w' h3 h4) (ro := none)
  rw [List.range_eq_range']
  simpa [fw] using this
theorem fz_call {is1 is2 : List Iop} {op : IOp} {r : Nat} {c : Code} {σ1 : St} {Q : Exit → Act → World → Prop} (hc : chk P nt (.reg (is1 ++ ⟨some r, op, none, false⟩ :: is2) false) c = true) (hF : Fz T nt fr a W) (he : evOps cx0 is1 ⟨fr, [], 0⟩ = some σ1)
    (hK : ∀ (a1 : Act) (W1 : World), Below W.heap.size W W1 → Fz (newT T W W1) nt (fzF σ1) a1 W1 → r < nt → ∀ o : Oper, opeq P o.op op = true → o.dst = some r → ∀ (next : Act → World → Prop),
      (∀ b T2 fr2 σ2 W2, Fz T2 nt fr2 (a1.put (some r) (.bool b)) W2 → evOps cx0 is2 ⟨fr2, [], 0⟩ = some σ2 → (∀ a3 W3, Below W2.heap.size W2 W3 → Fz (newT T2 W2 W3) nt (fzF σ2) a3 W3 → Q .normal a3 W3) → next (a1.put (some r) (.bool b)) W2) →
      o.wpIn Fence.wide 0 P a1 W1 next Q) : c.wpIn Fence.wide 0 P Q a W := by
  cases c <;> simp only [chk, Bool.false_eq_true] at hc
  rename_i id ops dr'
  simp only [Bool.and_eq_true, beq_iff_eq, Bool.or_eq_true, Bool.not_eq_true'] at hc
  obtain ⟨⟨rfl, h1⟩, h2⟩ := hc
  refine wpIn_region ?_
  have key := ops_pre (E := entF T W) (Q := Q) (cx0_ok P) (ops := ops) (is2 := ⟨some r, op, none, false⟩ :: is2) (ro := none) (nt := nt) ops.toList is1 0 _ σ1 a W (fun j => by simp) h1 hF.rel he ?_
  · rw [List.range_eq_range']
    simpa [fw] using key
  · intro os k a1 W1 hk hi hR
    obtain ⟨h3, h4⟩ := rel_fz hF.1 hR
    cases os with
    | nil => simp [ioeqs] at hi
    | cons o os =>
      simp only [ioeqs, Bool.and_eq_true] at hi
      obtain ⟨hi1, hi2⟩ := hi
      simp only [ioeq, Bool.and_eq_true, beq_iff_eq] at hi1
      obtain ⟨⟨⟨g1, g2⟩, g3⟩, g4⟩ := hi1
      have hok : ops[k]? = some o := by have := hk 0; simpa using this.symm
      rw [g2] at g3
      simp only [decide_eq_true_eq] at g3
      have hgd : o.guard = none := by
        revert g4
        cases o.guard <;> simp [gdeq]
      rw [List.length_cons, List.range'_succ, wpOpsIn_cons]
      unfold wpOpIn
      rw [hok]
      simp only [Region.wanted, hgd, if_true]
      refine hK a1 W1 h3 h4 g3 o g1 g2 _ fun b T2 fr2 σ2 W2 hF2 he2 hQ => ?_
      refine ops_wp (E := entF T2 W2) (Q := Q) (cx0_ok P) os is2 (k + 1) _ σ2 _ W2 (fun j => by have := hk (j + 1); simp only [List.getElem?_cons_succ] at this; rw [this]; congr 1; omega) hi2 hF2.rel he2 (fun a' w' h => by obtain ⟨h5, h6⟩ := rel_fz hF2.1 h; exact hQ a' w' h5 h6) (ro := none)
theorem Fz.sub {fr' : List (Nat × D)} (h : Fz T nt fr a W) (hs : ∀ p ∈ fr', lkf fr p.1 = p.2) : Fz T nt fr' a W := by
  refine ⟨h.1, fun t => ?_, h.2.2⟩
  have : lkf fr' t = lkf fr t ∨ lkf fr' t = .junk := by
    clear h
    induction fr' with
    | nil => right; rfl
    | cons p fr' ih =>
      obtain ⟨j, d⟩ := p
      simp only [lkf]
      split
      · rename_i hj; subst hj; left; exact (hs _ List.mem_cons_self).symm
      · exact ih fun p hp => hs p (List.mem_cons_of_mem _ hp)
  rcases this with e | e
  · rw [e]; exact h.2.1 t
  · rw [e]; exact Rd_junk
end
end Go.Proofs.Dv
set_option linter.unusedVariables false
set_option linter.unusedSimpArgs false
namespace Go.Proofs.Dv
open Go.RowKit
theorem opeq_call {P : Program} {op : Op} {g : Opd} {as : List Opd} (h : opeq P op (.call g as) = true) : ∃ f args ts, op = .call { callee := .value f, args := args, argTypes := ts } ∧ oeq f g = true ∧ oeqs args.toList as = true := by
  unfold opeq at h
  split at h
  all_goals first
    | (rename_i heq; simp only [IOp.call.injEq, reduceCtorEq] at heq; obtain ⟨rfl, rfl⟩ := heq; simp only [Bool.and_eq_true] at h; exact ⟨_, _, _, rfl, h⟩)
    | (rename_i heq; simp only [reduceCtorEq] at heq; done)
    | (simp only [reduceCtorEq, *] at *; done)
    | (simp at h; done)
theorem oeq_t {x : Operand} {t : Nat} (h : oeq x (.t t) = true) : x = .tmp t := by cases x <;> simp_all [oeq]
theorem oeq_f {x : Operand} {t : Nat} (h : oeq x (.f t) = true) : x = .func t := by cases x <;> simp_all [oeq]
theorem oeqs_1 {x : Array Operand} {t : Nat} (h : oeqs x.toList [.t t] = true) : x = #[.tmp t] := by
  obtain ⟨l⟩ := x
  cases l with
  | nil => simp [oeqs] at h
  | cons y l =>
    cases l with
    | nil => simp only [oeqs, Bool.and_true] at h; rw [oeq_t h]
    | cons z l => simp [oeqs] at h
theorem oeqs_2 {x : Array Operand} {t u : Nat} (h : oeqs x.toList [.t t, .t u] = true) : x = #[.tmp t, .tmp u] := by
  obtain ⟨l⟩ := x
  cases l with
  | nil => simp [oeqs] at h
  | cons y l =>
    cases l with
    | nil => simp [oeqs] at h
    | cons z l =>
      cases l with
      | nil => simp only [oeqs, Bool.and_true, Bool.and_eq_true] at h; rw [oeq_t h.1, oeq_t h.2]
      | cons z l => simp [oeqs] at h
theorem fzD_idem (hp hp' : List (Nat × Blk)) (d : D) : fzD hp' (fzD hp d) = fzD hp d := by
  have aux : ∀ d : D, (∀ i o, d ≠ .ptr i o) → cl d = true → ∀ hp, fzD hp d = d := by
    intro d hd hc hp
    cases d with
    | ptr i o => exact absurd rfl (hd i o)
    | _ => simp only [fzD]; rw [if_pos hc]
  cases d with
  | ptr id o =>
    have e : fzD hp (.ptr id o) = .junk ∨ ∃ cs, fzD hp (.ptr id o) = .rp cs := by
      simp only [fzD]
      split
      · split
        · exact .inr ⟨_, rfl⟩
        · exact .inl rfl
      · exact .inl rfl
    rcases e with e | ⟨cs, e⟩
    · rw [e]; simp [fzD, cl]
    · rw [e]; simp [fzD, cl]
  | v x => simp [fzD, cl]
  | lst e es => simp [fzD, cl]
  | rp cs => simp [fzD, cl]
  | mp i => simp [fzD, cl]
  | junk => simp [fzD, cl]
  | own i n => simp [fzD, cl]
  | agg ds => by_cases h : cl.cls ds = true <;> simp [fzD, h, cl]
  | fn f ds => by_cases h : cl.cls ds = true <;> simp [fzD, h, cl]
  | tup ds => by_cases h : cl.cls ds = true <;> simp [fzD, h, cl]
theorem fzF_idem (σ : St) : fzF ⟨fzF σ, [], 0⟩ = fzF σ := by
  simp only [fzF, List.map_map]
  congr 1
  funext p
  simp [fzD_idem]
def Kp (T : Nat → Nat → Prop) (X Y : World) : Prop := X.heap.size ≤ Y.heap.size ∧ ∀ b o u, T b o → X.cell? ⟨b, o, none⟩ = some u → Y.cell? ⟨b, o, none⟩ = some u
theorem Kp.of_below {T : Nat → Nat → Prop} {X Y : World} (hT : ∀ b o, T b o → b < X.heap.size) (h : Below X.heap.size X Y) : Kp T X Y :=
  ⟨h.size, fun b o u ht hc => (Below.turn (L := 0) h).cell hc⟩
theorem Kp.trans {T T' : Nat → Nat → Prop} {X Y Z : World} (h : Kp T X Y) (hs : ∀ b o, T b o → T' b o) (h' : Kp T' Y Z) : Kp T X Z :=
  ⟨Nat.le_trans h.1 h'.1, fun b o u ht hc => h'.2 b o u (hs b o ht) (h.2 b o u ht hc)⟩
section
variable {P : Program} {nt : Nat} (J : Nat → (Nat → Nat → Prop) → World → Prop) (Jx : World → Prop) {L : Nat}
def Vp (n : Nat) (T : Nat → Nat → Prop) (X : World) (e : Ending) (Y : World) : Prop :=
  (e = .returned (.bool true) ∧ ∃ T', J n T' Y ∧ (∀ b o, T b o → T' b o) ∧ (∀ b o, T' b o → b < Y.heap.size) ∧ Kp T X Y) ∨ (e = .returned (.bool false) ∧ Jx Y)
variable {J Jx}
theorem callcond (hJT : ∀ k T X Y, J k T X → Turn L X Y → J k (newT T X Y) Y) (hJX : ∀ X Y, Jx X → Turn L X Y → Jx Y)
    {is1 : List Iop} {op : IOp} {r r2 k k' rv : Nat} {c : Code} {fr : List (Nat × D)} {T : Nat → Nat → Prop} {a : Act} {X : World} {σ1 : St} {Q : Exit → Act → World → Prop}
    (hc : chk P nt (.seq (.reg (is1 ++ [⟨some r, op, none, false⟩, ⟨some r2, .un .not (.t r), none, false⟩]) false) (.cond (.t r2) (.seq (.reg [⟨some rv, .mv (.k (.bool false)), none, false⟩] false) .ret) .skip)) c = true)
    (hJ : J k T X) (hF : Fz T nt fr a X) (he : evOps cx0 is1 ⟨fr, [], 0⟩ = some σ1)
    (hcall : ∀ (a1 : Act) (X1 : World) (T1 : Nat → Nat → Prop), J k T1 X1 → Fz T1 nt (fzF σ1) a1 X1 → (∀ b o, T b o → T1 b o) → ∀ o : Oper, opeq P o.op op = true → o.dst = some r → ∀ (next : Act → World → Prop) (Q : Exit → Act → World → Prop),
      (∀ b Y, Vp J Jx k' T1 X1 (.returned (.bool b)) Y → next (a1.put (some r) (.bool b)) Y) → o.wpIn Fence.wide 0 P a1 X1 next Q)
    (hN : ∀ T' a' Y, J k' T' Y → Fz T' nt ((r2, .v (.bool false)) :: (r, .v (.bool true)) :: fzF σ1) a' Y → (∀ b o, T b o → T' b o) → Kp T X Y → Q .normal a' Y)
    (hR : ∀ T' a' Y fr', Jx Y → Fz T' nt fr' a' Y → lkf fr' rv = .v (.bool false) → Q .ret a' Y) : c.wpIn Fence.wide 0 P Q a X := by
  obtain ⟨c1, c2, rfl, h1, h2⟩ := chk_seq hc
  obtain ⟨x, y, z, rfl, g1, g2, g3⟩ := chk_cond h2
  obtain ⟨y1, y2, rfl, g4, g5⟩ := chk_seq g2
  have := chk_ret g5
  subst this
  have := chk_skip g3
  subst this
  have := oeq_t g1
  subst this
  refine wpIn_seq ?_
  have hne : ∀ (b : Bool) (T2 : Nat → Nat → Prop) (fr2 : List (Nat × D)), evOps cx0 [⟨some r2, .un .not (.t r), none, false⟩] ⟨(r, .v (.bool b)) :: fr2, [], 0⟩ = some ⟨(r2, .v (.bool (!b))) :: (r, .v (.bool b)) :: fr2, [], 0⟩ := by
    intro b T2 fr2
    simp [evOps, want, isQ, evQ, hpl, evO, lkf, evUn, put]
  refine fz_call (Q := Exit.then ((Code.cond (.tmp r2) (.seq y1 .ret) .skip).wpIn Fence.wide 0 P Q) Q) h1 hF he fun a1 W1 hb hF1 hr o ho hd next hnext => ?_
  have hJ1 := hJT _ _ _ _ hJ (Below.turn (L := L) hb)
  refine hcall a1 W1 _ hJ1 hF1 (fun b o h => .inl h) o ho hd next _ fun b Y hV => ?_
  rcases hV with ⟨hb2, T', k1, k2, k3, k4⟩ | ⟨hb2, k1⟩
  · simp only [Ending.returned.injEq, Value.bool.injEq] at hb2
    subst hb2
    have hF2 : Fz T' nt ((r, .v (.bool true)) :: fzF σ1) (a1.put (some r) (.bool true)) Y := ((hF1.keep k4.1 k4.2).more k2 k3).put_ hr
    refine hnext true T' _ _ Y hF2 (hne true T' (fzF σ1)) fun a3 W3 hb3 hF3 => ?_
    have e3 : fzF ⟨(r2, .v (.bool false)) :: (r, .v (.bool true)) :: fzF σ1, [], 0⟩ = (r2, .v (.bool false)) :: (r, .v (.bool true)) :: fzF σ1 := by
      have := fzF_idem σ1
      simp only [fzF, List.map_cons, fzD, cl, if_true] at this ⊢
      rw [this]
    simp only [Bool.not_true] at hF3
    rw [e3] at hF3
    have hv := (Rd_v.1 (hF3.rd0 (t := r2) (d := .v (.bool false)) (by simp [lkf]) rfl)).1
    refine wpIn_cond_false hv ?_
    refine wpIn_skip ?_
    refine hN _ a3 W3 (hJT _ _ _ _ k1 (Below.turn (L := L) hb3)) hF3 (fun b o h => .inl (k2 _ _ (.inl h))) ?_
    exact ((Kp.of_below hF.1 hb).trans (fun b o h => .inl h) k4).trans (fun b o h => k2 _ _ (.inl h)) (Kp.of_below k3 hb3)
  · simp only [Ending.returned.injEq, Value.bool.injEq] at hb2
    subst hb2
    have hF2 : Fz (fun _ _ => False) nt ((r, .v (.bool false)) :: []) (a1.put (some r) (.bool false)) Y :=
      Fz.put_ (fr := []) (T := fun _ _ => False) ⟨fun _ _ h => h.elim, fun t => Rd_junk, hF1.2.2.1, hF1.2.2.2⟩ hr
    refine hnext false _ _ _ Y hF2 (hne false (fun _ _ => False) []) fun a3 W3 hb3 hF3 => ?_
    have hv := (Rd_v.1 (hF3.rd0 (t := r2) (d := .v (.bool true)) (by simp [lkf, fzF, fzD, cl]) rfl)).1
    refine wpIn_cond_true hv ?_
    refine wpIn_seq ?_
    refine fz_reg (σ' := ⟨(rv, .v (.bool false)) :: _, [], 0⟩) g4 hF3 (by simp only [evOps, want, isQ, evQ, hpl, evO, K.d, K.val, put, if_true, Option.bind_some]; rfl) fun a4 W4 hb4 hF4 => ?_
    refine wpIn_ret ?_
    exact hR _ a4 W4 _ (hJX _ _ k1 ((Below.turn (L := L) hb3).trans (Below.turn (L := L) hb4))) hF4 (by simp [lkf, fzF, fzD, cl])
end
end Go.Proofs.Dv
set_option linter.unusedVariables false
set_option linter.unusedSimpArgs false
namespace Go.Proofs.Dv
open Go.RowKit
theorem nr {α : Type} {a b : α} (h : a = b) : a = b := h
class Dm {α : Type} (a : α) : Type where
instance dm {α : Type} (a : α) : Dm a := ⟨⟩
def bd {α β : Type} (a : Option α) (f : α → Option β) [Dm f] : Option β := a.bind f
theorem bd_some {α β : Type} {a : α} {f : α → Option β} {_ : Dm f} : bd (some a) f = f a := nr rfl
theorem bd_none {α β : Type} {f : α → Option β} {_ : Dm f} : bd none f = none := nr rfl
def sq (r : Option (Ex × St)) (k : St → Option (Ex × St)) [Dm k] : Option (Ex × St) := match r with
  | some (.nm, σ') => k σ'
  | r => r
theorem sq_nm {σ : St} {k : St → Option (Ex × St)} {_ : Dm k} : sq (some (.nm, σ)) k = k σ := nr rfl
theorem sq_ex {σ : St} {i : Nat} {k : St → Option (Ex × St)} {_ : Dm k} : sq (some (.ex i, σ)) k = some (.ex i, σ) := nr rfl
theorem sq_rt {σ : St} {k : St → Option (Ex × St)} {_ : Dm k} : sq (some (.rt, σ)) k = some (.rt, σ) := nr rfl
def bk (id : Nat) (r : Option (Ex × St)) : Option (Ex × St) := match r with
  | some (.ex i, σ') => if i = id then some (.nm, σ') else some (.ex i, σ')
  | r => r
theorem bk_nm {σ : St} {i : Nat} : bk i (some (.nm, σ)) = some (.nm, σ) := nr rfl
theorem bk_rt {σ : St} {i : Nat} : bk i (some (.rt, σ)) = some (.rt, σ) := nr rfl
theorem bk_ex {σ : St} {i j : Nat} : bk i (some (.ex j, σ)) = if j = i then some (.nm, σ) else some (.ex j, σ) := nr rfl
def gb {α : Type} (c : Bool) (A B : Unit → Option α) [Dm A] [Dm B] : Option α := if c = true then A () else B ()
theorem gb_t {α : Type} {A B : Unit → Option α} {_ : Dm A} {_ : Dm B} : gb true A B = A () := nr rfl
theorem gb_f {α : Type} {A B : Unit → Option α} {_ : Dm A} {_ : Dm B} : gb false A B = B () := nr rfl
def gd {α : Type} (g : D) (b : Bool) (A B : Unit → Option α) [Dm A] [Dm B] : Option α := match g with
  | .v (.bool c) => gb (c == b) A B
  | .tup [] => B ()
  | _ => none
theorem gd_b {α : Type} {c : Bool} {A B : Unit → Option α} {_ : Dm A} {_ : Dm B} : gd (.v (.bool c)) true A B = gb c A B := by cases c <;> rfl
theorem gd_c {α : Type} {c : Bool} {A B : Unit → Option α} {_ : Dm A} {_ : Dm B} : gd (.v (.bool c)) false A B = gb c B A := by cases c <;> rfl
theorem gd_t {α : Type} {b : Bool} {A B : Unit → Option α} {_ : Dm A} {_ : Dm B} : gd (.tup []) b A B = B () := nr rfl
def cn {α : Type} (g : D) (A B : Unit → Option α) [Dm A] [Dm B] : Option α := match g with
  | .v (.bool c) => gb c A B
  | _ => none
theorem cn_b {α : Type} {c : Bool} {A B : Unit → Option α} {_ : Dm A} {_ : Dm B} : cn (.v (.bool c)) A B = gb c A B := nr rfl
def ldD (hp : List (Nat × Blk)) (ag : Bool) (n : Nat) : D → Option D
  | .ptr id off => match lkh hp id with
      | some (.box cells) => if ag then (if off + n ≤ cells.length then some (.agg ((cells.drop off).take n)) else none) else cells[off]?
      | _ => none
  | .rp cs => if ag then (if n ≤ cs.length then some (.agg (cs.take n)) else none) else cs[0]?
  | _ => none
def ldB (ag : Bool) (n off : Nat) : Option Blk → Option D
  | some (.box cells) => if ag then (if off + n ≤ cells.length then some (.agg ((cells.drop off).take n)) else none) else cells[off]?
  | _ => none
theorem ld_ptr {hp : List (Nat × Blk)} {ag : Bool} {n id off : Nat} : ldD hp ag n (.ptr id off) = ldB ag n off (lkh hp id) := by
  simp only [ldD, ldB]
theorem ldB_1 {n off : Nat} {cells : List D} : ldB false n off (some (.box cells)) = cells[off]? := by simp [ldB]
theorem ldB_2 {n off : Nat} {cells : List D} : ldB true n off (some (.box cells)) = if off + n ≤ cells.length then some (.agg ((cells.drop off).take n)) else none := by simp [ldB]
theorem ld_rp1 {hp : List (Nat × Blk)} {n : Nat} {cs : List D} : ldD hp false n (.rp cs) = cs[0]? := by simp [ldD]
theorem ld_rp2 {hp : List (Nat × Blk)} {n : Nat} {cs : List D} : ldD hp true n (.rp cs) = if n ≤ cs.length then some (.agg (cs.take n)) else none := by simp [ldD]
def faD (off : Nat) : D → Option D
  | .ptr id o => some (.ptr id (o + off))
  | .rp cs => some (.rp (cs.drop off))
  | _ => none
theorem fa_ptr {off id o : Nat} : faD off (.ptr id o) = some (.ptr id (o + off)) := nr rfl
theorem fa_rp {off : Nat} {cs : List D} : faD off (.rp cs) = some (.rp (cs.drop off)) := nr rfl
def rowE (n : Nat) : Option Blk → Option (List (List D))
  | some (.row _ els) => if els.length = n then some els else none
  | _ => none
def elD (hp : List (Nat × Blk)) : D → Option (List (List D))
  | .lst _ es => some es
  | .own id n => rowE n (lkh hp id)
  | _ => none
theorem el_lst {hp : List (Nat × Blk)} {ex : Bool} {es : List (List D)} : elD hp (.lst ex es) = some es := nr rfl
theorem el_own {hp : List (Nat × Blk)} {id n : Nat} : elD hp (.own id n) = rowE n (lkh hp id) := nr rfl
theorem rowE_row {n z : Nat} {els : List (List D)} : rowE n (some (.row z els)) = if els.length = n then some els else none := nr rfl
def iaD (sz : Nat) (es : Option (List (List D))) (i : D) : Option D := match i with
  | .v (.int _ i) => if 0 ≤ i then bd es fun es => bd es[i.toNat]? fun e => if e.length = sz then some (.rp e) else none else none
  | _ => none
theorem ia_int {sz : Nat} {es : Option (List (List D))} {k : IntKind} {i : Int} : iaD sz es (.v (.int k i)) = if 0 ≤ i then bd es fun es => bd es[i.toNat]? fun e => if e.length = sz then some (.rp e) else none else none := nr rfl
def iaaD (n sz : Nat) (x i : D) : Option D := match i with
  | .v (.int _ i) => if 0 ≤ i ∧ i < (n : Int) then faD (i.toNat * sz) x else none
  | _ => none
theorem iaa_int {n sz : Nat} {x : D} {k : IntKind} {i : Int} : iaaD n sz x (.v (.int k i)) = if 0 ≤ i ∧ i < (n : Int) then faD (i.toNat * sz) x else none := nr rfl
def ixsD (x i : D) : Option D := match x, i with
  | .v (.string s), .v (.int _ i) => if 0 ≤ i then (s.data[i.toNat]?).map fun b => .v (.int .u8 (b.toNat : Int)) else none
  | _, _ => none
theorem ixs_int {s : ByteArray} {k : IntKind} {i : Int} : ixsD (.v (.string s)) (.v (.int k i)) = if 0 ≤ i then (s.data[i.toNat]?).map fun b => .v (.int .u8 (b.toNat : Int)) else none := nr rfl
def slsD (lo hi : Int → Option Int) : D → Option D
  | .v (.string s) => bd (lo 0) fun l => bd (hi s.size) fun h => if 0 ≤ l ∧ l ≤ h ∧ h ≤ (s.size : Int) then some (.v (.string (s.extract l.toNat h.toNat))) else none
  | _ => none
theorem sls_str {lo hi : Int → Option Int} {s : ByteArray} : slsD lo hi (.v (.string s)) = bd (lo 0) fun l => bd (hi s.size) fun h => if 0 ≤ l ∧ l ≤ h ∧ h ≤ (s.size : Int) then some (.v (.string (s.extract l.toNat h.toNat))) else none := nr rfl
def intD : D → Option Int
  | .v (.int _ n) => some n
  | _ => none
theorem intD_int {k : IntKind} {n : Int} : intD (.v (.int k n)) = some n := nr rfl
theorem bnd_none {C : Ctx} {fr : List (Nat × D)} {z : Int} : bnd C fr z none = some z := nr rfl
theorem bnd_some {C : Ctx} {fr : List (Nat × D)} {z : Int} {x : Opd} : bnd C fr z (some x) = intD (evO C fr x) := by
  simp only [bnd]
  generalize evO C fr x = g
  unfold intOf' intD
  split <;> rename_i h
  · simp
  · split <;> simp_all
def pkD (c a b : D) : Option D := match c with
  | .v (.bool c) => some (if c then a else b)
  | _ => none
theorem pk_b {c : Bool} {a b : D} : pkD (.v (.bool c)) a b = some (if c then a else b) := nr rfl
def lenS : D → Option D
  | .v (.string s) => some (.v (.int .i64 s.size))
  | _ => none
theorem len_str {s : ByteArray} : lenS (.v (.string s)) = some (.v (.int .i64 s.size)) := nr rfl
def fnD2 (k : Nat → List D → Option (Ex × St)) (x : D) [Dm k] : Option (Ex × St) := match x with
  | .fn f caps => k f caps
  | _ => none
theorem fn2_fn {k : Nat → List D → Option (Ex × St)} {f : Nat} {caps : List D} {_ : Dm k} : fnD2 k (.fn f caps) = k f caps := nr rfl
def extD (i : Nat) : D → Option D
  | .tup ds => ds[i]?
  | _ => none
theorem ext_tup {i : Nat} {ds : List D} : extD i (.tup ds) = ds[i]? := nr rfl
def fldD (ag : Bool) (n off : Nat) : D → Option D
  | .agg ds => if ag then (if off + n ≤ ds.length then some (.agg ((ds.drop off).take n)) else none) else ds[off]?
  | _ => none
theorem fld_1 {n off : Nat} {ds : List D} : fldD false n off (.agg ds) = ds[off]? := by simp [fldD]
theorem fld_2 {n off : Nat} {ds : List D} : fldD true n off (.agg ds) = if off + n ≤ ds.length then some (.agg ((ds.drop off).take n)) else none := by simp [fldD]
def nilcD : D → Option D
  | .ptr id o => some (.ptr id o)
  | .rp cs => some (.rp cs)
  | .fn f ds => some (.fn f ds)
  | _ => none
theorem nilc_ptr {id o : Nat} : nilcD (.ptr id o) = some (.ptr id o) := nr rfl
theorem nilc_rp {cs : List D} : nilcD (.rp cs) = some (.rp cs) := nr rfl
theorem nilc_fn {f : Nat} {cs : List D} : nilcD (.fn f cs) = some (.fn f cs) := nr rfl
def cvD (k : IntKind) : D → Option D
  | .v (.int _ n) => some (.v (.int k (k.wrap n)))
  | _ => none
theorem cv_int {k k' : IntKind} {n : Int} : cvD k (.v (.int k' n)) = some (.v (.int k (k.wrap n))) := nr rfl
def mxD (mn : Bool) : D → D → Option D
  | .v (.int k a), .v (.int k' b) => if k = k' then some (.v (.int k (if mn then min a b else max a b))) else none
  | _, _ => none
theorem mx_int {mn : Bool} {k k' : IntKind} {a b : Int} : mxD mn (.v (.int k a)) (.v (.int k' b)) = if k = k' then some (.v (.int k (if mn then min a b else max a b))) else none := nr rfl
def stB (hp : List (Nat × Blk)) (n id off : Nat) (cs : List D) : Option Blk → Option (List (Nat × Blk))
  | some (.box cells) => if cs.length = n ∧ off + n ≤ cells.length ∧ cs.all okc = true then some (uph hp id (.box (cells.take off ++ cs ++ cells.drop (off + n)))) else none
  | _ => none
def stD (hp : List (Nat × Blk)) (n : Nat) (cs : List D) : D → Option (List (Nat × Blk))
  | .ptr id off => stB hp n id off cs (lkh hp id)
  | _ => none
theorem st_ptr {hp : List (Nat × Blk)} {n id off : Nat} {cs : List D} : stD hp n cs (.ptr id off) = stB hp n id off cs (lkh hp id) := nr rfl
theorem stB_box {hp : List (Nat × Blk)} {n id off : Nat} {cs cells : List D} : stB hp n id off cs (some (.box cells)) = if cs.length = n ∧ off + n ≤ cells.length ∧ cs.all okc = true then some (uph hp id (.box (cells.take off ++ cs ++ cells.drop (off + n)))) else none := nr rfl
def appB (hp : List (Nat × Blk)) (nx sz bytes id n : Nat) (news : List (List D)) : Option Blk → Option (D × List (Nat × Blk) × Nat)
  | some (.row z els) => if z = sz ∧ els.length = n ∧ (n + news.length) * bytes ≤ 140737488355328 then some (.own id (n + news.length), uph hp id (.row sz (els ++ news)), nx) else none
  | _ => none
def appD (hp : List (Nat × Blk)) (nx sz bytes : Nat) (news : List (List D)) : D → Option (D × List (Nat × Blk) × Nat)
  | .own id n => appB hp nx sz bytes id n news (lkh hp id)
  | .lst true es => if (es.isEmpty || !news.isEmpty) = true ∧ (es.all fun e => e.length == sz) = true ∧ (es.length + news.length) * bytes ≤ 140737488355328 then
      some (.own nx (es.length + news.length), (nx, .row sz (es ++ news)) :: hp, nx + 1) else none
  | _ => none
theorem app_own {hp : List (Nat × Blk)} {nx sz bytes id n : Nat} {news : List (List D)} : appD hp nx sz bytes news (.own id n) = appB hp nx sz bytes id n news (lkh hp id) := nr rfl
theorem app_lst {hp : List (Nat × Blk)} {nx sz bytes : Nat} {news es : List (List D)} : appD hp nx sz bytes news (.lst true es) = if (es.isEmpty || !news.isEmpty) = true ∧ (es.all fun e => e.length == sz) = true ∧ (es.length + news.length) * bytes ≤ 140737488355328 then
      some (.own nx (es.length + news.length), (nx, .row sz (es ++ news)) :: hp, nx + 1) else none := nr rfl
theorem appB_row {hp : List (Nat × Blk)} {nx sz bytes id n z : Nat} {news els : List (List D)} : appB hp nx sz bytes id n news (some (.row z els)) = if z = sz ∧ els.length = n ∧ (n + news.length) * bytes ≤ 140737488355328 then some (.own id (n + news.length), uph hp id (.row sz (els ++ news)), nx) else none := nr rfl
def mslD (hp : List (Nat × Blk)) (nx sz bytes : Nat) (zero : List K) (n c : D) : Option (D × List (Nat × Blk) × Nat) :=
  match n, c with
  | .v (.int .i64 n), .v (.int .i64 c) => if 0 ≤ n ∧ n ≤ c ∧ c * bytes ≤ 140737488355328 ∧ zero.length = sz ∧ 0 < sz then
      some (.own nx n.toNat, (nx, .row sz (List.replicate n.toNat (zero.map K.d))) :: hp, nx + 1) else none
  | _, _ => none
theorem msl_int {hp : List (Nat × Blk)} {nx sz bytes : Nat} {zero : List K} {n c : Int} : mslD hp nx sz bytes zero (.v (.int .i64 n)) (.v (.int .i64 c)) = if 0 ≤ n ∧ n ≤ c ∧ c * bytes ≤ 140737488355328 ∧ zero.length = sz ∧ 0 < sz then
      some (.own nx n.toNat, (nx, .row sz (List.replicate n.toNat (zero.map K.d))) :: hp, nx + 1) else none := nr rfl
def mapE : Option Blk → Option (List (Value × Value))
  | some (.map es) => some es
  | _ => none
theorem mapE_map {es : List (Value × Value)} : mapE (some (.map es)) = some es := nr rfl
def mpE (hp : List (Nat × Blk)) : D → Option (List (Value × Value))
  | .mp id => mapE (lkh hp id)
  | _ => none
theorem mp_mp {hp : List (Nat × Blk)} {id : Nat} : mpE hp (.mp id) = mapE (lkh hp id) := nr rfl
def mlkR (ok : Bool) (z : Value) : Option (Nat × Value) → D
  | some (_, v) => if ok then .tup [.v v, .v (.bool true)] else .v v
  | none => if ok then .tup [.v z, .v (.bool false)] else .v z
theorem mlkR_some {ok : Bool} {z v : Value} {i : Nat} : mlkR ok z (some (i, v)) = if ok = true then .tup [.v v, .v (.bool true)] else .v v := nr rfl
theorem mlkR_none {ok : Bool} {z : Value} : mlkR ok z none = if ok = true then .tup [.v z, .v (.bool false)] else .v z := nr rfl
def mlkD (s ok : Bool) (z : Option Value) (es : Option (List (Value × Value))) (k : D) : Option D := match k with
  | .v k => bd es fun es => bd z fun z => if isK s k = true then bd (mfind s k es 0) fun r => some (mlkR ok z r) else none
  | _ => none
theorem mlk_v {s ok : Bool} {z : Option Value} {es : Option (List (Value × Value))} {k : Value} : mlkD s ok z es (.v k) = bd es fun es => bd z fun z => if isK s k = true then bd (mfind s k es 0) fun r => some (mlkR ok z r) else none := nr rfl
def mset (k x : Value) (es : List (Value × Value)) : Option (Nat × Value) → List (Value × Value)
  | some (i, _) => es.set i (k, x)
  | none => es ++ [(k, x)]
theorem mset_some {k x v : Value} {i : Nat} {es : List (Value × Value)} : mset k x es (some (i, v)) = es.set i (k, x) := nr rfl
theorem mset_none {k x : Value} {es : List (Value × Value)} : mset k x es none = es ++ [(k, x)] := nr rfl
def mupD (s : Bool) (hp : List (Nat × Blk)) (m : D) (es : Option (List (Value × Value))) (k x : D) : Option (List (Nat × Blk)) := match m, k, x with
  | .mp id, .v k, .v x => bd es fun es => if (isK s k && plain x) = true then bd (mfind s k es 0) fun r => some (uph hp id (.map (mset k x es r))) else none
  | _, _, _ => none
theorem mup_v {s : Bool} {hp : List (Nat × Blk)} {id : Nat} {es : Option (List (Value × Value))} {k x : Value} : mupD s hp (.mp id) es (.v k) (.v x) = bd es fun es => if (isK s k && plain x) = true then bd (mfind s k es 0) fun r => some (uph hp id (.map (mset k x es r))) else none := nr rfl
def menR (hp : List (Nat × Blk)) (id : Nat) (k z : Value) (es : List (Value × Value)) : Option (Nat × Value) → D × List (Nat × Blk)
  | some (i, v) => (.tup [.v v, .v (.int .i64 i)], hp)
  | none => (.tup [.v z, .v (.int .i64 es.length)], uph hp id (.map (es ++ [(k, z)])))
theorem menR_some {hp : List (Nat × Blk)} {id i : Nat} {k z v : Value} {es : List (Value × Value)} : menR hp id k z es (some (i, v)) = (.tup [.v v, .v (.int .i64 i)], hp) := nr rfl
theorem menR_none {hp : List (Nat × Blk)} {id : Nat} {k z : Value} {es : List (Value × Value)} : menR hp id k z es none = (.tup [.v z, .v (.int .i64 es.length)], uph hp id (.map (es ++ [(k, z)]))) := nr rfl
def menD (s : Bool) (z : Option Value) (hp : List (Nat × Blk)) (m : D) (es : Option (List (Value × Value))) (k : D) : Option (D × List (Nat × Blk)) := match m, k with
  | .mp id, .v k => bd es fun es => bd z fun z => if isK s k = true then bd (mfind s k es 0) fun r => some (menR hp id k z es r) else none
  | _, _ => none
theorem men_v {s : Bool} {z : Option Value} {hp : List (Nat × Blk)} {id : Nat} {es : Option (List (Value × Value))} {k : Value} : menD s z hp (.mp id) es (.v k) = bd es fun es => bd z fun z => if isK s k = true then bd (mfind s k es 0) fun r => some (menR hp id k z es r) else none := nr rfl
def mesD (hp : List (Nat × Blk)) (m : D) (es : Option (List (Value × Value))) (i x : D) : Option (List (Nat × Blk)) := match m, i, x with
  | .mp id, .v (.int _ i), .v x => bd es fun es => if 0 ≤ i ∧ i < (es.length : Int) ∧ plain x = true then bd es[i.toNat]? fun p => some (uph hp id (.map (es.set i.toNat (p.1, x)))) else none
  | _, _, _ => none
theorem mes_v {hp : List (Nat × Blk)} {id : Nat} {es : Option (List (Value × Value))} {k : IntKind} {i : Int} {x : Value} : mesD hp (.mp id) es (.v (.int k i)) (.v x) = bd es fun es => if 0 ≤ i ∧ i < (es.length : Int) ∧ plain x = true then bd es[i.toNat]? fun p => some (uph hp id (.map (es.set i.toNat (p.1, x)))) else none := nr rfl
theorem kone_int {k : IntKind} {n : Int} : kone (.int k n) = some (.int k n) := nr rfl
theorem kone_bool {b : Bool} : kone (.bool b) = some (.bool b) := nr rfl
theorem isK_int {k : IntKind} {n : Int} : isK false (.int k n) = true := nr rfl
theorem isK_str {s : ByteArray} : isK true (.string s) = true := nr rfl
def apqD (sz bytes : Nat) (news : List (List D)) : D → Option D
  | .lst true es => if (news.all fun e => e.length == sz) && decide (0 < sz) && (es.isEmpty || !news.isEmpty) && (es.all fun e => e.length == sz) && decide ((es.length + news.length) * bytes ≤ 140737488355328) then
      some (.lst false (es ++ news)) else none
  | _ => none
theorem apq_lst {sz bytes : Nat} {news es : List (List D)} : apqD sz bytes news (.lst true es) = if ((news.all fun e => e.length == sz) && decide (0 < sz) && (es.isEmpty || !news.isEmpty) && (es.all fun e => e.length == sz) && decide ((es.length + news.length) * bytes ≤ 140737488355328)) = true then
      some (.lst false (es ++ news)) else none := nr rfl
def slcD (x h : D) : Option D := match x, h with
  | .lst _ es, .v (.int _ h) => if 0 ≤ h ∧ h ≤ (es.length : Int) then some (.lst false (es.take h.toNat)) else none
  | _, _ => none
theorem slc_v {b : Bool} {es : List (List D)} {k : IntKind} {h : Int} : slcD (.lst b es) (.v (.int k h)) = if 0 ≤ h ∧ h ≤ (es.length : Int) then some (.lst false (es.take h.toNat)) else none := nr rfl
def cT (l : Bool) (C : Ctx) (d : Option Nat) (os : List Iop) (fr : List (Nat × D)) (hp : List (Nat × Blk)) (nx : Nat) (f : Nat) (args : List D) : Option (List D → Option D) → Option St
  | some s => bd (expo.expos (hpl l hp) args) fun ds => bd (s ds) fun v => evOps C os ⟨put d v fr, hp, nx⟩
  | none => match l with
    | true => none
    | false => bd (C.cal f args hp nx) fun r => evOps C os ⟨put d r.1 fr, r.2.1, r.2.2⟩
def callD (l : Bool) (C : Ctx) (d : Option Nat) (os : List Iop) (fr : List (Nat × D)) (hp : List (Nat × Blk)) (nx : Nat) (args : List D) : D → Option St
  | .fn f caps => cT l C d os fr hp nx f (args ++ caps) (C.T f)
  | _ => none
theorem call_fn {l : Bool} {C : Ctx} {d : Option Nat} {os : List Iop} {fr : List (Nat × D)} {hp : List (Nat × Blk)} {nx f : Nat} {args caps : List D} : callD l C d os fr hp nx args (.fn f caps) = cT l C d os fr hp nx f (args ++ caps) (C.T f) := nr rfl
theorem cT_some {l : Bool} {C : Ctx} {d : Option Nat} {os : List Iop} {fr : List (Nat × D)} {hp : List (Nat × Blk)} {nx f : Nat} {args : List D} {s : List D → Option D} :
    cT l C d os fr hp nx f args (some s) = bd (expo.expos (hpl l hp) args) fun ds => bd (s ds) fun v => evOps C os ⟨put d v fr, hp, nx⟩ := nr rfl
theorem cT_none {C : Ctx} {d : Option Nat} {os : List Iop} {fr : List (Nat × D)} {hp : List (Nat × Blk)} {nx f : Nat} {args : List D} :
    cT false C d os fr hp nx f args none = bd (C.cal f args hp nx) fun r => evOps C os ⟨put d r.1 fr, r.2.1, r.2.2⟩ := nr rfl
theorem bd_some' {α β : Type} {a : α} {f : α → Option β} {_ : Dm f} : bd (some a) f = f a := nr rfl
theorem bd_none' {α β : Type} {f : α → Option β} {_ : Dm f} : bd none f = none := nr rfl
theorem sq_nm' {σ : St} {k : St → Option (Ex × St)} {_ : Dm k} : sq (some (.nm, σ)) k = k σ := nr rfl
theorem sq_ex' {σ : St} {i : Nat} {k : St → Option (Ex × St)} {_ : Dm k} : sq (some (.ex i, σ)) k = some (.ex i, σ) := nr rfl
theorem sq_rt' {σ : St} {k : St → Option (Ex × St)} {_ : Dm k} : sq (some (.rt, σ)) k = some (.rt, σ) := nr rfl
theorem bk_nm' {σ : St} {i : Nat} : bk i (some (.nm, σ)) = some (.nm, σ) := nr rfl
theorem bk_rt' {σ : St} {i : Nat} : bk i (some (.rt, σ)) = some (.rt, σ) := nr rfl
theorem bk_ex' {σ : St} {i j : Nat} : bk i (some (.ex j, σ)) = if j = i then some (.nm, σ) else some (.ex j, σ) := nr rfl
theorem gb_t' {α : Type} {A B : Unit → Option α} {_ : Dm A} {_ : Dm B} : gb true A B = A () := nr rfl
theorem gb_f' {α : Type} {A B : Unit → Option α} {_ : Dm A} {_ : Dm B} : gb false A B = B () := nr rfl
theorem gd_b' {α : Type} {c : Bool} {A B : Unit → Option α} {_ : Dm A} {_ : Dm B} : gd (.v (.bool c)) true A B = gb c A B := by cases c <;> rfl
theorem gd_c' {α : Type} {c : Bool} {A B : Unit → Option α} {_ : Dm A} {_ : Dm B} : gd (.v (.bool c)) false A B = gb c B A := by cases c <;> rfl
theorem gd_t' {α : Type} {b : Bool} {A B : Unit → Option α} {_ : Dm A} {_ : Dm B} : gd (.tup []) b A B = B () := nr rfl
theorem cn_b' {α : Type} {c : Bool} {A B : Unit → Option α} {_ : Dm A} {_ : Dm B} : cn (.v (.bool c)) A B = gb c A B := nr rfl
theorem call_fn' {l : Bool} {C : Ctx} {d : Option Nat} {os : List Iop} {fr : List (Nat × D)} {hp : List (Nat × Blk)} {nx f : Nat} {args caps : List D} : callD l C d os fr hp nx args (.fn f caps) = cT l C d os fr hp nx f (args ++ caps) (C.T f) := nr rfl
theorem cT_some' {l : Bool} {C : Ctx} {d : Option Nat} {os : List Iop} {fr : List (Nat × D)} {hp : List (Nat × Blk)} {nx f : Nat} {args : List D} {s : List D → Option D} :
    cT l C d os fr hp nx f args (some s) = bd (expo.expos (hpl l hp) args) fun ds => bd (s ds) fun v => evOps C os ⟨put d v fr, hp, nx⟩ := nr rfl
theorem cT_none' {C : Ctx} {d : Option Nat} {os : List Iop} {fr : List (Nat × D)} {hp : List (Nat × Blk)} {nx f : Nat} {args : List D} :
    cT false C d os fr hp nx f args none = bd (C.cal f args hp nx) fun r => evOps C os ⟨put d r.1 fr, r.2.1, r.2.2⟩ := nr rfl
section
variable {hp : List (Nat × Blk)}
theorem exs_nil : expo.expos hp [] = some [] := by simp only [expo.expos]
theorem exs_cons {d : D} {ds : List D} : expo.expos hp (d :: ds) = bd (expo hp d) fun e => bd (expo.expos hp ds) fun es => some (e :: es) := by
  simp only [expo.expos, bd]
  cases expo hp d <;> simp
  cases expo.expos hp ds <;> simp
theorem ex_v {x : Value} : expo hp (.v x) = some (.v x) := by simp only [expo]
theorem ex_lst {b : Bool} {es : List (List D)} : expo hp (.lst b es) = some (.lst b es) := by simp only [expo]
theorem ex_rp {cs : List D} : expo hp (.rp cs) = some (.rp cs) := by simp only [expo]
theorem ex_agg {ds : List D} : expo hp (.agg ds) = bd (expo.expos hp ds) fun e => some (.agg e) := by
  simp only [expo, bd]; cases expo.expos hp ds <;> rfl
theorem ex_fn {f : Nat} {ds : List D} : expo hp (.fn f ds) = bd (expo.expos hp ds) fun e => some (.fn f e) := by
  simp only [expo, bd]; cases expo.expos hp ds <;> rfl
theorem ex_own {id n : Nat} : expo hp (.own id n) = bd (rowE n (lkh hp id)) fun els => some (.lst false els) := by
  simp only [expo, bd]
  rcases lkh hp id with _ | ⟨_ | ⟨z, els⟩ | es⟩ <;> simp [rowE]
  by_cases h : els.length = n <;> simp [h]
end
section
variable {C : Ctx} {os : List Iop} {fr : List (Nat × D)} {hp : List (Nat × Blk)} {nx : Nat} {d : Option Nat} {x y z : Opd} {l : Bool}
theorem o_nil : evOps C [] ⟨fr, hp, nx⟩ = some ⟨fr, hp, nx⟩ := nr rfl
theorem hpl_t : hpl true hp = [] := nr rfl
theorem hpl_f : hpl false hp = hp := nr rfl
theorem o_gd {o : IOp} {t : Nat} {b : Bool} : evOps C (⟨d, o, some (t, b), l⟩ :: os) ⟨fr, hp, nx⟩ =
    gd (lkf fr t) b (fun _ => evOps C (⟨d, o, none, l⟩ :: os) ⟨fr, hp, nx⟩) (fun _ => evOps C os ⟨put d (.tup []) fr, hp, nx⟩) := by
  simp only [evOps, want]
  generalize lkf fr t = g
  unfold gd gb
  split
  · rename_i h
    split at h
    · simp at h
    · simp at h
    · split
      · simp_all
      · simp_all
      · rfl
  · rename_i h
    split at h
    · simp only [Option.some.injEq] at h
      simp [h]
    · rfl
    · simp at h
  · rename_i h
    split at h
    · simp only [Option.some.injEq] at h
      simp [h]
    · simp at h
    · simp at h
theorem o_q (o : IOp) (h : ∀ fr, isQ C fr o = true) : evOps C (⟨d, o, none, l⟩ :: os) ⟨fr, hp, nx⟩ = bd (evQ C fr (hpl l hp) o) fun v => evOps C os ⟨put d v fr, hp, nx⟩ := by
  simp only [evOps, want, h, if_true, bd]
theorem o_e (o : IOp) (h : ∀ fr, isQ C fr o = false) : evOps C (⟨d, o, none, false⟩ :: os) ⟨fr, hp, nx⟩ = bd (evE C fr hp nx o) fun r => evOps C os ⟨put d r.1 fr, r.2.1, r.2.2⟩ := by
  simp only [evOps, want, h, Bool.false_eq_true, if_false, bd]
theorem o_mv : evOps C (⟨d, .mv x, none, l⟩ :: os) ⟨fr, hp, nx⟩ = evOps C os ⟨put d (evO C fr x) fr, hp, nx⟩ := nr rfl
theorem o_pick : evOps C (⟨d, .pick x y z, none, l⟩ :: os) ⟨fr, hp, nx⟩ = bd (pkD (evO C fr x) (evO C fr y) (evO C fr z)) fun v => evOps C os ⟨put d v fr, hp, nx⟩ := by
  rw [o_q _ fun _ => rfl]; congr 1
  simp only [evQ]
  generalize evO C fr x = gx
  unfold pkD boolOf
  split <;> rename_i h
  · simp
  · split <;> simp_all
theorem o_ld {ag : Bool} {n : Nat} : evOps C (⟨d, .ld ag n x, none, l⟩ :: os) ⟨fr, hp, nx⟩ = bd (ldD (hpl l hp) ag n (evO C fr x)) fun v => evOps C os ⟨put d v fr, hp, nx⟩ := nr rfl
theorem o_fa {n : Nat} : evOps C (⟨d, .fa n x, none, l⟩ :: os) ⟨fr, hp, nx⟩ = bd (faD n (evO C fr x)) fun v => evOps C os ⟨put d v fr, hp, nx⟩ := nr rfl
theorem o_ia {n : Nat} : evOps C (⟨d, .ia n x y, none, l⟩ :: os) ⟨fr, hp, nx⟩ = bd (iaD n (elD (hpl l hp) (evO C fr x)) (evO C fr y)) fun v => evOps C os ⟨put d v fr, hp, nx⟩ := by
  rw [o_q _ fun _ => rfl]; congr 1
  simp only [evQ]
  generalize evO C fr x = gx
  generalize evO C fr y = gy
  unfold iaD intOf'
  split
  · simp only [Option.bind_some]
    split
    · unfold elD
      cases gx with
      | own id n =>
        simp only []
        generalize lkh (hpl l hp) id = q
        rcases q with _ | ⟨cs | ⟨z, els⟩ | es⟩
        · rfl
        · rfl
        · simp only [rowE, bd]; split <;> rfl
        · rfl
      | _ => rfl
    · rfl
  · split <;> simp_all
theorem o_iaa {n sz : Nat} : evOps C (⟨d, .iaa n sz x y, none, l⟩ :: os) ⟨fr, hp, nx⟩ = bd (iaaD n sz (evO C fr x) (evO C fr y)) fun v => evOps C os ⟨put d v fr, hp, nx⟩ := by
  rw [o_q _ fun _ => rfl]; congr 1
  simp only [evQ]
  generalize evO C fr x = gx
  generalize evO C fr y = gy
  unfold iaaD intOf'
  split
  · simp only [Option.bind_some]
    split
    · cases gx <;> rfl
    · rfl
  · split <;> simp_all
theorem o_ixs : evOps C (⟨d, .ixs x y, none, l⟩ :: os) ⟨fr, hp, nx⟩ = bd (ixsD (evO C fr x) (evO C fr y)) fun v => evOps C os ⟨put d v fr, hp, nx⟩ := nr rfl
theorem o_sls {lo hi : Option Opd} : evOps C (⟨d, .sls x lo hi, none, l⟩ :: os) ⟨fr, hp, nx⟩ = bd (slsD (fun z => bnd C fr z lo) (fun z => bnd C fr z hi) (evO C fr x)) fun v => evOps C os ⟨put d v fr, hp, nx⟩ := nr rfl
theorem o_msl {sz bytes : Nat} {zero : List K} : evOps C (⟨d, .msl sz bytes zero x y, none, false⟩ :: os) ⟨fr, hp, nx⟩ = bd (mslD hp nx sz bytes zero (evO C fr x) (evO C fr y)) fun r => evOps C os ⟨put d r.1 fr, r.2.1, r.2.2⟩ := by
  rw [o_e _ fun _ => rfl]
  rfl
theorem o_mmk : evOps C (⟨d, .mmk, none, false⟩ :: os) ⟨fr, hp, nx⟩ = evOps C os ⟨put d (.mp nx) fr, (nx, .map []) :: hp, nx + 1⟩ := nr rfl
theorem o_mlk {s ok : Bool} {z : K} : evOps C (⟨d, .mlk s ok z x y, none, l⟩ :: os) ⟨fr, hp, nx⟩ = bd (mlkD s ok (kone z) (mpE (hpl l hp) (evO C fr x)) (evO C fr y)) fun v => evOps C os ⟨put d v fr, hp, nx⟩ := by
  rw [o_q _ fun _ => rfl]; congr 1
  simp only [evQ]
  generalize evO C fr x = gx
  generalize evO C fr y = gy
  cases gx with
  | mp id =>
    cases gy with
    | v k =>
      simp only [mpE]
      generalize lkh (hpl l hp) id = q
      rcases q with _ | ⟨cs | ⟨z, els⟩ | es⟩
      · rfl
      · rfl
      · rfl
      · simp only [mapE, mlkD]
        cases kone z with
        | none => rfl
        | some zz =>
          simp only [bd, Option.bind_some]
          split
          · cases mfind s k es 0 with
            | none => rfl
            | some r => cases r <;> cases ok <;> rfl
          · rfl
    | _ => simp only [mpE]; cases mapE (lkh (hpl l hp) id) <;> rfl
  | _ => cases gy <;> rfl
theorem o_mup {s : Bool} : evOps C (⟨none, .mup s x y z, none, false⟩ :: os) ⟨fr, hp, nx⟩ = bd (mupD s hp (evO C fr x) (mpE hp (evO C fr x)) (evO C fr y) (evO C fr z)) fun hp => evOps C os ⟨fr, hp, nx⟩ := by
  rw [o_e _ fun _ => rfl]
  simp only [evE]
  generalize evO C fr x = gx
  generalize evO C fr y = gy
  generalize evO C fr z = gz
  cases gx with
  | mp id =>
    cases gy with
    | v k =>
      cases gz with
      | v xx =>
        simp only [mpE]
        generalize lkh hp id = q
        rcases q with _ | ⟨cs | ⟨z, els⟩ | es⟩
        · rfl
        · rfl
        · rfl
        · simp only [mapE, mupD]
          simp only [bd, Option.bind_some]
          split
          · cases mfind s k es 0 with
            | none => rfl
            | some r => cases r <;> rfl
          · rfl
      | _ => simp only [mpE]; cases mapE (lkh hp id) <;> rfl
    | _ => cases gz <;> (simp only [mpE]; cases mapE (lkh hp id) <;> rfl)
  | _ => cases gy <;> cases gz <;> rfl
theorem o_men {s : Bool} {z : K} : evOps C (⟨d, .men s z x y, none, false⟩ :: os) ⟨fr, hp, nx⟩ = bd (menD s (kone z) hp (evO C fr x) (mpE hp (evO C fr x)) (evO C fr y)) fun r => evOps C os ⟨put d r.1 fr, r.2, nx⟩ := by
  rw [o_e _ fun _ => rfl]
  simp only [evE]
  generalize evO C fr x = gx
  generalize evO C fr y = gy
  cases gx with
  | mp id =>
    cases gy with
    | v k =>
      simp only [mpE]
      generalize lkh hp id = q
      rcases q with _ | ⟨cs | ⟨z, els⟩ | es⟩
      · rfl
      · rfl
      · rfl
      · simp only [mapE, menD]
        cases kone z with
        | none => rfl
        | some zz =>
          simp only [bd, Option.bind_some]
          split
          · cases mfind s k es 0 with
            | none => rfl
            | some r => cases r <;> rfl
          · rfl
    | _ => simp only [mpE]; cases mapE (lkh hp id) <;> rfl
  | _ => cases gy <;> rfl
theorem o_mes : evOps C (⟨none, .mes x y z, none, false⟩ :: os) ⟨fr, hp, nx⟩ = bd (mesD hp (evO C fr x) (mpE hp (evO C fr x)) (evO C fr y) (evO C fr z)) fun hp => evOps C os ⟨fr, hp, nx⟩ := by
  rw [o_e _ fun _ => rfl]
  simp only [evE]
  generalize evO C fr x = gx
  generalize evO C fr y = gy
  generalize evO C fr z = gz
  cases gx with
  | mp id =>
    cases gy with
    | v k =>
      cases k with
      | int ik i =>
        cases gz with
        | v xx =>
          simp only [mpE]
          generalize lkh hp id = q
          rcases q with _ | ⟨cs | ⟨z, els⟩ | es⟩
          · rfl
          · rfl
          · rfl
          · simp only [mapE, mesD]
            simp only [bd, Option.bind_some]
            split
            · cases es[i.toNat]? <;> rfl
            · rfl
        | _ => simp only [mpE]; cases mapE (lkh hp id) <;> rfl
      | _ => cases gz <;> (simp only [mpE]; cases mapE (lkh hp id) <;> rfl)
    | _ => cases gz <;> (simp only [mpE]; cases mapE (lkh hp id) <;> rfl)
  | _ =>
    cases gy with
    | v k => cases k <;> cases gz <;> rfl
    | _ => cases gz <;> rfl
theorem o_apq {sz bytes : Nat} : evOps C (⟨d, .apq sz bytes x y, none, l⟩ :: os) ⟨fr, hp, nx⟩ = bd (elD (hpl l hp) (evO C fr y)) fun news => bd (apqD sz bytes news (evO C fr x)) fun v => evOps C os ⟨put d v fr, hp, nx⟩ := by
  rw [o_q _ fun _ => rfl]
  simp only [evQ]
  have e : newsOf (hpl l hp) (evO C fr y) = elD (hpl l hp) (evO C fr y) := by
    generalize evO C fr y = gy
    cases gy with
    | own id n =>
      simp only [newsOf, elD]
      generalize lkh (hpl l hp) id = q
      rcases q with _ | ⟨cs | ⟨z, els⟩ | es⟩ <;> rfl
    | _ => rfl
  rw [e]
  cases elD (hpl l hp) (evO C fr y) with
  | none => rfl
  | some news =>
    generalize evO C fr x = gx
    cases gx with
    | lst b es => cases b <;> rfl
    | _ => rfl
theorem o_slc : evOps C (⟨d, .slc x y, none, l⟩ :: os) ⟨fr, hp, nx⟩ = bd (slcD (evO C fr x) (evO C fr y)) fun v => evOps C os ⟨put d v fr, hp, nx⟩ := nr rfl
theorem o_fld {ag : Bool} {n off : Nat} : evOps C (⟨d, .fld ag n off x, none, l⟩ :: os) ⟨fr, hp, nx⟩ = bd (fldD ag n off (evO C fr x)) fun v => evOps C os ⟨put d v fr, hp, nx⟩ := nr rfl
theorem o_nilc : evOps C (⟨d, .nilc x, none, l⟩ :: os) ⟨fr, hp, nx⟩ = bd (nilcD (evO C fr x)) fun v => evOps C os ⟨put d v fr, hp, nx⟩ := nr rfl
theorem o_ext {i : Nat} : evOps C (⟨d, .ext x i, none, l⟩ :: os) ⟨fr, hp, nx⟩ = bd (extD i (evO C fr x)) fun v => evOps C os ⟨put d v fr, hp, nx⟩ := nr rfl
theorem o_bi {op : BinOp} {k : BK} : evOps C (⟨d, .bi op k x y, none, l⟩ :: os) ⟨fr, hp, nx⟩ = bd (evBi op k (evO C fr x) (evO C fr y)) fun v => evOps C os ⟨put d v fr, hp, nx⟩ := nr rfl
theorem o_un {op : UnOp} : evOps C (⟨d, .un op x, none, l⟩ :: os) ⟨fr, hp, nx⟩ = bd (evUn op (evO C fr x)) fun v => evOps C os ⟨put d v fr, hp, nx⟩ := nr rfl
theorem o_cv {k : IntKind} : evOps C (⟨d, .cv k x, none, l⟩ :: os) ⟨fr, hp, nx⟩ = bd (cvD k (evO C fr x)) fun v => evOps C os ⟨put d v fr, hp, nx⟩ := by
  rw [o_q _ fun _ => rfl]; congr 1
  simp only [evQ]
  generalize evO C fr x = gx
  unfold cvD intOf'
  split
  · simp
  · split <;> simp_all
theorem o_len : evOps C (⟨d, .len false x, none, l⟩ :: os) ⟨fr, hp, nx⟩ = bd (elD (hpl l hp) (evO C fr x)) fun es => evOps C os ⟨put d (.v (.int .i64 es.length)) fr, hp, nx⟩ := by
  rw [o_q _ fun _ => rfl]
  simp only [evQ]
  generalize evO C fr x = gx
  cases gx with
  | own id n =>
    simp only [elD]
    generalize lkh (hpl l hp) id = q
    rcases q with _ | ⟨cs | ⟨z, els⟩ | es⟩
    · rfl
    · rfl
    · simp only [rowE, bd]; split <;> rfl
    · rfl
  | _ => rfl
theorem o_lens : evOps C (⟨d, .len true x, none, l⟩ :: os) ⟨fr, hp, nx⟩ = bd (lenS (evO C fr x)) fun v => evOps C os ⟨put d v fr, hp, nx⟩ := nr rfl
theorem o_mx {mn : Bool} : evOps C (⟨d, .mx mn x y, none, l⟩ :: os) ⟨fr, hp, nx⟩ = bd (mxD mn (evO C fr x) (evO C fr y)) fun v => evOps C os ⟨put d v fr, hp, nx⟩ := nr rfl
theorem o_bld {zero : List K} {parts : List (Nat × Nat × Opd)} : evOps C (⟨d, .bld zero parts, none, l⟩ :: os) ⟨fr, hp, nx⟩ =
    bd (layd (zero.map K.d) (parts.map fun (o, n, x) => (o, n, evO C fr x))) fun cs => evOps C os ⟨put d (.agg cs) fr, hp, nx⟩ := by
  rw [o_q _ fun _ => rfl]
  simp only [evQ, bd]
  cases layd (zero.map K.d) (parts.map fun (o, n, x) => (o, n, evO C fr x)) <;> rfl
theorem o_bsl {sz len : Nat} {zero : List K} {parts : List (Nat × Opd)} : evOps C (⟨d, .bsl sz zero len parts, none, l⟩ :: os) ⟨fr, hp, nx⟩ =
    bd (expo.expos (hpl l hp) (parts.map fun (_, x) => evO C fr x)) fun ds =>
      if (ds.all fun d => (dcells d).length == sz && (dcells d).all okc) && decide (len * sz ≤ 16777216) && decide (0 < sz) then
        evOps C os ⟨put d (.lst true (elems (zero.map K.d) ((parts.map (·.1)).zip ds) len)) fr, hp, nx⟩ else none := by
  rw [o_q _ fun _ => rfl]
  simp only [evQ, bd]
  cases expo.expos (hpl l hp) (parts.map fun (_, x) => evO C fr x) with
  | none => rfl
  | some ds =>
    simp only [Option.bind_some]
    split <;> rfl
theorem o_mkf {f : Nat} {caps : List Opd} : evOps C (⟨d, .mkf f caps, none, l⟩ :: os) ⟨fr, hp, nx⟩ = evOps C os ⟨put d (.fn f (caps.map (evO C fr))) fr, hp, nx⟩ := nr rfl
theorem o_call {args : List Opd} : evOps C (⟨d, .call x args, none, l⟩ :: os) ⟨fr, hp, nx⟩ = callD l C d os fr hp nx (args.map (evO C fr)) (evO C fr x) := by
  cases h : evO C fr x with
  | fn f ds =>
    cases hT : C.T f with
    | none => cases l <;> simp [evOps, want, isQ, evQ, evE, callD, cT, h, hT, bd]
    | some s =>
      simp only [evOps, want, isQ, evQ, callD, cT, h, hT, bd, Option.isSome_some, if_true]
      cases expo.expos (hpl l hp) (args.map (evO C fr) ++ ds) <;> rfl
  | _ => cases l <;> simp [evOps, want, isQ, evQ, evE, callD, cT, h]
theorem o_box : evOps C (⟨d, .box x, none, false⟩ :: os) ⟨fr, hp, nx⟩ = if (dcells (evO C fr x)).all okc = true then evOps C os ⟨put d (.ptr nx 0) fr, (nx, .box (dcells (evO C fr x))) :: hp, nx + 1⟩ else none := by
  rw [o_e _ fun _ => rfl]
  simp only [evE, bd]
  split <;> rfl
theorem o_alc {zero : List K} : evOps C (⟨d, .alc zero, none, false⟩ :: os) ⟨fr, hp, nx⟩ = evOps C os ⟨put d (.ptr nx 0) fr, (nx, .box (zero.map K.d)) :: hp, nx + 1⟩ := nr rfl
theorem o_st {n : Nat} : evOps C (⟨none, .st n x y, none, false⟩ :: os) ⟨fr, hp, nx⟩ = bd (stD hp n (dcells (evO C fr y)) (evO C fr x)) fun hp => evOps C os ⟨fr, hp, nx⟩ := by
  rw [o_e _ fun _ => rfl]
  simp only [evE]
  generalize evO C fr x = gx
  cases gx with
  | ptr id off =>
    simp only [stD]
    generalize lkh hp id = q
    rcases q with _ | ⟨cs | ⟨z, els⟩ | es⟩
    · rfl
    · simp only [stB, bd]; split <;> rfl
    · rfl
    · rfl
  | _ => rfl
theorem o_app {sz bytes : Nat} : evOps C (⟨d, .app sz bytes x y, none, false⟩ :: os) ⟨fr, hp, nx⟩ = bd (elD hp (evO C fr y)) fun news =>
    if (news.all fun e => e.length == sz) && decide (0 < sz) then bd (appD hp nx sz bytes news (evO C fr x)) fun r => evOps C os ⟨put d r.1 fr, r.2.1, r.2.2⟩ else none := by
  rw [o_e _ fun _ => rfl]
  simp only [evE]
  have e : newsOf hp (evO C fr y) = elD hp (evO C fr y) := by
    generalize evO C fr y = gy
    cases gy with
    | own id n =>
      simp only [newsOf, elD]
      generalize lkh hp id = q
      rcases q with _ | ⟨cs | ⟨z, els⟩ | es⟩ <;> rfl
    | _ => rfl
  rw [e]
  simp only [bd]
  cases elD hp (evO C fr y) with
  | none => rfl
  | some news =>
    simp only [Option.bind_some]
    split
    · congr 1
    · rfl
theorem lkf_cons {t j : Nat} {v : D} : lkf ((j, v) :: fr) t = if t = j then v else lkf fr t := nr rfl
theorem lkh_cons {t j : Nat} {b : Blk} : lkh ((j, b) :: hp) t = if t = j then some b else lkh hp t := nr rfl
theorem uph_cons {t j : Nat} {b c : Blk} : uph ((j, b) :: hp) t c = if t = j then (j, c) :: hp else (j, b) :: uph hp t c := nr rfl
theorem put_s {t : Nat} {v : D} : put (some t) v fr = (t, v) :: fr := nr rfl
theorem put_n {v : D} : put none v fr = fr := nr rfl
theorem evO_t {i : Nat} : evO C fr (.t i) = lkf fr i := nr rfl
theorem evO_k {k : K} : evO C fr (.k k) = k.d := nr rfl
theorem evO_f {n : Nat} : evO C fr (.f n) = .fn n [] := nr rfl
theorem Kd_int {k : IntKind} {n : Int} : (K.int k n).d = .v (.int k n) := nr rfl
theorem Kd_bool {b : Bool} : (K.bool b).d = .v (.bool b) := nr rfl
theorem Kd_str {b : List Nat} : (K.str b).d = .v (.string ⟨(b.map UInt8.ofNat).toArray⟩) := nr rfl
theorem Kd_nilS : K.nilS.d = .lst true [] := nr rfl
theorem int_beq (a b : Int) : (a == b) = decide (a = b) := by by_cases h : a = b <;> simp [h]
theorem bi_add {k : IntKind} {a b : Int} : evBi .add .int (.v (.int k a)) (.v (.int k b)) = some (.v (.int k (k.wrap (a + b)))) := by simp [evBi, evInt]
theorem bi_sub {k : IntKind} {a b : Int} : evBi .sub .int (.v (.int k a)) (.v (.int k b)) = some (.v (.int k (k.wrap (a - b)))) := by simp [evBi, evInt]
theorem bi_mul {k : IntKind} {a b : Int} : evBi .mul .int (.v (.int k a)) (.v (.int k b)) = some (.v (.int k (k.wrap (a * b)))) := by simp [evBi, evInt]
theorem bi_lss {k : IntKind} {a b : Int} : evBi .lss .int (.v (.int k a)) (.v (.int k b)) = some (.v (.bool (decide (a < b)))) := by simp [evBi, evInt]
theorem bi_leq {k : IntKind} {a b : Int} : evBi .leq .int (.v (.int k a)) (.v (.int k b)) = some (.v (.bool (decide (a ≤ b)))) := by simp [evBi, evInt]
theorem bi_gtr {k : IntKind} {a b : Int} : evBi .gtr .int (.v (.int k a)) (.v (.int k b)) = some (.v (.bool (decide (b < a)))) := by simp [evBi, evInt]
theorem bi_geq {k : IntKind} {a b : Int} : evBi .geq .int (.v (.int k a)) (.v (.int k b)) = some (.v (.bool (decide (b ≤ a)))) := by simp [evBi, evInt]
theorem bi_eql {k : IntKind} {a b : Int} : evBi .eql .int (.v (.int k a)) (.v (.int k b)) = some (.v (.bool (decide (a = b)))) := by simp [evBi, evInt, int_beq]
theorem bi_neq {k : IntKind} {a b : Int} : evBi .neq .int (.v (.int k a)) (.v (.int k b)) = some (.v (.bool (!decide (a = b)))) := by simp [evBi, evInt, bne, int_beq]
theorem ba_beq (a b : ByteArray) : (a == b) = decide (a = b) := by
  by_cases h : a = b
  · subst h; rw [beq_toListBytes]; simp
  · rw [beq_toListBytes]
    simp only [h, decide_false, beq_eq_false_iff_ne, ne_eq]
    rw [ByteArray.toList_eq, ByteArray.toList_eq]
    intro e
    apply h
    cases a; cases b
    simp only [ByteArray.mk.injEq]
    exact Array.toList_inj.1 e
theorem bi_seq {a b : ByteArray} : evBi .eql .str (.v (.string a)) (.v (.string b)) = some (.v (.bool (decide (a = b)))) := by
  simp only [evBi, evStr, Option.map_some, Option.some.injEq, D.v.injEq, Value.bool.injEq]
  rw [← beq_toListBytes, ba_beq]
theorem bi_sne {a b : ByteArray} : evBi .neq .str (.v (.string a)) (.v (.string b)) = some (.v (.bool (!decide (a = b)))) := by
  simp only [evBi, evStr, Option.map_some, Option.some.injEq, D.v.injEq, Value.bool.injEq]
  rw [← beq_toListBytes, ba_beq]
theorem bi_beq {a b : Bool} : evBi .eql .bool (.v (.bool a)) (.v (.bool b)) = some (.v (.bool (a == b))) := nr rfl
theorem bi_bne {a b : Bool} : evBi .neq .bool (.v (.bool a)) (.v (.bool b)) = some (.v (.bool (!(a == b)))) := nr rfl
theorem bi_and {k : IntKind} {a b : Int} : evBi .and .int (.v (.int k a)) (.v (.int k b)) = some (.v (.int k (k.wrap (BitVec.ofInt k.bits a &&& BitVec.ofInt k.bits b).toNat))) := by simp [evBi, evInt]
theorem bi_or {k : IntKind} {a b : Int} : evBi .or .int (.v (.int k a)) (.v (.int k b)) = some (.v (.int k (k.wrap (BitVec.ofInt k.bits a ||| BitVec.ofInt k.bits b).toNat))) := by simp [evBi, evInt]
theorem bi_anot {k : IntKind} {a b : Int} : evBi .andNot .int (.v (.int k a)) (.v (.int k b)) = some (.v (.int k (k.wrap (BitVec.ofInt k.bits a &&& ~~~(BitVec.ofInt k.bits b)).toNat))) := by simp [evBi, evInt]
theorem bi_quo {k : IntKind} {a b : Int} : evBi .quo .int (.v (.int k a)) (.v (.int k b)) = if b = 0 then none else some (.v (.int k (k.wrap (a.tdiv b)))) := by simp [evBi, evInt]; split <;> simp
theorem bi_rem {k : IntKind} {a b : Int} : evBi .rem .int (.v (.int k a)) (.v (.int k b)) = if b = 0 then none else some (.v (.int k (a.tmod b))) := by simp [evBi, evInt]; split <;> simp
theorem bi_shl {k k' : IntKind} {a b : Int} : evBi .shl .int (.v (.int k a)) (.v (.int k' b)) = if b < 0 then none else some (.v (.int k (k.wrap (a * 2 ^ (min b.toNat k.bits))))) := by simp [evBi, evInt]; split <;> simp
theorem bi_shr {k k' : IntKind} {a b : Int} : evBi .shr .int (.v (.int k a)) (.v (.int k' b)) = if b < 0 then none else some (.v (.int k (a.fdiv (2 ^ (min b.toNat k.bits))))) := by simp [evBi, evInt]; split <;> simp
theorem bi_sadd {a b : ByteArray} : evBi .add .str (.v (.string a)) (.v (.string b)) = if a.size + b.size ≤ 9223372036854775807 then some (.v (.string (a ++ b))) else none := by simp [evBi, evStr]
theorem bi_aeq {ks : List Bool} {xs ys : List D} : evBi .eql (.ag ks) (.agg xs) (.agg ys) = bd (eqCells ks xs ys) fun r => some (.v (.bool r)) := by simp [evBi, bd]; cases eqCells ks xs ys <;> rfl
theorem bi_ane {ks : List Bool} {xs ys : List D} : evBi .neq (.ag ks) (.agg xs) (.agg ys) = bd (eqCells ks xs ys) fun r => some (.v (.bool (!r))) := by simp [evBi, bd]; cases eqCells ks xs ys <;> rfl
theorem eqc_nil : eqCells [] [] [] = some true := nr rfl
theorem eqc_int {ks : List Bool} {xs ys : List D} {k : IntKind} {a b : Int} : eqCells (false :: ks) (.v (.int k a) :: xs) (.v (.int k b) :: ys) = bd (eqCells ks xs ys) fun r => some (decide (a = b) && r) := by
  simp only [eqCells, if_true, bd, int_beq]; cases eqCells ks xs ys <;> rfl
theorem eqc_str {ks : List Bool} {xs ys : List D} {a b : ByteArray} : eqCells (true :: ks) (.v (.string a) :: xs) (.v (.string b) :: ys) = bd (eqCells ks xs ys) fun r => some (decide (a = b) && r) := by
  simp only [eqCells, bd, ba_beq]; cases eqCells ks xs ys <;> rfl
theorem un_neg {k : IntKind} {a : Int} : evUn .neg (.v (.int k a)) = some (.v (.int k (k.wrap (0 - a)))) := nr rfl
theorem un_not {b : Bool} : evUn .not (.v (.bool b)) = some (.v (.bool (!b))) := nr rfl
variable {N : Nat} {a b : IC} {σ : St}
theorem c_skip : ev C N .skip σ = some (.nm, σ) := nr rfl
theorem c_ret : ev C N .ret σ = some (.rt, σ) := nr rfl
theorem c_exit {i : Nat} : ev C N (.exit i) σ = some (.ex i, σ) := nr rfl
theorem c_reg {dr : Bool} : ev C N (.reg os dr) σ = bd (evOps C os σ) fun σ => some (.nm, σ) := by
  simp only [ev, bd]; cases evOps C os σ <;> rfl
theorem c_seq : ev C N (.seq a b) σ = sq (ev C N a σ) fun σ => ev C N b σ := by
  rfl
theorem c_cond {x : Opd} : ev C N (.cond x a b) ⟨fr, hp, nx⟩ = cn (evO C fr x) (fun _ => ev C N a ⟨fr, hp, nx⟩) (fun _ => ev C N b ⟨fr, hp, nx⟩) := by
  simp only [ev, cn, gb]
  generalize evO C fr x = g
  unfold boolOf
  split <;> rename_i h
  · split at h <;> simp_all
  · split at h <;> simp_all
theorem c_blk {i : Nat} : ev C N (.blk i a) σ = bk i (ev C N a σ) := by
  rfl
theorem c_loop {keep : List Nat} : ev C N (.loop keep a) σ = iter (ev C N a) (trim keep σ.nx) N σ := nr rfl
theorem c_rng {x : Opd} {ps keep : List Nat} : ev C N (.rng x ps keep a b) ⟨fr, hp, nx⟩ = fnD2 (fun gf caps => bd (frz hp caps) fun r => bd (C.I gf r.2) fun xs => bd (trim keep nx ⟨fr, r.1, nx⟩) fun τ => rnds (round ps (ev C N a) (ev C N b)) (trim keep nx) xs τ) (evO C fr x) := by
  simp only [ev]; cases evO C fr x <;> rfl
end
theorem rn_nil {f : List D → St → Option (Ex × St)} {tr : St → Option St} {σ : St} : rnds f tr [] σ = some (.nm, σ) := nr rfl
def rnK (f : List D → St → Option (Ex × St)) (tr : St → Option St) (xs : List (List D)) (σ : St) : Option (Ex × St) → Option (Ex × St)
  | some (.nm, σ') => bd (tr ⟨σ.fr, σ'.hp, σ'.nx⟩) (rnds f tr xs)
  | some (e, σ') => some (e, ⟨σ.fr, σ'.hp, σ'.nx⟩)
  | none => none
theorem rn_cons {f : List D → St → Option (Ex × St)} {tr : St → Option St} {x : List D} {xs : List (List D)} {σ : St} : rnds f tr (x :: xs) σ = rnK f tr xs σ (f x σ) := by
  simp only [rnds, rnK, bd]
  cases f x σ with
  | none => rfl
  | some r => obtain ⟨e, σ'⟩ := r; cases e <;> rfl
theorem rnK_nm {f : List D → St → Option (Ex × St)} {tr : St → Option St} {xs : List (List D)} {σ σ' : St} : rnK f tr xs σ (some (.nm, σ')) = bd (tr ⟨σ.fr, σ'.hp, σ'.nx⟩) (rnds f tr xs) := nr rfl
theorem rnK_ex {f : List D → St → Option (Ex × St)} {tr : St → Option St} {xs : List (List D)} {σ σ' : St} {i : Nat} : rnK f tr xs σ (some (.ex i, σ')) = some (.ex i, ⟨σ.fr, σ'.hp, σ'.nx⟩) := nr rfl
theorem rnK_rt {f : List D → St → Option (Ex × St)} {tr : St → Option St} {xs : List (List D)} {σ σ' : St} : rnK f tr xs σ (some (.rt, σ')) = some (.rt, ⟨σ.fr, σ'.hp, σ'.nx⟩) := nr rfl
def nmB (B : St → Option (Ex × St)) : Option (Ex × St) → Option (Ex × St)
  | some (.nm, τ1) => B τ1
  | _ => none
theorem nmB_nm {B : St → Option (Ex × St)} {σ : St} : nmB B (some (.nm, σ)) = B σ := nr rfl
theorem rd_eq {ps : List Nat} {A B : St → Option (Ex × St)} {x : List D} {τ : St} : round ps A B x τ = if x.length = ps.length ∧ cl.cls x = true then nmB B (A ⟨putl ps x τ.fr, τ.hp, τ.nx⟩) else none := by
  simp only [round]; split
  · cases A ⟨putl ps x τ.fr, τ.hp, τ.nx⟩ with
    | none => rfl
    | some r => obtain ⟨e, σ⟩ := r; cases e <;> rfl
  · rfl
end Go.Proofs.Dv
set_option linter.unusedVariables false
set_option linter.defProp false
set_option linter.unusedSimpArgs false
namespace Go.Proofs.Dv
open Go.RowKit
def EV0 := And.intro @bd_some (And.intro @bd_none (And.intro @sq_nm (And.intro @sq_ex (And.intro @sq_rt (And.intro @bk_nm (And.intro @bk_rt (And.intro @bk_ex (And.intro @gb_t (And.intro @gb_f (And.intro @gd_b (And.intro @gd_c (And.intro @gd_t (And.intro @cn_b (And.intro @ld_ptr (And.intro @ldB_1 (And.intro @ldB_2 (And.intro @ld_rp1 (And.intro @ld_rp2 (And.intro @fa_ptr (And.intro @fa_rp (And.intro @el_lst (And.intro @el_own (And.intro @rowE_row (And.intro @pk_b (And.intro @len_str (And.intro @ext_tup (And.intro @fld_1 (And.intro @fld_2 (And.intro @nilc_ptr (And.intro @nilc_rp (And.intro @nilc_fn (And.intro @cv_int (And.intro @mx_int (And.intro @st_ptr (And.intro @stB_box (And.intro @app_own (And.intro @call_fn (And.intro @cT_some (@cT_none)))))))))))))))))))))))))))))))))))))))
def EV1 := And.intro @o_nil (And.intro @hpl_t (And.intro @hpl_f (And.intro @o_gd (And.intro @o_mv (And.intro @o_pick (And.intro @o_ld (And.intro @o_fa (And.intro @o_ia (And.intro @o_fld (And.intro @o_nilc (And.intro @o_ext (And.intro @o_bi (And.intro @o_un (And.intro @o_cv (And.intro @o_len (And.intro @o_lens (And.intro @o_mx (And.intro @o_bld (And.intro @o_mkf (And.intro @o_call (And.intro @o_box (And.intro @o_alc (And.intro @o_st (And.intro @o_msl (And.intro @o_iaa (And.intro @o_ixs (And.intro @o_sls (And.intro @o_mmk (And.intro @o_mlk (And.intro @o_mup (And.intro @o_men (And.intro @o_mes (And.intro @o_slc (And.intro @mapE_map (And.intro @mp_mp (And.intro @mlkR_some (And.intro @mlkR_none (And.intro @mlk_v (@mset_some)))))))))))))))))))))))))))))))))))))))
def EV2 := And.intro @mset_none (And.intro @mup_v (And.intro @menR_some (And.intro @menR_none (And.intro @men_v (And.intro @mes_v (And.intro @kone_int (And.intro @kone_bool (And.intro @isK_int (And.intro @isK_str (And.intro @intD_int (And.intro @bnd_none (And.intro @bnd_some (And.intro @lkf_cons (And.intro @lkh_cons (And.intro @uph_cons (And.intro @put_s (And.intro @put_n (And.intro @evO_t (And.intro @evO_k (And.intro @evO_f (And.intro @Kd_int (And.intro @Kd_bool (And.intro @Kd_str (And.intro @Kd_nilS (And.intro @bi_add (And.intro @bi_sub (And.intro @bi_mul (And.intro @bi_lss (And.intro @bi_leq (And.intro @bi_gtr (And.intro @bi_geq (And.intro @bi_eql (And.intro @bi_neq (And.intro @bi_seq (And.intro @bi_sne (And.intro @bi_beq (And.intro @bi_bne (And.intro @bi_and (@bi_or)))))))))))))))))))))))))))))))))))))))
def EV3 := And.intro @bi_anot (And.intro @bi_aeq (And.intro @bi_ane (And.intro @eqc_nil (And.intro @eqc_int (And.intro @eqc_str (And.intro @un_neg (And.intro @un_not (And.intro @c_skip (And.intro @c_ret (And.intro @c_exit (And.intro @c_reg (And.intro @c_seq (And.intro @c_cond (And.intro @c_blk (And.intro @c_loop (And.intro @exs_nil (And.intro @exs_cons (And.intro @ex_v (And.intro @ex_lst (And.intro @ex_rp (And.intro @ex_agg (And.intro @ex_fn (And.intro @ex_own (And.intro @o_apq (And.intro @fn2_fn (And.intro @rn_nil (And.intro @rn_cons (And.intro @rnK_nm (And.intro @rnK_ex (And.intro @rnK_rt (@nmB_nm)))))))))))))))))))))))))))))))
def EVd := And.intro @bd_some' (And.intro @bd_none' (And.intro @sq_nm' (And.intro @sq_ex' (And.intro @sq_rt' (And.intro @bk_nm' (And.intro @bk_rt' (And.intro @bk_ex' (And.intro @gb_t' (And.intro @gb_f' (And.intro @gd_b' (And.intro @gd_c' (And.intro @gd_t' (And.intro @cn_b' (And.intro @call_fn' (And.intro @cT_some' (@cT_none'))))))))))))))))
def EVc := And.intro @List.map_cons.{0, 0} (And.intro @List.map_nil.{0, 0} (And.intro @List.cons_append.{0} (And.intro @List.nil_append.{0} (And.intro @List.append_nil.{0} (And.intro @List.take_succ_cons.{0} (And.intro @List.take_zero.{0} (And.intro @List.drop_succ_cons.{0} (And.intro @List.drop_zero.{0} (And.intro @List.length_cons.{0} (And.intro @List.length_nil.{0} (And.intro @List.all_cons.{0} (And.intro @List.all_nil.{0} (And.intro @List.getElem?_cons_succ.{0} (And.intro @List.getElem?_cons_zero.{0} (And.intro @List.length_map.{0, 0} (And.intro @List.getElem?_map.{0, 0} (And.intro @Option.map_some.{0, 0} (And.intro @Option.bind_some.{0, 0} (And.intro @Bool.and_true (And.intro @Bool.true_and (And.intro @Bool.and_self (And.intro @Bool.not_true (And.intro @Bool.not_false (And.intro @Bool.or_true (And.intro @Bool.or_false (And.intro @Bool.true_or (And.intro @Bool.false_or (And.intro @and_self (And.intro @true_and (And.intro @and_true (And.intro @beq_self_eq_true.{0} (And.intro @Int.toNat_natCast (And.intro @Nat.le_refl (And.intro @Bool.false_eq_true (And.intro @Bool.and_false (And.intro @Bool.false_and (And.intro @Bool.or_self (And.intro @decide_true (And.intro @decide_false (And.intro @Int.natCast_nonneg (And.intro @Nat.lt_irrefl (And.intro @List.drop_nil.{0} (@List.take_nil.{0})))))))))))))))))))))))))))))))))))))))))))
theorem EVl : (∀ {x : Value}, lenOK (.v x) ↔ True) ∧ (∀ {ds : List D}, lenOK (.agg ds) ↔ lenOK.lenOKs ds) ∧ (∀ {ex : Bool} {es : List (List D)}, lenOK (.lst ex es) ↔ es.length ≤ maxLen ∧ lenOK.lenOKss es) ∧ (∀ {ds : List D}, lenOK (.rp ds) ↔ lenOK.lenOKs ds) ∧
    (∀ {f : Nat} {ds : List D}, lenOK (.fn f ds) ↔ lenOK.lenOKs ds) ∧ (∀ {ds : List D}, lenOK (.tup ds) ↔ lenOK.lenOKs ds) ∧ (lenOK.lenOKs [] ↔ True) ∧ (∀ {d : D} {ds : List D}, lenOK.lenOKs (d :: ds) ↔ lenOK d ∧ lenOK.lenOKs ds) := by
  refine ⟨?_, ?_, ?_, ?_, ?_, ?_, ?_, ?_⟩ <;> intros <;> simp only [lenOK, lenOK.lenOKs]
inductive Sc (α β : Type) where
  | go (a : α)
  | out (b : β)
def scan {α β X : Type} (g : α → X → Sc α β) : α → List X → Sc α β
  | a, [] => .go a
  | a, x :: xs => match g a x with
    | .go a' => scan g a' xs
    | .out b => .out b
theorem wrap_i64 {n : Int} (h : -9223372036854775808 ≤ n) (h' : n ≤ 9223372036854775807) : IntKind.i64.wrap n = n := by
  rw [IntKind.wrap_i64]; omega
theorem wrap_succ {i n : Nat} (h : i < n) (hn : n ≤ maxLen) : IntKind.i64.wrap ((i : Int) + 1) = ((i + 1 : Nat) : Int) := by
  rw [IntKind.wrap_i64]; simp only [maxLen] at hn; omega
def runE (C : Ctx) (N : Nat) (F : IFun) (ds : List D) : Option D := bd (run C N F ds [] 0) fun r => expo r.2.1 r.1
def Runs (C : Ctx) (F : IFun) (s : List D → Option D) : Prop := ∀ N, maxLen + 10 < N → ∀ ds r, lenOK.lenOKs ds → s ds = some r → runE C N F ds = some r
def fin (rs : List RV) : Option (Ex × St) → Option (D × List (Nat × Blk) × Nat)
  | some (.nm, σ) | some (.rt, σ) => bd (resDs σ.fr σ.hp rs) fun d => some (d, σ.hp, σ.nx)
  | _ => none
theorem fin_nm {F : List RV} {σ : St} : fin F (some (.nm, σ)) = bd (resDs σ.fr σ.hp F) fun d => some (d, σ.hp, σ.nx) := nr rfl
theorem fin_rt {F : List RV} {σ : St} : fin F (some (.rt, σ)) = bd (resDs σ.fr σ.hp F) fun d => some (d, σ.hp, σ.nx) := nr rfl
def zn : Nat → List D → List (Nat × D)
  | _, [] => []
  | k, d :: ds => (k, d) :: zn (k + 1) ds
theorem zn_nil {k : Nat} : zn k [] = [] := nr rfl
theorem zn_cons {k : Nat} {d : D} {ds : List D} : zn k (d :: ds) = (k, d) :: zn (k + 1) ds := nr rfl
theorem zn_eq : ∀ (ds : List D) (k : Nat), (List.range' k ds.length).zip ds = zn k ds
  | [], k => by simp [zn]
  | d :: ds, k => by rw [List.length_cons, List.range'_succ, List.zip_cons_cons, zn_eq ds (k + 1)]; rfl
theorem run_eq {C : Ctx} {N np : Nat} {res : List RV} {body : IC} {args : List D} {hp : List (Nat × Blk)} {nx : Nat} (h : args.length = np) :
    run C N ⟨np, res, body⟩ args hp nx = fin res (ev C N body ⟨zn 0 args, hp, nx⟩) := by
  subst h
  rw [← zn_eq args 0, ← List.range_eq_range']
  simp only [run, if_true, fin]
  cases ev C N body ⟨(List.range args.length).zip args, hp, nx⟩ with
  | none => rfl
  | some r =>
    obtain ⟨e, σ⟩ := r
    cases e <;> (try rfl) <;> (simp only [bd]; cases resDs σ.fr σ.hp res <;> rfl)
theorem res_0 {fr : List (Nat × D)} {hp : List (Nat × Blk)} : resDs fr hp [] = some (.tup []) := nr rfl
theorem res_1 {fr : List (Nat × D)} {hp : List (Nat × Blk)} {r : RV} : resDs fr hp [r] = resD fr hp r := nr rfl
theorem res_2 {fr : List (Nat × D)} {hp : List (Nat × Blk)} {r s : RV} : resDs fr hp [r, s] = bd (resD fr hp r) fun a => bd (resD fr hp s) fun b => some (.tup [a, b]) := by
  simp only [resDs, List.mapM_cons, List.mapM_nil, bd]
  cases resD fr hp r <;> cases resD fr hp s <;> rfl
theorem res_t {fr : List (Nat × D)} {hp : List (Nat × Blk)} {i : Nat} : resD fr hp (.t i) = some (lkf fr i) := nr rfl
def rcD (hp : List (Nat × Blk)) (ag : Bool) (n : Nat) : D → Option D
  | .ptr id off => ldB ag n off (lkh hp id)
  | _ => none
theorem rc_ptr {hp : List (Nat × Blk)} {ag : Bool} {n id off : Nat} : rcD hp ag n (.ptr id off) = ldB ag n off (lkh hp id) := nr rfl
theorem res_c {fr : List (Nat × D)} {hp : List (Nat × Blk)} {ag : Bool} {n i : Nat} : resD fr hp (.cell ag n i) = rcD hp ag n (lkf fr i) := by
  simp only [resD, rcD]
  generalize lkf fr i = g
  cases g with
  | ptr id off =>
    simp only [ldB]
    generalize lkh hp id = q
    rcases q with _ | ⟨cs | ⟨z, els⟩ | es⟩ <;> rfl
  | _ => rfl
theorem bd_gb {α β : Type} {c : Bool} {A B : Unit → Option α} {k : α → Option β} {_ : Dm A} {_ : Dm B} {_ : Dm k} : bd (gb c A B) k = gb c (fun _ => bd (A ()) k) (fun _ => bd (B ()) k) := by cases c <;> rfl
theorem sq_gb {c : Bool} {A B : Unit → Option (Ex × St)} {k : St → Option (Ex × St)} {_ : Dm A} {_ : Dm B} {_ : Dm k} : sq (gb c A B) k = gb c (fun _ => sq (A ()) k) (fun _ => sq (B ()) k) := by cases c <;> rfl
theorem bk_gb {c : Bool} {A B : Unit → Option (Ex × St)} {i : Nat} {_ : Dm A} {_ : Dm B} : bk i (gb c A B) = gb c (fun _ => bk i (A ())) (fun _ => bk i (B ())) := by cases c <;> rfl
theorem fin_gb {F : List RV} {c : Bool} {A B : Unit → Option (Ex × St)} {_ : Dm A} {_ : Dm B} : fin F (gb c A B) = gb c (fun _ => fin F (A ())) (fun _ => fin F (B ())) := by cases c <;> rfl
theorem nmB_gb {K : St → Option (Ex × St)} {c : Bool} {A B : Unit → Option (Ex × St)} {_ : Dm A} {_ : Dm B} : nmB K (gb c A B) = gb c (fun _ => nmB K (A ())) (fun _ => nmB K (B ())) := by cases c <;> rfl
theorem rnK_gb {f : List D → St → Option (Ex × St)} {tr : St → Option St} {xs : List (List D)} {σ : St} {c : Bool} {A B : Unit → Option (Ex × St)} {_ : Dm A} {_ : Dm B} : rnK f tr xs σ (gb c A B) = gb c (fun _ => rnK f tr xs σ (A ())) (fun _ => rnK f tr xs σ (B ())) := by cases c <;> rfl
theorem gcr_gb {nx : Nat} {c : Bool} {A B : Unit → Option (D × List (Nat × Blk) × Nat)} {_ : Dm A} {_ : Dm B} : gcr nx (gb c A B) = gb c (fun _ => gcr nx (A ())) (fun _ => gcr nx (B ())) := by cases c <;> rfl
theorem gb_split {α : Type} {c : Bool} {A B : Unit → Option α} {_ : Dm A} {_ : Dm B} {r : Option α} (h : c = true → A () = r) (h' : c = false → B () = r) : gb c A B = r := by cases c; exact h' rfl; exact h rfl
theorem gb_splitr {α : Type} {c : Bool} {A B : Unit → Option α} {_ : Dm A} {_ : Dm B} {r : Option α} (h : c = true → r = A ()) (h' : c = false → r = B ()) : r = gb c A B := by cases c; exact h' rfl; exact h rfl
theorem dlt {a b : Int} : decide (a < b) = !decide (b ≤ a) := by
  by_cases h : a < b
  · rw [decide_eq_true h, decide_eq_false (by omega)]; rfl
  · rw [decide_eq_false h, decide_eq_true (by omega)]; rfl
theorem ia_g {sz : Nat} {es : Option (List (List D))} {k : IntKind} {i : Int} : iaD sz es (.v (.int k i)) = gb (decide (0 ≤ i)) (fun _ => bd es fun es => bd es[i.toNat]? fun e => gb (decide (e.length = sz)) (fun _ => some (.rp e)) fun _ => none) fun _ => none := by
  rw [ia_int]
  simp only [gb, bd, decide_eq_true_eq]
theorem ixs_g {s : ByteArray} {k : IntKind} {i : Int} : ixsD (.v (.string s)) (.v (.int k i)) = gb (decide (0 ≤ i)) (fun _ => bd s.data[i.toNat]? fun b => some (.v (.int .u8 (b.toNat : Int)))) fun _ => none := by
  rw [ixs_int]
  simp only [gb, decide_eq_true_eq, bd]
  split
  · cases s.data[i.toNat]? <;> rfl
  · rfl
theorem gquo {k : IntKind} {a b : Int} : evBi .quo .int (.v (.int k a)) (.v (.int k b)) = gb (decide (b = 0)) (fun _ => none) fun _ => some (.v (.int k (k.wrap (a.tdiv b)))) := by rw [bi_quo]; simp only [gb, decide_eq_true_eq]
theorem grem {k : IntKind} {a b : Int} : evBi .rem .int (.v (.int k a)) (.v (.int k b)) = gb (decide (b = 0)) (fun _ => none) fun _ => some (.v (.int k (a.tmod b))) := by rw [bi_rem]; simp only [gb, decide_eq_true_eq]
theorem gshl {k k' : IntKind} {a b : Int} : evBi .shl .int (.v (.int k a)) (.v (.int k' b)) = gb (decide (b < 0)) (fun _ => none) fun _ => some (.v (.int k (k.wrap (a * 2 ^ (min b.toNat k.bits))))) := by rw [bi_shl]; simp only [gb, decide_eq_true_eq]
theorem gshr {k k' : IntKind} {a b : Int} : evBi .shr .int (.v (.int k a)) (.v (.int k' b)) = gb (decide (b < 0)) (fun _ => none) fun _ => some (.v (.int k (a.fdiv (2 ^ (min b.toNat k.bits))))) := by rw [bi_shr]; simp only [gb, decide_eq_true_eq]
theorem gsadd {a b : ByteArray} : evBi .add .str (.v (.string a)) (.v (.string b)) = gb (decide (a.size + b.size ≤ 9223372036854775807)) (fun _ => some (.v (.string (a ++ b)))) fun _ => none := by rw [bi_sadd]; simp only [gb, decide_eq_true_eq]
theorem gappB {hp : List (Nat × Blk)} {nx sz bytes id n z : Nat} {news els : List (List D)} : appB hp nx sz bytes id n news (some (.row z els)) = gb (decide (z = sz) && decide (els.length = n) && decide ((n + news.length) * bytes ≤ 140737488355328)) (fun _ => some (.own id (n + news.length), uph hp id (.row sz (els ++ news)), nx)) fun _ => none := by
  rw [appB_row]; simp only [gb, Bool.and_eq_true, decide_eq_true_eq, and_assoc]
theorem gapp {hp : List (Nat × Blk)} {nx sz bytes : Nat} {news es : List (List D)} : appD hp nx sz bytes news (.lst true es) = gb ((es.isEmpty || !news.isEmpty) && (es.all fun e => e.length == sz) && decide ((es.length + news.length) * bytes ≤ 140737488355328)) (fun _ => some (.own nx (es.length + news.length), (nx, .row sz (es ++ news)) :: hp, nx + 1)) fun _ => none := by
  rw [app_lst]; simp only [gb, Bool.and_eq_true, decide_eq_true_eq, and_assoc]
theorem gapq {sz bytes : Nat} {news es : List (List D)} : apqD sz bytes news (.lst true es) = gb ((news.all fun e => e.length == sz) && decide (0 < sz) && (es.isEmpty || !news.isEmpty) && (es.all fun e => e.length == sz) && decide ((es.length + news.length) * bytes ≤ 140737488355328)) (fun _ => some (.lst false (es ++ news))) fun _ => none := by
  rw [apq_lst]; simp only [gb]
theorem gmsl {hp : List (Nat × Blk)} {nx sz bytes : Nat} {zero : List K} {n c : Int} : mslD hp nx sz bytes zero (.v (.int .i64 n)) (.v (.int .i64 c)) = gb (decide (0 ≤ n) && decide (n ≤ c) && decide (c * bytes ≤ 140737488355328) && decide (zero.length = sz) && decide (0 < sz)) (fun _ => some (.own nx n.toNat, (nx, .row sz (List.replicate n.toNat (zero.map K.d))) :: hp, nx + 1)) fun _ => none := by
  rw [msl_int]; simp only [gb, Bool.and_eq_true, decide_eq_true_eq, and_assoc]
theorem gslc {b : Bool} {es : List (List D)} {k : IntKind} {h : Int} : slcD (.lst b es) (.v (.int k h)) = gb (decide (0 ≤ h) && decide (h ≤ (es.length : Int))) (fun _ => some (.lst false (es.take h.toNat))) fun _ => none := by
  rw [slc_v]; simp only [gb, Bool.and_eq_true, decide_eq_true_eq]
theorem giaa {n sz : Nat} {x : D} {k : IntKind} {i : Int} : iaaD n sz x (.v (.int k i)) = gb (decide (0 ≤ i) && decide (i < (n : Int))) (fun _ => faD (i.toNat * sz) x) fun _ => none := by
  rw [iaa_int]; simp only [gb, Bool.and_eq_true, decide_eq_true_eq]
theorem gsls {lo hi : Int → Option Int} {s : ByteArray} : slsD lo hi (.v (.string s)) = bd (lo 0) fun l => bd (hi s.size) fun h => gb (decide (0 ≤ l) && decide (l ≤ h) && decide (h ≤ (s.size : Int))) (fun _ => some (.v (.string (s.extract l.toNat h.toNat)))) fun _ => none := by
  rw [sls_str]; simp only [gb, bd, Bool.and_eq_true, decide_eq_true_eq, and_assoc]
section
variable {C : Ctx} {fr : List (Nat × D)} {hp : List (Nat × Blk)} {nx : Nat} {d : Option Nat} {os : List Iop} {l : Bool} {x y : Opd}
theorem gbsl {sz len : Nat} {zero : List K} {parts : List (Nat × Opd)} : evOps C (⟨d, .bsl sz zero len parts, none, l⟩ :: os) ⟨fr, hp, nx⟩ =
    bd (expo.expos (hpl l hp) (parts.map fun (_, x) => evO C fr x)) fun ds => gb ((ds.all fun d => (dcells d).length == sz && (dcells d).all okc) && decide (len * sz ≤ 16777216) && decide (0 < sz))
        (fun _ => evOps C os ⟨put d (.lst true (elems (zero.map K.d) ((parts.map (·.1)).zip ds) len)) fr, hp, nx⟩) fun _ => none := by
  rw [o_bsl]; simp only [gb, bd]
theorem gbso {sz len : Nat} {zero : List K} {parts : List (Nat × Opd)} : evOps C (⟨d, .bso sz zero len parts, none, false⟩ :: os) ⟨fr, hp, nx⟩ =
    bd (expo.expos hp (parts.map fun (_, x) => evO C fr x)) fun ds => gb ((ds.all fun d => (dcells d).length == sz && (dcells d).all okc) && decide (len * sz ≤ 16777216) && decide (0 < sz) && decide (0 < len))
        (fun _ => evOps C os ⟨put d (.own nx len) fr, (nx, .row sz (elems (zero.map K.d) ((parts.map (·.1)).zip ds) len)) :: hp, nx + 1⟩) fun _ => none := by
  simp only [evOps, want, isQ, evE, bd, Bool.false_eq_true, if_false]
  cases expo.expos hp (parts.map fun (_, x) => evO C fr x) with
  | none => rfl
  | some ds =>
    simp only [Option.bind_some, gb]
    split <;> rfl
theorem goapp {sz bytes : Nat} : evOps C (⟨d, .app sz bytes x y, none, false⟩ :: os) ⟨fr, hp, nx⟩ = bd (elD hp (evO C fr y)) fun news =>
    gb ((news.all fun e => e.length == sz) && decide (0 < sz)) (fun _ => bd (appD hp nx sz bytes news (evO C fr x)) fun r => evOps C os ⟨put d r.1 fr, r.2.1, r.2.2⟩) fun _ => none := by
  rw [o_app]; simp only [gb, bd]
end
theorem clb : (∀ {x : Value}, cl (.v x) = true) ∧ (∀ {b : Bool} {es : List (List D)}, cl (.lst b es) = true) ∧ (∀ {cs : List D}, cl (.rp cs) = true) ∧ (∀ {ds : List D}, cl (.agg ds) = cl.cls ds) ∧ (∀ {f : Nat} {ds : List D}, cl (.fn f ds) = cl.cls ds) ∧ (∀ {ds : List D}, cl (.tup ds) = cl.cls ds) ∧ (cl.cls [] = true) ∧ (∀ {d : D} {ds : List D}, cl.cls (d :: ds) = (cl d && cl.cls ds)) := by
  refine ⟨?_, ?_, ?_, ?_, ?_, ?_, ?_, ?_⟩ <;> intros <;> first | rfl | (simp only [cl]; done) | (simp only [cl.cls]; done)
theorem plb : (∀ {k : IntKind} {n : Int}, plain (.int k n) = true) ∧ (∀ {b : Bool}, plain (.bool b) = true) ∧ (∀ {s : ByteArray}, plain (.string s) = true) := ⟨rfl, rfl, rfl⟩
theorem emp : (∀ {a : List D} {l : List (List D)}, (a :: l).isEmpty = false) ∧ (([] : List (List D)).isEmpty = true) := ⟨rfl, rfl⟩
theorem elm : (∀ {zero : List D} {d : D}, elems zero [(0, d)] 1 = [dcells d]) ∧ (∀ {zero : List D} {d e : D}, elems zero [(0, d), (1, e)] 2 = [dcells d, dcells e]) ∧ (∀ {zero : List D} {d e f : D}, elems zero [(0, d), (1, e), (2, f)] 3 = [dcells d, dcells e, dcells f]) ∧ (∀ {zero : List D} {d e f g : D}, elems zero [(0, d), (1, e), (2, f), (3, g)] 4 = [dcells d, dcells e, dcells f, dcells g]) ∧
    (∀ {zero : List D} {d e f g h : D}, elems zero [(0, d), (1, e), (2, f), (3, g), (4, h)] 5 = [dcells d, dcells e, dcells f, dcells g, dcells h]) ∧ (∀ {zero : List D}, elems zero [] 0 = []) ∧ (∀ {a : Nat} {b : D} {as : List Nat} {bs : List D}, (a :: as).zip (b :: bs) = (a, b) :: as.zip bs) ∧ (∀ {bs : List D}, ([] : List Nat).zip bs = []) := by
  refine ⟨?_, ?_, ?_, ?_, ?_, ?_, ?_, ?_⟩ <;> intros <;> rfl
theorem flt2 : (∀ {id : Nat}, rmh [] id = []) ∧ (∀ {id i : Nat} {b : Blk} {hp : List (Nat × Blk)}, rmh ((i, b) :: hp) id = bif decide (i = id) then rmh hp id else (i, b) :: rmh hp id) := by
  refine ⟨rfl, ?_⟩
  intros id i b hp
  unfold rmh
  rw [List.filter_cons]
  by_cases h : i = id
  · simp [h]
  · simp [h]
theorem frb : (∀ {hp : List (Nat × Blk)}, frz hp [] = some (hp, [])) ∧ (∀ {hp : List (Nat × Blk)} {b : Bool} {es : List (List D)} {ds : List D}, frz hp (.lst b es :: ds) = bd (frz hp ds) fun r => some (r.1, .lst b es :: r.2)) ∧ (∀ {hp : List (Nat × Blk)} {x : Value} {ds : List D}, frz hp (.v x :: ds) = bd (frz hp ds) fun r => some (r.1, .v x :: r.2)) ∧
    (∀ {hp : List (Nat × Blk)} {id : Nat} {ds : List D}, frz hp (.ptr id 0 :: ds) = bd (match lkh hp id with | some (.box cells) => some cells | _ => none) fun cells => gb (cl.cls cells) (fun _ => bd (frz (rmh hp id) ds) fun r => some (r.1, .rp cells :: r.2)) fun _ => none) := by
  refine ⟨?_, ?_, ?_, ?_⟩ <;> intros <;> simp only [frz, cl, if_true, bd]
  · rename_i hp b es ds; cases frz hp ds <;> rfl
  · rename_i hp x ds; cases frz hp ds <;> rfl
  · rename_i hp id ds
    generalize lkh hp id = q
    rcases q with _ | ⟨cs | ⟨z, els⟩ | es⟩
    · rfl
    · simp only [gb, Option.bind_some]
      split
      · cases frz (rmh hp id) ds <;> rfl
      · rfl
    · rfl
    · rfl
theorem gcr_g {nx nx' : Nat} {d : D} {hp' : List (Nat × Blk)} : gcr nx (some (d, hp', nx')) = gb (idlt nx d && hplt nx hp') (fun _ => some (d, hp'.filter (fun p => decide (p.1 < nx)), nx)) fun _ => some (d, hp', nx') := by
  simp only [gcr, gb]
def stepE (tr : St → Option St) : Option (Ex × St) → Option St
  | some (.nm, σ) => tr σ
  | _ => none
theorem stepE_nm {tr : St → Option St} {σ : St} : stepE tr (some (.nm, σ)) = tr σ := nr rfl
theorem stepE_ex {tr : St → Option St} {σ : St} {i : Nat} : stepE tr (some (.ex i, σ)) = none := nr rfl
theorem stepE_rt {tr : St → Option St} {σ : St} : stepE tr (some (.rt, σ)) = none := nr rfl
theorem gb_not {α : Type} {c : Bool} {A B : Unit → Option α} {_ : Dm A} {_ : Dm B} : gb (!c) A B = gb c B A := by cases c <;> rfl
theorem gb_and {α : Type} {c d : Bool} {A B : Unit → Option α} {_ : Dm A} {_ : Dm B} : gb (c && d) A B = gb c (fun _ => gb d A B) B := by cases c <;> rfl
theorem gb_or {α : Type} {c d : Bool} {A B : Unit → Option α} {_ : Dm A} {_ : Dm B} : gb (c || d) A B = gb c A (fun _ => gb d A B) := by cases c <;> rfl
theorem stepE_gb {tr : St → Option St} {c : Bool} {A B : Unit → Option (Ex × St)} {_ : Dm A} {_ : Dm B} : stepE tr (gb c A B) = gb c (fun _ => stepE tr (A ())) (fun _ => stepE tr (B ())) := by cases c <;> rfl
def GE (G : Option (Ex × St) → Prop) : Option (Ex × St) → Prop
  | some (.ex i, σ) => G (some (.ex i, σ))
  | some (.rt, σ) => G (some (.rt, σ))
  | _ => False
theorem GE_ex {G : Option (Ex × St) → Prop} {σ : St} {i : Nat} : GE G (some (.ex i, σ)) = G (some (.ex i, σ)) := nr rfl
theorem GE_rt {G : Option (Ex × St) → Prop} {σ : St} : GE G (some (.rt, σ)) = G (some (.rt, σ)) := nr rfl
theorem iter_rule {α β X : Type} {f : St → Option (Ex × St)} {tr : St → Option St} {N : Nat} {σ : St} {G : Option (Ex × St) → Prop} (els : List X) (H : Nat → α → St) (g : α → X → Sc α β) (Inv : Nat → α → Prop) (a0 : α)
    (hl : els.length ≤ maxLen) (hN : maxLen + 10 < N) (h0 : tr σ = some (H 0 a0)) (hi : Inv 0 a0)
    (hgo : ∀ (i : Nat) a x a', decide ((i : Int) < (els.length : Int)) = true → IntKind.i64.wrap ((i : Int) + 1) = ((i + 1 : Nat) : Int) → els[i]? = some x → Inv i a → g a x = .go a' → stepE tr (f (H i a)) = some (H (i + 1) a') ∧ Inv (i + 1) a')
    (hout : ∀ (i : Nat) a x b, decide ((i : Int) < (els.length : Int)) = true → IntKind.i64.wrap ((i : Int) + 1) = ((i + 1 : Nat) : Int) → els[i]? = some x → Inv i a → g a x = .out b → scan g a0 els = .out b → GE G (f (H i a)))
    (hend : ∀ a, Inv els.length a → scan g a0 els = .go a → GE G (f (H els.length a))) : ∀ I, iter f tr N σ = I → G I := by
  have ge : ∀ {r : Option (Ex × St)}, GE G r → ∃ e σ', r = some (e, σ') ∧ e ≠ .nm ∧ G (some (e, σ')) := by
    intro r h
    rcases r with _ | ⟨e, σ'⟩
    · exact h.elim
    · cases e with
      | nm => exact h.elim
      | ex i => exact ⟨_, _, rfl, by simp, h⟩
      | rt => exact ⟨_, _, rfl, by simp, h⟩
  rintro I rfl
  have key : ∀ (xs pre : List X) (N : Nat) (σ : St) (a : α), els = pre ++ xs → xs.length < N → Inv pre.length a → tr σ = some (H pre.length a) → scan g a xs = scan g a0 els → G (iter f tr N σ) := by
    intro xs
    induction xs with
    | nil =>
      intro pre N σ a he hN hi h0 hs
      obtain ⟨N, rfl⟩ : ∃ k, N = k + 1 := ⟨N - 1, by simp at hN; omega⟩
      have hl : els.length = pre.length := by rw [he]; simp
      rw [← hl] at hi h0
      obtain ⟨e, σ', h1, h2, h3⟩ := ge (hend a hi hs.symm)
      have : iter f tr (N + 1) σ = some (e, σ') := by
        simp only [iter, h0, Option.bind_some, h1]
        cases e <;> first | exact absurd rfl h2 | rfl
      rw [this]; exact h3
    | cons x xs ih =>
      intro pre N σ a he hN hi h0 hs
      obtain ⟨N, rfl⟩ : ∃ k, N = k + 1 := ⟨N - 1, by simp at hN; omega⟩
      have hx : els[pre.length]? = some x := by rw [he]; simp
      have hlt' : pre.length < els.length := by rw [he]; simp
      have hlt : decide ((pre.length : Int) < (els.length : Int)) = true := by simp; exact hlt'
      have hw := wrap_succ hlt' hl
      simp only [scan] at hs
      cases hg : g a x with
      | go a' =>
        rw [hg] at hs
        obtain ⟨h1, h2⟩ := hgo _ a x a' hlt hw hx hi hg
        cases hf : f (H pre.length a) with
        | none => rw [hf] at h1; simp [stepE] at h1
        | some r =>
          obtain ⟨e, σ'⟩ := r
          rw [hf] at h1
          cases e with
          | nm =>
            have := ih (pre ++ [x]) N σ' a' (by rw [he]; simp) (by simp at hN; omega) (by simpa using h2) (by simpa [stepE] using h1) hs
            have e : iter f tr (N + 1) σ = iter f tr N σ' := by simp only [iter, h0, Option.bind_some, hf]
            rw [e]; exact this
          | ex i => simp [stepE] at h1
          | rt => simp [stepE] at h1
      | out b =>
        rw [hg] at hs
        obtain ⟨e, σ', h1, h2, h3⟩ := ge (hout _ a x b hlt hw hx hi hg hs.symm)
        have : iter f tr (N + 1) σ = some (e, σ') := by
          simp only [iter, h0, Option.bind_some, h1]
          cases e <;> first | exact absurd rfl h2 | rfl
        rw [this]; exact h3
  exact key els [] N σ a0 rfl (by omega) hi h0 rfl
def outK {β : Type} (K : Option (Ex × St) → Option β) (x : Option (Ex × St)) [Dm K] : Option β := match x with
  | some (.ex i, σ) => K (some (.ex i, σ))
  | some (.rt, σ) => K (some (.rt, σ))
  | _ => none
theorem outK_nm {β : Type} {K : Option (Ex × St) → Option β} {σ : St} {_ : Dm K} : outK K (some (.nm, σ)) = none := nr rfl
theorem outK_ex {β : Type} {K : Option (Ex × St) → Option β} {σ : St} {i : Nat} {_ : Dm K} : outK K (some (.ex i, σ)) = K (some (.ex i, σ)) := nr rfl
theorem outK_rt {β : Type} {K : Option (Ex × St) → Option β} {σ : St} {_ : Dm K} : outK K (some (.rt, σ)) = K (some (.rt, σ)) := nr rfl
theorem outK_gb {β : Type} {K : Option (Ex × St) → Option β} {c : Bool} {A B : Unit → Option (Ex × St)} {_ : Dm A} {_ : Dm B} {_ : Dm K} : outK K (gb c A B) = gb c (fun _ => outK K (A ())) (fun _ => outK K (B ())) := by cases c <;> rfl
theorem GE_of {β : Type} {K : Option (Ex × St) → Option β} {r : β} {x : Option (Ex × St)} (h : outK K x = some r) : GE (fun I => K I = some r) x := by
  rcases x with _ | ⟨e, σ⟩
  · simp [outK] at h
  · cases e with
    | nm => simp [outK] at h
    | ex i => exact h
    | rt => exact h
theorem maxLen_ge : 1000000 ≤ maxLen := by simp [maxLen]
def tst {α β X : Type} (t : α → X → Bool) (u : α → X → α) (v : α → X → β) (a : α) (x : X) : Sc α β := if t a x = true then .go (u a x) else .out (v a x)
theorem iter_test {α β γ X : Type} {f : St → Option (Ex × St)} {tr : St → Option St} {N : Nat} {σ : St} {K : Option (Ex × St) → Option γ} {r : γ} (els : List X) (H : Nat → α → St) (t : α → X → Bool) (u : α → X → α) (v : α → X → β) (Inv : Nat → α → Prop) (a0 : α)
    (hl : els.length ≤ maxLen) (hN : maxLen + 10 < N) (h0 : tr σ = some (H 0 a0)) (hi : Inv 0 a0)
    (hgo : ∀ (i : Nat) a x, decide ((i : Int) < (els.length : Int)) = true → IntKind.i64.wrap ((i : Int) + 1) = ((i + 1 : Nat) : Int) → els[i]? = some x → Inv i a → (stepE tr (f (H i a)) = gb (t a x) (fun _ => some (H (i + 1) (u a x))) fun _ => none) ∧ (t a x = true → Inv (i + 1) (u a x)))
    (hout : ∀ (i : Nat) a x, decide ((i : Int) < (els.length : Int)) = true → els[i]? = some x → Inv i a → scan (tst t u v) a0 els = .out (v a x) → outK K (f (H i a)) = gb (t a x) (fun _ => none) fun _ => some r)
    (hend : ∀ a, Inv els.length a → scan (tst t u v) a0 els = .go a → outK K (f (H els.length a)) = some r) : ∀ I, iter f tr N σ = I → K I = some r := by
  refine iter_rule (G := fun I => K I = some r) els H (tst t u v) Inv a0 hl hN h0 hi ?_ ?_ ?_
  · intro i a x a' h1 h2 h3 h4 h5
    obtain ⟨k1, k2⟩ := hgo i a x h1 h2 h3 h4
    unfold tst at h5
    split at h5
    · rename_i ht
      simp only [Sc.go.injEq] at h5
      subst h5
      rw [ht] at k1
      exact ⟨k1, k2 ht⟩
    · simp at h5
  · intro i a x b h1 h2 h3 h4 h5 h6
    unfold tst at h5
    split at h5
    · simp at h5
    · rename_i ht
      simp only [Sc.out.injEq] at h5
      subst h5
      have := hout i a x h1 h3 h4 h6
      rw [Bool.not_eq_true] at ht
      rw [ht] at this
      exact GE_of this
  · intro a h1 h2
    exact GE_of (hend a h1 h2)
theorem iter_test2 {α β γ X : Type} {f : St → Option (Ex × St)} {tr : St → Option St} {N : Nat} {σ : St} {K : Option (Ex × St) → Option γ} {r : γ} (els : List X) (H : Nat → α → St) (t : α → X → Bool) (u : α → X → α) (v : α → X → β) (Inv : Nat → α → Prop) (a0 : α)
    (hl : els.length ≤ maxLen) (hN : maxLen + 10 < N) (h0 : tr σ = some (H 0 a0)) (hi : Inv 0 a0)
    (hgo : ∀ (i : Nat) a x, decide ((i : Int) < (els.length : Int)) = true → IntKind.i64.wrap ((i : Int) + 1) = ((i + 1 : Nat) : Int) → els[i]? = some x → Inv i a → t a x = true → (stepE tr (f (H i a)) = some (H (i + 1) (u a x))) ∧ Inv (i + 1) (u a x))
    (hout : ∀ (i : Nat) a x, decide ((i : Int) < (els.length : Int)) = true → els[i]? = some x → Inv i a → t a x = false → scan (tst t u v) a0 els = .out (v a x) → outK K (f (H i a)) = some r)
    (hend : ∀ a, Inv els.length a → scan (tst t u v) a0 els = .go a → outK K (f (H els.length a)) = some r) : ∀ I, iter f tr N σ = I → K I = some r := by
  refine iter_rule (G := fun I => K I = some r) els H (tst t u v) Inv a0 hl hN h0 hi ?_ ?_ ?_
  · intro i a x a' h1 h2 h3 h4 h5
    unfold tst at h5
    split at h5
    · rename_i ht
      simp only [Sc.go.injEq] at h5
      subst h5
      exact hgo i a x h1 h2 h3 h4 ht
    · simp at h5
  · intro i a x b h1 h2 h3 h4 h5 h6
    unfold tst at h5
    split at h5
    · simp at h5
    · rename_i ht
      simp only [Sc.out.injEq] at h5
      subst h5
      exact GE_of (hout i a x h1 h3 h4 (by simpa using ht) h6)
  · intro a h1 h2
    exact GE_of (hend a h1 h2)
theorem iter_all {α γ X : Type} {f : St → Option (Ex × St)} {tr : St → Option St} {N : Nat} {σ : St} {K : Option (Ex × St) → Option γ} {r : γ} (els : List X) (H : Nat → α → St) (u : α → X → α) (Inv : Nat → α → Prop) (a0 : α)
    (hl : els.length ≤ maxLen) (hN : maxLen + 10 < N) (h0 : tr σ = some (H 0 a0)) (hi : Inv 0 a0)
    (hgo : ∀ (i : Nat) a x, decide ((i : Int) < (els.length : Int)) = true → IntKind.i64.wrap ((i : Int) + 1) = ((i + 1 : Nat) : Int) → els[i]? = some x → Inv i a → (stepE tr (f (H i a)) = some (H (i + 1) (u a x))) ∧ (Inv (i + 1) (u a x)))
    (hend : Inv els.length (els.foldl u a0) → outK K (f (H els.length (els.foldl u a0))) = some r) : ∀ I, iter f tr N σ = I → K I = some r := by
  have hs : ∀ (xs : List X) (a : α), scan (β := Unit) (fun a x => .go (u a x)) a xs = .go (xs.foldl u a) := by
    intro xs
    induction xs with
    | nil => intro a; rfl
    | cons x xs ih => intro a; simp only [scan, List.foldl_cons]; exact ih _
  refine iter_rule (β := Unit) (G := fun I => K I = some r) els H (fun a x => .go (u a x)) Inv a0 hl hN h0 hi ?_ ?_ ?_
  · intro i a x a' h1 h2 h3 h4 h5
    simp only [Sc.go.injEq] at h5
    subst h5
    exact hgo i a x h1 h2 h3 h4
  · intro i a x b h1 h2 h3 h4 h5
    simp at h5
  · intro a h1 h2
    rw [hs] at h2
    simp only [Sc.go.injEq] at h2
    subst h2
    exact GE_of (hend h1)
theorem trim_eq {keep : List Nat} {n nx : Nat} {fr : List (Nat × D)} {hp : List (Nat × Blk)} : trim keep n ⟨fr, hp, nx⟩ = gb ((keep.all fun s => idlt n (lkf fr s)) && hplt n hp) (fun _ => some ⟨keep.map fun s => (s, lkf fr s), hp.filter (fun p => decide (p.1 < n)), n⟩) fun _ => none := by
  unfold trim gb; rfl
theorem idl : (∀ {n : Nat} {x : Value}, idlt n (.v x) = true) ∧ (∀ {n : Nat} {b : Bool} {es : List (List D)}, idlt n (.lst b es) = true) ∧ (∀ {n : Nat} {cs : List D}, idlt n (.rp cs) = true) ∧ (∀ {n : Nat}, idlt n .junk = true) ∧ (∀ {n : Nat} {ds : List D}, idlt n (.agg ds) = idlt.idlts n ds) ∧
    (∀ {n f : Nat} {ds : List D}, idlt n (.fn f ds) = idlt.idlts n ds) ∧ (∀ {n : Nat} {ds : List D}, idlt n (.tup ds) = idlt.idlts n ds) ∧ (∀ {n i o : Nat}, idlt n (.own i o) = decide (i < n)) ∧ (∀ {n i o : Nat}, idlt n (.ptr i o) = decide (i < n)) ∧ (∀ {n i : Nat}, idlt n (.mp i) = decide (i < n)) ∧
    (∀ {n : Nat}, idlt.idlts n [] = true) ∧ (∀ {n : Nat} {d : D} {ds : List D}, idlt.idlts n (d :: ds) = (idlt n d && idlt.idlts n ds)) ∧
    (∀ {n : Nat}, hplt n [] = true) ∧ (∀ {n i : Nat} {cells : List D} {hp : List (Nat × Blk)}, hplt n ((i, .box cells) :: hp) = ((decide (n ≤ i) || idlt.idlts n cells) && hplt n hp)) ∧
    (∀ {n i z : Nat} {els : List (List D)} {hp : List (Nat × Blk)}, hplt n ((i, .row z els) :: hp) = hplt n hp) ∧ (∀ {n i : Nat} {es : List (Value × Value)} {hp : List (Nat × Blk)}, hplt n ((i, .map es) :: hp) = hplt n hp) := by
  have h : ∀ {n : Nat} (cells : List D), cells.all (idlt n) = idlt.idlts n cells := by
    intro n cells
    induction cells with
    | nil => rfl
    | cons d ds ih => simp only [List.all_cons, ih, idlt.idlts]
  refine ⟨?_, ?_, ?_, ?_, ?_, ?_, ?_, ?_, ?_, ?_, ?_, ?_, ?_, ?_, ?_, ?_⟩ <;> intros <;> first | rfl | (simp only [hplt, h]; done) | (simp only [hplt]; done) | (simp only [idlt]; done) | (simp only [idlt.idlts]; done)
theorem flt : (∀ {n : Nat}, ([] : List (Nat × Blk)).filter (fun p => decide (p.1 < n)) = []) ∧ (∀ {n i : Nat} {b : Blk} {hp : List (Nat × Blk)}, ((i, b) :: hp).filter (fun p => decide (p.1 < n)) = bif decide (i < n) then (i, b) :: hp.filter (fun p => decide (p.1 < n)) else hp.filter (fun p => decide (p.1 < n))) := by
  refine ⟨rfl, ?_⟩
  intros
  rw [List.filter_cons]
  simp only [cond_eq_ite]
theorem arith : (∀ {a : Int}, decide (a < a) = false) ∧ ((0 : Nat) : Int) = 0 ∧ (∀ {a : Int}, decide (a ≤ a) = true) := ⟨by simp, rfl, by simp⟩
theorem ex_tup {hp : List (Nat × Blk)} {ds : List D} : expo hp (.tup ds) = bd (expo.expos hp ds) fun e => some (.tup e) := by
  simp only [expo, bd]; cases expo.expos hp ds <;> rfl
def ownE (d : D) (A B : Unit → Option (Ex × St)) [Dm A] [Dm B] : Option (Ex × St) := match d with
  | .lst true [] => A ()
  | _ => B ()
theorem own_l {A B : Unit → Option (Ex × St)} {_ : Dm A} {_ : Dm B} : ownE (.lst true []) A B = A () := nr rfl
theorem own_o {A B : Unit → Option (Ex × St)} {_ : Dm A} {_ : Dm B} {i n : Nat} : ownE (.own i n) A B = B () := nr rfl
theorem c_own {C : Ctx} {N t sz nx : Nat} {a : IC} {fr : List (Nat × D)} {hp : List (Nat × Blk)} : ev C N (.own t sz a) ⟨fr, hp, nx⟩ = ownE (lkf fr t) (fun _ => ev C N a ⟨(t, .own nx 0) :: fr, (nx, .row sz []) :: hp, nx + 1⟩) (fun _ => ev C N a ⟨fr, hp, nx⟩) := by
  simp only [ev, ownE]
  generalize lkf fr t = g
  cases g with
  | lst ex es => cases ex <;> cases es <;> rfl
  | _ => rfl
def obK (hp : List (Nat × Blk)) (off : Nat) (d : D) (A : Nat → Nat → List D → Option (Ex × St)) (B : Unit → Option (Ex × St)) [Dm A] [Dm B] : Option (Ex × St) := match cellOf hp off d with
  | some (id, o, cells) => A id o cells
  | none => B ()
def ob2 (id k : Nat) (b : Option Blk) (A : Nat → Nat → List D → Option (Ex × St)) (B : Unit → Option (Ex × St)) [Dm A] [Dm B] : Option (Ex × St) := match b with
  | some (.box cells) => match cells[k]? with
    | some (.lst true []) => A id k cells
    | _ => B ()
  | _ => B ()
def ob3 (id k : Nat) (cells : List D) (c : Option D) (A : Nat → Nat → List D → Option (Ex × St)) (B : Unit → Option (Ex × St)) [Dm A] [Dm B] : Option (Ex × St) := match c with
  | some (.lst true []) => A id k cells
  | _ => B ()
section
variable {A : Nat → Nat → List D → Option (Ex × St)} {B : Unit → Option (Ex × St)} {_ : Dm A} {_ : Dm B}
theorem ob_ptr {hp : List (Nat × Blk)} {off id o : Nat} : obK hp off (.ptr id o) A B = ob2 id (o + off) (lkh hp id) A B := by
  simp only [obK, cellOf, ob2]
  cases lkh hp id with
  | none => rfl
  | some b =>
    cases b with
    | box cells =>
      simp only
      generalize cells[o + off]? = q
      rcases q with _ | d
      · rfl
      · cases d with
        | lst ex es => cases ex <;> cases es <;> rfl
        | _ => rfl
    | row z els => rfl
    | map es => rfl
theorem ob_box {id k : Nat} {cells : List D} : ob2 id k (some (.box cells)) A B = ob3 id k cells cells[k]? A B := by simp only [ob2, ob3]
theorem ob_l {id k : Nat} {cells : List D} : ob3 id k cells (some (.lst true [])) A B = A id k cells := nr rfl
theorem ob_o {id k i n : Nat} {cells : List D} : ob3 id k cells (some (.own i n)) A B = B () := nr rfl
end
theorem c_ownb {C : Ctx} {N t off sz nx : Nat} {a : IC} {fr : List (Nat × D)} {hp : List (Nat × Blk)} : ev C N (.ownb t off sz a) ⟨fr, hp, nx⟩ = obK hp off (lkf fr t) (fun id o cells => ev C N a ⟨fr, (nx, .row sz []) :: uph hp id (.box (cells.set o (.own nx 0))), nx + 1⟩) (fun _ => ev C N a ⟨fr, hp, nx⟩) := by
  simp only [ev, obK]
  split <;> rename_i h <;> rw [h]
def fzE (hp : List (Nat × Blk)) (d : D) (A : Nat → List D → Option (Ex × St)) [Dm A] : Option (Ex × St) := match d with
  | .ptr id 0 => match lkh hp id with
    | some (.box cells) => if cl.cls cells then A id cells else none
    | _ => none
  | _ => none
def fz2 (id : Nat) (b : Option Blk) (A : Nat → List D → Option (Ex × St)) [Dm A] : Option (Ex × St) := match b with
  | some (.box cells) => if cl.cls cells then A id cells else none
  | _ => none
theorem fz_ptr {hp : List (Nat × Blk)} {id : Nat} {A : Nat → List D → Option (Ex × St)} {_ : Dm A} : fzE hp (.ptr id 0) A = fz2 id (lkh hp id) A := nr rfl
theorem fz_box {id : Nat} {cells : List D} {A : Nat → List D → Option (Ex × St)} {_ : Dm A} : fz2 id (some (.box cells)) A = gb (cl.cls cells) (fun _ => A id cells) fun _ => none := by simp only [fz2, gb]
theorem c_fz {C : Ctx} {N t nx : Nat} {a : IC} {fr : List (Nat × D)} {hp : List (Nat × Blk)} : ev C N (.fz t a) ⟨fr, hp, nx⟩ = fzE hp (lkf fr t) (fun id cells => ev C N a ⟨(t, .rp cells) :: fr, rmh hp id, nx⟩) := by
  simp only [ev, fzE]
  generalize lkf fr t = g
  cases g with
  | ptr id o =>
    cases o with
    | zero =>
      simp only
      generalize lkh hp id = q
      rcases q with _ | ⟨cs | ⟨z, els⟩ | es⟩ <;> rfl
    | succ o => rfl
  | _ => rfl
def gD : Option (List D) → D
  | some cs => .rp cs
  | none => .junk
theorem gD_some {cs : List D} : gD (some cs) = .rp cs := nr rfl
theorem evO_g {C : Ctx} {fr : List (Nat × D)} {g : Nat} : evO C fr (.g g) = gD (C.G g) := by
  simp only [evO]; cases C.G g <;> rfl
theorem natc : ((1 : Nat) : Int) = 1 ∧ ((2 : Nat) : Int) = 2 ∧ ((3 : Nat) : Int) = 3 ∧ ((4 : Nat) : Int) = 4 ∧ ((5 : Nat) : Int) = 5 ∧ ((6 : Nat) : Int) = 6 ∧ ((7 : Nat) : Int) = 7 ∧ ((8 : Nat) : Int) = 8 ∧ ((25 : Nat) : Int) = 25 := ⟨rfl, rfl, rfl, rfl, rfl, rfl, rfl, rfl, rfl⟩
theorem natc0 : ((0 : Nat) : Int) = 0 := rfl
theorem natl : (∀ {n k : Nat}, decide (n + k < n) = false) ∧ (∀ {n k : Nat}, decide (n ≤ n + k) = true) ∧ (∀ {n : Nat}, decide (n < n) = false) ∧ (∀ {n : Nat}, decide (n ≤ n) = true) ∧ (∀ {n k : Nat}, (n + (k + 1) = n) = False) ∧ (∀ {n k : Nat}, (n = n + (k + 1)) = False) := by
  refine ⟨?_, ?_, ?_, ?_, ?_, ?_⟩ <;> intros <;> simp
theorem cnd : (∀ {α : Type} {a b : α}, (bif true then a else b) = a) ∧ (∀ {α : Type} {a b : α}, (bif false then a else b) = b) := ⟨fun {α a b} => nr rfl, fun {α a b} => nr rfl⟩
def EVr := And.intro @fin_nm (And.intro @fin_rt (And.intro @zn_nil (And.intro @zn_cons (And.intro @res_0 (And.intro @res_1 (And.intro @res_2 (And.intro @res_t (And.intro @res_c (And.intro @rc_ptr (And.intro @bd_gb (And.intro @sq_gb (And.intro @bk_gb (And.intro @fin_gb (And.intro @nmB_gb (And.intro @rnK_gb (And.intro @gcr_gb (And.intro @ia_g (And.intro @ixs_g (And.intro @stepE_nm (And.intro @stepE_ex (And.intro @stepE_rt (And.intro @gb_not (And.intro @gb_and (And.intro @gb_or (And.intro @stepE_gb (And.intro @GE_ex (And.intro @GE_rt (And.intro @outK_nm (And.intro @outK_ex (And.intro @outK_rt (And.intro @outK_gb (And.intro @trim_eq (And.intro @idl (And.intro @flt (And.intro @arith (And.intro @natl (And.intro @natc (And.intro @own_l (And.intro @own_o (And.intro @c_own (And.intro @ob_ptr (And.intro @ob_box (And.intro @ob_l (And.intro @ob_o (And.intro @c_ownb (And.intro @fz_ptr (And.intro @fz_box (And.intro @c_fz (And.intro @ex_tup (And.intro @gD_some (And.intro @evO_g (And.intro @cnd (And.intro @gquo (And.intro @grem (And.intro @gshl (And.intro @gshr (And.intro @gsadd (And.intro @gappB (And.intro @gapp (And.intro @gapq (And.intro @gmsl (And.intro @gslc (And.intro @giaa (And.intro @gsls (And.intro @gbsl (And.intro @gbso (And.intro @goapp (And.intro @clb (And.intro @plb (And.intro @emp (And.intro @elm (And.intro @flt2 (And.intro @frb (@gcr_g))))))))))))))))))))))))))))))))))))))))))))))))))))))))))))))))))))))))))
def EVs := And.intro EVr (And.intro EVc (And.intro EV0 (And.intro EV1 (And.intro EV2 (EV3)))))
end Go.Proofs.Dv
set_option linter.unusedVariables false
set_option linter.unusedSimpArgs false
namespace Go.Proofs.Dv
open Go.RowKit
inductive T where
  | mk (kind width bits : Int) (name : ByteArray) (low : Int) (sub : List T)
def T.kind : T → Int | .mk k _ _ _ _ _ => k
def T.width : T → Int | .mk _ w _ _ _ _ => w
def T.bits : T → Int | .mk _ _ b _ _ _ => b
def T.name : T → ByteArray | .mk _ _ _ n _ _ => n
def T.low : T → Int | .mk _ _ _ _ l _ => l
def T.sub : T → List T | .mk _ _ _ _ _ s => s
mutual
def T.d : T → List D
  | .mk k w b n l s => [.v (.int .u8 k), .v (.int .i64 w), .v (.int .u64 b), .v (.string n), .v (.int .i64 l), .lst false (T.ds s)]
def T.ds : List T → List (List D)
  | [] => []
  | t :: ts => T.d t :: T.ds ts
end
theorem T.ds_map (s : List T) : T.ds s = s.map T.d := by
  induction s with
  | nil => rw [T.ds]; rfl
  | cons t ts ih => rw [T.ds, ih]; rfl
theorem T.d_eq (t : T) : t.d = [.v (.int .u8 t.kind), .v (.int .i64 t.width), .v (.int .u64 t.bits), .v (.string t.name), .v (.int .i64 t.low), .lst false (t.sub.map T.d)] := by
  cases t with
  | mk k w b n l s => rw [T.d, T.ds_map]; rfl
theorem T.ind {P : T → Prop} (h : ∀ t : T, (∀ u ∈ t.sub, P u) → P t) : ∀ t, P t := by
  have : ∀ (n : Nat) (t : T), SizeOf.sizeOf t ≤ n → P t := by
    intro n
    induction n with
    | zero => intro t ht; cases t; simp at ht
    | succ n ih =>
      intro t ht
      refine h t fun u hu => ih u ?_
      cases t with
      | mk k w b nm l s =>
        have := List.sizeOf_lt_of_mem hu
        simp only [T.sub] at this
        simp only [T.mk.sizeOf_spec] at ht
        omega
  exact fun t => this _ t (Nat.le_refl _)
theorem map_inj {α β : Type} {f : α → β} : ∀ {xs ys : List α}, (∀ x ∈ xs, ∀ y, f x = f y → x = y) → xs.map f = ys.map f → xs = ys
  | [], [], _, _ => rfl
  | [], y :: ys, _, h => by simp at h
  | x :: xs, [], _, h => by simp at h
  | x :: xs, y :: ys, hf, h => by
    simp only [List.map_cons, List.cons.injEq] at h
    rw [hf x List.mem_cons_self y h.1, map_inj (fun x hx => hf x (List.mem_cons_of_mem _ hx)) h.2]
theorem T.inj : ∀ t u : T, t.d = u.d → t = u := by
  intro t
  induction t using T.ind with
  | h t ih =>
    intro u h
    rw [T.d_eq, T.d_eq] at h
    simp only [List.cons.injEq, D.v.injEq, Value.int.injEq, Value.string.injEq, D.lst.injEq, true_and, and_true] at h
    obtain ⟨h1, h2, h3, h4, h5, h6⟩ := h
    have h7 := map_inj (fun x hx y hxy => ih x hx y hxy) h6
    cases t; cases u
    simp only [T.kind, T.width, T.bits, T.name, T.low, T.sub] at h1 h2 h3 h4 h5 h7
    subst h1 h2 h3 h4 h5 h7
    rfl
structure Pc where
  at_ : Int
  len : Int
def Pc.d (p : Pc) : List D := [.v (.int .i64 p.at_), .v (.int .i64 p.len)]
structure Opn where
  name : ByteArray
  kind : Int
  bank : Int
  scale : Int
  pieces : List Pc
  tied : Int
def Opn.d (o : Opn) : List D := [.v (.string o.name), .v (.int .u8 o.kind), .v (.int .i64 o.bank), .v (.int .i64 o.scale), .lst false (o.pieces.map Pc.d), .v (.int .i64 o.tied)]
structure Rg where
  name : ByteArray
  width : Int
  of_ : Int
  low : Int
def Rg.d (r : Rg) : List D := [.v (.string r.name), .v (.int .i64 r.width), .v (.int .i64 r.of_), .v (.int .i64 r.low)]
def iD (n : Int) : List D := [.v (.int .i64 n)]
def uD (n : Int) : List D := [.v (.int .u64 n)]
def strD (s : ByteArray) : List D := [.v (.string s)]
structure Bk where
  name : ByteArray
  regs : List Int
def Bk.d (b : Bk) : List D := [.v (.string b.name), .lst false (b.regs.map iD)]
structure Un where
  name : ByteArray
  count : Int
def Un.d (u : Un) : List D := [.v (.string u.name), .v (.int .i64 u.count)]
structure Ef where
  kind : Int
  operand : Int
  reg : Int
  addr : T
  value : T
  cond : T
def Ef.d (x : Ef) : List D := .v (.int .u8 x.kind) :: .v (.int .i64 x.operand) :: .v (.int .i64 x.reg) :: (x.addr.d ++ (x.value.d ++ x.cond.d))
structure Ins where
  name : ByteArray
  mask : Int
  match_ : Int
  operands : List Opn
  effects : List Ef
  unit : Int
  busy : Int
  latency : Int
  slots : Int
def Ins.d (s : Ins) : List D := [.v (.string s.name), .v (.int .u64 s.mask), .v (.int .u64 s.match_), .lst false (s.operands.map Opn.d), .lst false (s.effects.map Ef.d), .v (.int .i64 s.unit), .v (.int .i64 s.busy), .v (.int .i64 s.latency), .v (.int .i64 s.slots)]
structure Mc where
  name : ByteArray
  word : Int
  address : Int
  regs : List Rg
  banks : List Bk
  units : List Un
  instrs : List Ins
def Mc.d (m : Mc) : List D := [.v (.string m.name), .v (.int .i64 m.word), .v (.int .i64 m.address), .lst false (m.regs.map Rg.d), .lst false (m.banks.map Bk.d), .lst false (m.units.map Un.d), .lst false (m.instrs.map Ins.d)]
structure Mo where
  instr : Int
  args : List Int
def Mo.d (o : Mo) : List D := [.v (.int .i64 o.instr), .lst false (o.args.map iD)]
structure Bn where
  name : ByteArray
  width : Int
  bits : Int
def Bn.d (b : Bn) : List D := [.v (.string b.name), .v (.int .i64 b.width), .v (.int .u64 b.bits)]
theorem Pc.inj (p q : Pc) (h : p.d = q.d) : p = q := by cases p; cases q; simp [Pc.d] at h; simp [h]
theorem iD_inj (p q : Int) (h : iD p = iD q) : p = q := by simpa [iD] using h
theorem uD_inj (p q : Int) (h : uD p = uD q) : p = q := by simpa [uD] using h
theorem strD_inj (p q : ByteArray) (h : strD p = strD q) : p = q := by simpa [strD] using h
theorem Opn.inj (p q : Opn) (h : p.d = q.d) : p = q := by
  cases p; cases q
  simp only [Opn.d, List.cons.injEq, D.v.injEq, Value.int.injEq, Value.string.injEq, D.lst.injEq, true_and, and_true] at h
  obtain ⟨rfl, rfl, rfl, rfl, h, rfl⟩ := h
  rw [map_inj (fun x _ y => Pc.inj x y) h]
theorem Rg.inj (p q : Rg) (h : p.d = q.d) : p = q := by cases p; cases q; simp [Rg.d] at h; simp [h]
theorem Bk.inj (p q : Bk) (h : p.d = q.d) : p = q := by
  cases p; cases q
  simp only [Bk.d, List.cons.injEq, D.v.injEq, Value.int.injEq, Value.string.injEq, D.lst.injEq, true_and, and_true] at h
  obtain ⟨rfl, h⟩ := h
  rw [map_inj (fun x _ y => iD_inj x y) h]
theorem Un.inj (p q : Un) (h : p.d = q.d) : p = q := by cases p; cases q; simp [Un.d] at h; simp [h]
theorem T.d_len (t : T) : t.d.length = 6 := by rw [T.d_eq]; rfl
theorem Ef.inj (p q : Ef) (h : p.d = q.d) : p = q := by
  cases p; cases q
  simp only [Ef.d, List.cons.injEq, D.v.injEq, Value.int.injEq, true_and] at h
  obtain ⟨rfl, rfl, rfl, h⟩ := h
  have h1 := List.append_inj h (by rw [T.d_len, T.d_len])
  have h2 := List.append_inj h1.2 (by rw [T.d_len, T.d_len])
  rw [T.inj _ _ h1.1, T.inj _ _ h2.1, T.inj _ _ h2.2]
theorem Ins.inj (p q : Ins) (h : p.d = q.d) : p = q := by
  cases p; cases q
  simp only [Ins.d, List.cons.injEq, D.v.injEq, Value.int.injEq, Value.string.injEq, D.lst.injEq, true_and, and_true] at h
  obtain ⟨rfl, rfl, rfl, h, h', rfl, rfl, rfl, rfl⟩ := h
  rw [map_inj (fun x _ y => Opn.inj x y) h, map_inj (fun x _ y => Ef.inj x y) h']
theorem Mc.inj (p q : Mc) (h : p.d = q.d) : p = q := by
  cases p; cases q
  simp only [Mc.d, List.cons.injEq, D.v.injEq, Value.int.injEq, Value.string.injEq, D.lst.injEq, true_and, and_true] at h
  obtain ⟨rfl, rfl, rfl, h1, h2, h3, h4⟩ := h
  rw [map_inj (fun x _ y => Rg.inj x y) h1, map_inj (fun x _ y => Bk.inj x y) h2, map_inj (fun x _ y => Un.inj x y) h3, map_inj (fun x _ y => Ins.inj x y) h4]
theorem Mo.inj (p q : Mo) (h : p.d = q.d) : p = q := by
  cases p; cases q
  simp only [Mo.d, List.cons.injEq, D.v.injEq, Value.int.injEq, D.lst.injEq, true_and, and_true] at h
  obtain ⟨rfl, h⟩ := h
  rw [map_inj (fun x _ y => iD_inj x y) h]
theorem Bn.inj (p q : Bn) (h : p.d = q.d) : p = q := by cases p; cases q; simp [Bn.d] at h; simp [h]
theorem map_iff {α β : Type} {f : α → β} (hf : ∀ x y, f x = f y → x = y) {l l' : List α} : l.map f = l'.map f ↔ l = l' := ⟨map_inj fun x _ y => hf x y, fun h => by rw [h]⟩
theorem INJ : (∀ {p q : Pc}, p.d = q.d ↔ p = q) ∧ (∀ {p q : Opn}, p.d = q.d ↔ p = q) ∧ (∀ {p q : Rg}, p.d = q.d ↔ p = q) ∧ (∀ {p q : Bk}, p.d = q.d ↔ p = q) ∧ (∀ {p q : Un}, p.d = q.d ↔ p = q) ∧ (∀ {p q : T}, p.d = q.d ↔ p = q) ∧ (∀ {p q : Ef}, p.d = q.d ↔ p = q) ∧ (∀ {p q : Ins}, p.d = q.d ↔ p = q) ∧ (∀ {p q : Mc}, p.d = q.d ↔ p = q) ∧ (∀ {p q : Mo}, p.d = q.d ↔ p = q) ∧ (∀ {p q : Bn}, p.d = q.d ↔ p = q) ∧
    (∀ {p q : List Pc}, p.map Pc.d = q.map Pc.d ↔ p = q) ∧ (∀ {p q : List Int}, p.map iD = q.map iD ↔ p = q) ∧ (∀ {p q : List ByteArray}, p.map strD = q.map strD ↔ p = q) ∧ (∀ {p q : List T}, p.map T.d = q.map T.d ↔ p = q) ∧ (∀ {p q : List Bn}, p.map Bn.d = q.map Bn.d ↔ p = q) ∧ (∀ {p q : List Opn}, p.map Opn.d = q.map Opn.d ↔ p = q) ∧ (∀ {p q : List Int}, p.map uD = q.map uD ↔ p = q) :=
  ⟨⟨Pc.inj _ _, fun h => by rw [h]⟩, ⟨Opn.inj _ _, fun h => by rw [h]⟩, ⟨Rg.inj _ _, fun h => by rw [h]⟩, ⟨Bk.inj _ _, fun h => by rw [h]⟩, ⟨Un.inj _ _, fun h => by rw [h]⟩, ⟨T.inj _ _, fun h => by rw [h]⟩, ⟨Ef.inj _ _, fun h => by rw [h]⟩, ⟨Ins.inj _ _, fun h => by rw [h]⟩, ⟨Mc.inj _ _, fun h => by rw [h]⟩, ⟨Mo.inj _ _, fun h => by rw [h]⟩, ⟨Bn.inj _ _, fun h => by rw [h]⟩,
    map_iff Pc.inj, map_iff iD_inj, map_iff strD_inj, map_iff T.inj, map_iff Bn.inj, map_iff Opn.inj, map_iff uD_inj⟩
noncomputable def sOf {α : Type} (e : α → List D) (f : α → Option D) : List D → Option D := by
  classical
  exact fun ds => if h : ∃ a, e a = ds then f h.choose else none
theorem sOf_eq {α : Type} {e : α → List D} {f : α → Option D} (hi : ∀ a b, e a = e b → a = b) (a : α) : sOf e f (e a) = f a := by
  classical
  unfold sOf
  have h : ∃ b, e b = e a := ⟨a, rfl⟩
  rw [dif_pos h]
  exact congrArg f (hi _ _ h.choose_spec)
theorem sOf_inv {α : Type} {e : α → List D} {f : α → Option D} {ds : List D} {r : D} (hi : ∀ a b, e a = e b → a = b) (h : sOf e f ds = some r) : ∃ a, ds = e a ∧ f a = some r := by
  classical
  unfold sOf at h
  split at h
  · rename_i hx
    exact ⟨_, hx.choose_spec.symm, h⟩
  · simp at h
theorem runs_of {C : Ctx} {F : IFun} {α : Type} {e : α → List D} {f : α → Option D} (hi : ∀ a b, e a = e b → a = b) (h : ∀ N, maxLen + 10 < N → ∀ a r, lenOK.lenOKs (e a) → f a = some r → runE C N F (e a) = some r) : Runs C F (sOf e f) := by
  intro N hN ds r hl hs
  obtain ⟨a, rfl, hf⟩ := sOf_inv hi hs
  exact h N hN a r hl hf
end Go.Proofs.Dv
set_option linter.unusedVariables false
set_option linter.unusedSimpArgs false
set_option maxRecDepth 100000
namespace Go.Proofs.Dv
open Go.RowKit
open Nat renaming reduceEqDiff → zA, reduceAdd → zB, reduceSub → zC, reduceLeDiff → zD, reduceLT → zE, reduceMul → zF
open Int renaming reduceToNat → zG, reduceLE → zH, reduceLT → zI
open List renaming set_cons_zero → zJ, set_cons_succ → zK
def inB (n a b : Int) : Bool := decide (a ≤ n) && decide (n ≤ b)
def e3 (x : Int × Int × Int) : List D := [.v (.int .i64 x.1), .v (.int .i64 x.2.1), .v (.int .i64 x.2.2)]
def s_in : List D → Option D
  | [.v (.int .i64 n), .v (.int .i64 a), .v (.int .i64 b)] => some (.v (.bool (inB n a b)))
  | _ => none
theorem e_in {n a b : Int} : s_in [.v (.int .i64 n), .v (.int .i64 a), .v (.int .i64 b)] = some (.v (.bool (inB n a b))) := nr rfl
theorem r_within (C : Ctx) : Runs C ir58 s_in := by
  intro N hN ds r hl hs
  unfold s_in at hs
  split at hs
  · rename_i n a b
    simp only [Option.some.injEq] at hs
    subst hs
    simp -dsimp only [runE, run_eq, ir58, inB, EVs, ↓EVd, ↓reduceIte, zA, zB, zC, zD, zE, zF, reduceBEq, reduceCtorEq, zG, zH, zI, zJ, zK, dcells, okc]
    repeat' ((first | with_reducible refine gb_split (fun _ => ?_) (fun _ => ?_) | with_reducible refine gb_splitr (fun _ => ?_) (fun _ => ?_)) <;> (try simp -dsimp only [ir58, inB, EVs, ↓EVd, ↓reduceIte, zA, zB, zC, zD, zE, zF, reduceBEq, reduceCtorEq, zG, zH, zI, zJ, zK, dcells, okc, *]))
  · simp at hs
theorem r_In (C : Ctx) : Runs C ir66 s_in := by
  intro N hN ds r hl hs
  unfold s_in at hs
  split at hs
  · rename_i n a b
    simp only [Option.some.injEq] at hs
    subst hs
    simp -dsimp only [runE, run_eq, ir66, inB, EVs, ↓EVd, ↓reduceIte, zA, zB, zC, zD, zE, zF, reduceBEq, reduceCtorEq, zG, zH, zI, zJ, zK, dcells, okc]
    repeat' ((first | with_reducible refine gb_split (fun _ => ?_) (fun _ => ?_) | with_reducible refine gb_splitr (fun _ => ?_) (fun _ => ?_)) <;> (try simp -dsimp only [ir66, inB, EVs, ↓EVd, ↓reduceIte, zA, zB, zC, zD, zE, zF, reduceBEq, reduceCtorEq, zG, zH, zI, zJ, zK, dcells, okc, *]))
  · simp at hs
def s_wide : List D → Option D
  | [.v (.int .i64 n)] => some (.v (.bool (inB n 1 64)))
  | _ => none
theorem e_wide {n : Int} : s_wide [.v (.int .i64 n)] = some (.v (.bool (inB n 1 64))) := nr rfl
theorem r_bwide (C : Ctx) : Runs C ir125 s_wide := by
  intro N hN ds r hl hs
  unfold s_wide at hs
  split at hs
  · rename_i n
    simp only [Option.some.injEq] at hs
    subst hs
    simp -dsimp only [runE, run_eq, ir125, inB, EVs, ↓EVd, ↓reduceIte, zA, zB, zC, zD, zE, zF, reduceBEq, reduceCtorEq, zG, zH, zI, zJ, zK, dcells, okc]
    repeat' ((first | with_reducible refine gb_split (fun _ => ?_) (fun _ => ?_) | with_reducible refine gb_splitr (fun _ => ?_) (fun _ => ?_)) <;> (try simp -dsimp only [ir125, inB, EVs, ↓EVd, ↓reduceIte, zA, zB, zC, zD, zE, zF, reduceBEq, reduceCtorEq, zG, zH, zI, zJ, zK, dcells, okc, *]))
  · simp at hs
theorem r_twide (C : Ctx) : Runs C ir178 s_wide := by
  intro N hN ds r hl hs
  unfold s_wide at hs
  split at hs
  · rename_i n
    simp only [Option.some.injEq] at hs
    subst hs
    simp -dsimp only [runE, run_eq, ir178, inB, EVs, ↓EVd, ↓reduceIte, zA, zB, zC, zD, zE, zF, reduceBEq, reduceCtorEq, zG, zH, zI, zJ, zK, dcells, okc]
    repeat' ((first | with_reducible refine gb_split (fun _ => ?_) (fun _ => ?_) | with_reducible refine gb_splitr (fun _ => ?_) (fun _ => ?_)) <;> (try simp -dsimp only [ir178, inB, EVs, ↓EVd, ↓reduceIte, zA, zB, zC, zD, zE, zF, reduceBEq, reduceCtorEq, zG, zH, zI, zJ, zK, dcells, okc, *]))
  · simp at hs
theorem r_Wide01 (C : Ctx) : Runs C ir182 s_wide := by
  intro N hN ds r hl hs
  unfold s_wide at hs
  split at hs
  · rename_i n
    simp only [Option.some.injEq] at hs
    subst hs
    simp -dsimp only [runE, run_eq, ir182, inB, EVs, ↓EVd, ↓reduceIte, zA, zB, zC, zD, zE, zF, reduceBEq, reduceCtorEq, zG, zH, zI, zJ, zK, dcells, okc]
    repeat' ((first | with_reducible refine gb_split (fun _ => ?_) (fun _ => ?_) | with_reducible refine gb_splitr (fun _ => ?_) (fun _ => ?_)) <;> (try simp -dsimp only [ir182, inB, EVs, ↓EVd, ↓reduceIte, zA, zB, zC, zD, zE, zF, reduceBEq, reduceCtorEq, zG, zH, zI, zJ, zK, dcells, okc, *]))
  · simp at hs
theorem inB_iff {n a b : Int} : inB n a b = true ↔ a ≤ n ∧ n ≤ b := by simp [inB]
theorem wr (k : Int) (h : -9223372036854775808 ≤ k) (h' : k ≤ 9223372036854775807) : IntKind.i64.wrap k = k := wrap_i64 h h'
def mskI (n : Int) : Int := if inB n 1 64 = true then 2 ^ n.toNat - 1 else 0
def s_Mask : List D → Option D
  | [.v (.int .i64 n)] => some (.v (.int .u64 (mskI n)))
  | _ => none
theorem e_Mask {n : Int} : s_Mask [.v (.int .i64 n)] = some (.v (.int .u64 (mskI n))) := nr rfl
theorem msk_shr (n : Nat) (h : 1 ≤ n) (h' : n ≤ 64) : (18446744073709551615 : Int).fdiv (2 ^ (64 - n)) = 2 ^ n - 1 := by
  have : ∀ n : Fin 64, (18446744073709551615 : Int).fdiv (2 ^ (64 - (n.val + 1))) = 2 ^ (n.val + 1) - 1 := by decide
  have := this ⟨n - 1, by omega⟩
  simp only at this
  rwa [show n - 1 + 1 = n by omega] at this
theorem r_Mask (C : Ctx) (hT : C.T 125 = some s_wide) : Runs C ir89 s_Mask := by
  intro N hN ds r hl hs
  unfold s_Mask at hs
  split at hs
  · rename_i n
    simp only [Option.some.injEq] at hs
    subst hs
    cases h : inB n 1 64
    · simp -dsimp only [runE, run_eq, ir89, hT, e_wide, mskI, h, EVs, ↓EVd, ↓reduceIte, zA, zB, zC, zD, zE, zF, reduceBEq, reduceCtorEq, zG, zH, zI, zJ, zK, dcells, okc]
    · have h2 := inB_iff.1 h
      have h3 : IntKind.i64.wrap (64 - n) = 64 - n := wr _ (by omega) (by omega)
      have h4 : decide (64 - n < 0) = false := by first | exact decide_eq_true (by omega) | exact decide_eq_false (by omega)
      simp -dsimp only [runE, run_eq, ir89, hT, e_wide, mskI, h, h3, h4, EVs, ↓EVd, ↓reduceIte, zA, zB, zC, zD, zE, zF, reduceBEq, reduceCtorEq, zG, zH, zI, zJ, zK, dcells, okc]
      obtain ⟨k, rfl⟩ : ∃ k : Nat, n = k := ⟨n.toNat, by omega⟩
      have h5 : min (64 - (k : Int)).toNat IntKind.u64.bits = 64 - k := by
        rw [show IntKind.u64.bits = 64 from rfl]; omega
      rw [h5, msk_shr k (by omega) (by omega)]
      simp
  · simp at hs
def okI (w x : Int) : Bool := inB w 1 64 && decide (x ≤ mskI w)
def s_Ok : List D → Option D
  | [.v (.int .i64 w), .v (.int .u64 x)] => some (.v (.bool (okI w x)))
  | _ => none
theorem e_Ok {w x : Int} : s_Ok [.v (.int .i64 w), .v (.int .u64 x)] = some (.v (.bool (okI w x))) := nr rfl
theorem r_Ok (C : Ctx) (hT : C.T 125 = some s_wide) (hM : C.T 89 = some s_Mask) : Runs C ir92 s_Ok := by
  intro N hN ds r hl hs
  unfold s_Ok at hs
  split at hs
  · rename_i w x
    simp only [Option.some.injEq] at hs
    subst hs
    simp -dsimp only [runE, run_eq, ir92, hT, e_wide, hM, e_Mask, okI, EVs, ↓EVd, ↓reduceIte, zA, zB, zC, zD, zE, zF, reduceBEq, reduceCtorEq, zG, zH, zI, zJ, zK, dcells, okc]
    repeat' ((first | with_reducible refine gb_split (fun _ => ?_) (fun _ => ?_) | with_reducible refine gb_splitr (fun _ => ?_) (fun _ => ?_)) <;> (try simp -dsimp only [ir92, hT, e_wide, hM, e_Mask, okI, EVs, ↓EVd, ↓reduceIte, zA, zB, zC, zD, zE, zF, reduceBEq, reduceCtorEq, zG, zH, zI, zJ, zK, dcells, okc, *]))
  · simp at hs
def letter (b : UInt8) : Bool := (decide ((97 : Int) ≤ b.toNat) && decide ((b.toNat : Int) ≤ 122)) || (decide ((65 : Int) ≤ b.toNat) && decide ((b.toNat : Int) ≤ 90))
def other (b : UInt8) : Bool := (decide ((48 : Int) ≤ b.toNat) && decide ((b.toNat : Int) ≤ 57)) || decide ((b.toNat : Int) = 95)
def chOK (i : Nat) (b : UInt8) : Bool := letter b || (!decide (i = 0) && other b)
def scOK {α β : Type} : Sc α β → Bool
  | .go _ => true
  | .out _ => false
theorem sc_go {α β : Type} {a : α} : scOK (.go a : Sc α β) = true := nr rfl
theorem sc_out {α β : Type} {b : β} : scOK (.out b : Sc α β) = false := nr rfl
def nameOK (s : ByteArray) : Bool := decide (1 ≤ s.size) && decide (s.size ≤ 24) && scOK (scan (tst chOK (fun i _ => i + 1) fun _ _ => ()) 0 s.data.toList)
def s_Name : List D → Option D
  | [.v (.string s)] => some (.v (.bool (nameOK s)))
  | _ => none
theorem e_Name {s : ByteArray} : s_Name [.v (.string s)] = some (.v (.bool (nameOK s))) := nr rfl
theorem bsz (s : ByteArray) : s.size = s.data.toList.length := by rw [Array.length_toList]; rfl
theorem byt {s : ByteArray} {i : Nat} {b : UInt8} (h : s.data.toList[i]? = some b) : s.data[i]? = some b := by simpa using h
theorem r_Name (C : Ctx) : Runs C ir57 s_Name := by
  intro N hN ds r hl hs
  unfold s_Name at hs
  split at hs
  · rename_i s
    simp only [Option.some.injEq] at hs
    subst hs
    by_cases h1 : s.size < 1
    · have h2 : decide ((s.size : Int) < 1) = true := by first | exact decide_eq_true (by omega) | exact decide_eq_false (by omega)
      have h3 : decide (1 ≤ s.size) = false := by first | exact decide_eq_true (by omega) | exact decide_eq_false (by omega)
      simp -dsimp only [runE, run_eq, ir57, nameOK, h2, h3, EVs, ↓EVd, ↓reduceIte, zA, zB, zC, zD, zE, zF, reduceBEq, reduceCtorEq, zG, zH, zI, zJ, zK, dcells, okc]
    by_cases h4 : 24 < s.size
    · have h2 : decide ((s.size : Int) < 1) = false := by first | exact decide_eq_true (by omega) | exact decide_eq_false (by omega)
      have h3 : decide ((24 : Int) < s.size) = true := by first | exact decide_eq_true (by omega) | exact decide_eq_false (by omega)
      have h5 : decide (s.size ≤ 24) = false := by first | exact decide_eq_true (by omega) | exact decide_eq_false (by omega)
      simp -dsimp only [runE, run_eq, ir57, nameOK, h2, h3, h5, EVs, ↓EVd, ↓reduceIte, zA, zB, zC, zD, zE, zF, reduceBEq, reduceCtorEq, zG, zH, zI, zJ, zK, dcells, okc]
    have h2 : decide ((s.size : Int) < 1) = false := by first | exact decide_eq_true (by omega) | exact decide_eq_false (by omega)
    have h3 : decide ((24 : Int) < s.size) = false := by first | exact decide_eq_true (by omega) | exact decide_eq_false (by omega)
    have h5 : decide (1 ≤ s.size) = true := by first | exact decide_eq_true (by omega) | exact decide_eq_false (by omega)
    have h6 : decide (s.size ≤ 24) = true := by first | exact decide_eq_true (by omega) | exact decide_eq_false (by omega)
    simp -dsimp only [runE, run_eq, ir57, nameOK, h2, h3, h5, h6, EVs, ↓EVd, ↓reduceIte, zA, zB, zC, zD, zE, zF, reduceBEq, reduceCtorEq, zG, zH, zI, zJ, zK, dcells, okc]
    clear h2 h3 h5 h6
    rw [bsz] at h1 h4
    simp only [bsz]
    generalize hI : iter _ _ _ _ = I
    revert I
    refine iter_test s.data.toList (fun i _ => ⟨[(0, .v (.string s)), (15, .v (.int .i64 s.data.toList.length)), (16, .v (.int .i64 i))], [], 0⟩) chOK (fun i _ => i + 1) (fun _ _ => ()) (fun i a => a = i) 0 (by have := maxLen_ge; omega) hN ?_ rfl ?_ ?_ ?_
    · simp -dsimp only [EVs, ↓EVd, ↓reduceIte, zA, zB, zC, zD, zE, zF, reduceBEq, reduceCtorEq, zG, zH, zI, zJ, zK, dcells, okc]
    · rintro _ i b hi hw hb rfl
      refine ⟨?_, fun _ => rfl⟩
      have hb' := byt hb
      have hz : decide ((i : Int) = 0) = decide (i = 0) := by simp
      simp -dsimp only [lp57x0, hb', hi, hw, hz, chOK, letter, other, bsz, EVs, ↓EVd, ↓reduceIte, zA, zB, zC, zD, zE, zF, reduceBEq, reduceCtorEq, zG, zH, zI, zJ, zK, dcells, okc]
      repeat' ((first | with_reducible refine gb_split (fun _ => ?_) (fun _ => ?_) | with_reducible refine gb_splitr (fun _ => ?_) (fun _ => ?_)) <;> (try simp -dsimp only [lp57x0, hb', hi, hw, hz, chOK, letter, other, bsz, EVs, ↓EVd, ↓reduceIte, zA, zB, zC, zD, zE, zF, reduceBEq, reduceCtorEq, zG, zH, zI, zJ, zK, dcells, okc, *]))
      all_goals (simp only [decide_eq_true_eq, decide_eq_false_iff_not] at *; omega)
    · rintro _ i b hi hb rfl hs
      have hb' := byt hb
      have hz : decide ((i : Int) = 0) = decide (i = 0) := by simp
      simp -dsimp only [lp57x0, hb', hi, hz, chOK, letter, other, hs, sc_go, sc_out, EVs, ↓EVd, ↓reduceIte, zA, zB, zC, zD, zE, zF, reduceBEq, reduceCtorEq, zG, zH, zI, zJ, zK, dcells, okc]
      repeat' ((first | with_reducible refine gb_split (fun _ => ?_) (fun _ => ?_) | with_reducible refine gb_splitr (fun _ => ?_) (fun _ => ?_)) <;> (try simp -dsimp only [lp57x0, hb', hi, hz, chOK, letter, other, hs, sc_go, sc_out, EVs, ↓EVd, ↓reduceIte, zA, zB, zC, zD, zE, zF, reduceBEq, reduceCtorEq, zG, zH, zI, zJ, zK, dcells, okc, *]))
      all_goals (simp only [decide_eq_true_eq, decide_eq_false_iff_not] at *; omega)
    · rintro _ rfl hs
      simp -dsimp only [lp57x0, hs, sc_go, sc_out, EVs, ↓EVd, ↓reduceIte, zA, zB, zC, zD, zE, zF, reduceBEq, reduceCtorEq, zG, zH, zI, zJ, zK, dcells, okc]
  · simp at hs
end Go.Proofs.Dv
set_option linter.unusedVariables false
set_option linter.unusedSimpArgs false
set_option maxRecDepth 100000
namespace Go.Proofs.Dv
open Go.RowKit
open Nat renaming reduceEqDiff → zA, reduceAdd → zB, reduceSub → zC, reduceLeDiff → zD, reduceLT → zE, reduceMul → zF
open Int renaming reduceToNat → zG, reduceLE → zH, reduceLT → zI
open List renaming set_cons_zero → zJ, set_cons_succ → zK
theorem r_Name01 (C : Ctx) : Runs C ir65 s_Name := by
  intro N hN ds r hl hs
  unfold s_Name at hs
  split at hs
  · rename_i s
    simp only [Option.some.injEq] at hs
    subst hs
    by_cases h1 : s.size < 1
    · have h2 : decide ((s.size : Int) = 0) = true := decide_eq_true (by omega)
      have h3 : decide (1 ≤ s.size) = false := decide_eq_false (by omega)
      simp -dsimp only [runE, run_eq, ir65, nameOK, h2, h3, EVs, ↓EVd, ↓reduceIte, zA, zB, zC, zD, zE, zF, reduceBEq, reduceCtorEq, zG, zH, zI, zJ, zK, dcells, okc]
    by_cases h4 : 24 < s.size
    · have h2 : decide ((s.size : Int) = 0) = false := decide_eq_false (by omega)
      have h3 : decide ((24 : Int) < s.size) = true := decide_eq_true (by omega)
      have h5 : decide (s.size ≤ 24) = false := decide_eq_false (by omega)
      simp -dsimp only [runE, run_eq, ir65, nameOK, h2, h3, h5, EVs, ↓EVd, ↓reduceIte, zA, zB, zC, zD, zE, zF, reduceBEq, reduceCtorEq, zG, zH, zI, zJ, zK, dcells, okc]
    have h2 : decide ((s.size : Int) = 0) = false := decide_eq_false (by omega)
    have h3 : decide ((24 : Int) < s.size) = false := decide_eq_false (by omega)
    have h5 : decide (1 ≤ s.size) = true := decide_eq_true (by omega)
    have h6 : decide (s.size ≤ 24) = true := decide_eq_true (by omega)
    simp -dsimp only [runE, run_eq, ir65, nameOK, h2, h3, h5, h6, EVs, ↓EVd, ↓reduceIte, zA, zB, zC, zD, zE, zF, reduceBEq, reduceCtorEq, zG, zH, zI, zJ, zK, dcells, okc]
    clear h2 h3 h5 h6
    rw [bsz] at h1 h4
    generalize hI : iter _ _ _ _ = I
    revert I
    refine iter_test s.data.toList (fun i _ => ⟨[(0, .v (.string s)), (3, .v (.int .i64 i))], [], 0⟩) chOK (fun i _ => i + 1) (fun _ _ => ()) (fun i a => a = i) 0 (by have := maxLen_ge; omega) hN ?_ rfl ?_ ?_ ?_
    · simp -dsimp only [EVs, ↓EVd, ↓reduceIte, zA, zB, zC, zD, zE, zF, reduceBEq, reduceCtorEq, zG, zH, zI, zJ, zK, dcells, okc]
    · rintro _ i b hi hw hb rfl
      refine ⟨?_, fun _ => rfl⟩
      have hb' := byt hb
      have hz : decide ((i : Int) = 0) = decide (i = 0) := by simp
      rw [← bsz] at hi
      simp -dsimp only [lp65x0, hb', hi, hw, hz, chOK, letter, other, EVs, ↓EVd, ↓reduceIte, zA, zB, zC, zD, zE, zF, reduceBEq, reduceCtorEq, zG, zH, zI, zJ, zK, dcells, okc]
      repeat' ((first | with_reducible refine gb_split (fun _ => ?_) (fun _ => ?_) | with_reducible refine gb_splitr (fun _ => ?_) (fun _ => ?_)) <;> (try simp -dsimp only [lp65x0, hb', hi, hw, hz, chOK, letter, other, EVs, ↓EVd, ↓reduceIte, zA, zB, zC, zD, zE, zF, reduceBEq, reduceCtorEq, zG, zH, zI, zJ, zK, dcells, okc, *]))
      all_goals (simp only [decide_eq_true_eq, decide_eq_false_iff_not] at *; omega)
    · rintro _ i b hi hb rfl hs
      have hb' := byt hb
      have hz : decide ((i : Int) = 0) = decide (i = 0) := by simp
      rw [← bsz] at hi
      simp -dsimp only [lp65x0, hb', hi, hz, chOK, letter, other, hs, sc_go, sc_out, EVs, ↓EVd, ↓reduceIte, zA, zB, zC, zD, zE, zF, reduceBEq, reduceCtorEq, zG, zH, zI, zJ, zK, dcells, okc]
      repeat' ((first | with_reducible refine gb_split (fun _ => ?_) (fun _ => ?_) | with_reducible refine gb_splitr (fun _ => ?_) (fun _ => ?_)) <;> (try simp -dsimp only [lp65x0, hb', hi, hz, chOK, letter, other, hs, sc_go, sc_out, EVs, ↓EVd, ↓reduceIte, zA, zB, zC, zD, zE, zF, reduceBEq, reduceCtorEq, zG, zH, zI, zJ, zK, dcells, okc, *]))
      all_goals (simp only [decide_eq_true_eq, decide_eq_false_iff_not] at *; omega)
    · rintro _ rfl hs
      simp -dsimp only [lp65x0, hs, sc_go, sc_out, ← bsz, EVs, ↓EVd, ↓reduceIte, zA, zB, zC, zD, zE, zF, reduceBEq, reduceCtorEq, zG, zH, zI, zJ, zK, dcells, okc]
  · simp at hs
def idx {α : Type} [DecidableEq α] (x : α) : List α → Nat → Int
  | [], _ => -1
  | y :: ys, i => if x = y then (i : Int) else idx x ys (i + 1)
theorem idx_scan {α : Type} [DecidableEq α] (x : α) : ∀ (l : List α) (i : Nat), idx x l i = match scan (tst (fun _ y => !decide (x = y)) (fun i _ => i + 1) (fun i _ => (i : Int))) i l with | .go _ => -1 | .out k => k
  | [], i => rfl
  | y :: ys, i => by
    simp only [idx, scan, tst]
    by_cases h : x = y
    · simp [h]
    · simp only [h, if_false, decide_false, Bool.not_false, if_true]
      exact idx_scan x ys (i + 1)
def has {α : Type} [DecidableEq α] (x : α) (l : List α) : Bool := l.any fun y => decide (x = y)
theorem idx_nonneg {α : Type} [DecidableEq α] (x : α) : ∀ (l : List α) (i : Nat), decide (0 ≤ idx x l i) = has x l
  | [], i => by simp [idx, has]
  | y :: ys, i => by
    have ih := idx_nonneg x ys (i + 1)
    simp only [has] at ih
    simp only [idx, has, List.any_cons]
    by_cases h : x = y
    · simp [h]
    · simp only [h, if_false, ih, decide_false, Bool.false_or]
theorem r_IndexI (C : Ctx) (N : Nat) (hN : maxLen + 10 < N) (b : Bool) (l : List Int) (x : Int) (hl : l.length ≤ maxLen) : runE C N ir145 [.lst b (l.map iD), .v (.int .i64 x)] = some (.v (.int .i64 (idx x l 0))) := by
  simp -dsimp only [runE, run_eq, ir145, EVs, ↓EVd, ↓reduceIte, zA, zB, zC, zD, zE, zF, reduceBEq, reduceCtorEq, zG, zH, zI, zJ, zK, dcells, okc]
  generalize hI : iter _ _ _ _ = I
  revert I
  refine iter_test l (fun i _ => ⟨[(0, .lst b (l.map iD)), (1, .v (.int .i64 x)), (7, .v (.int .i64 l.length)), (8, .v (.int .i64 i))], [], 0⟩) (fun _ y => !decide (x = y)) (fun i _ => i + 1) (fun i _ => (i : Int)) (fun i a => a = i) 0 hl hN ?_ rfl ?_ ?_ ?_
  · simp -dsimp only [EVs, ↓EVd, ↓reduceIte, zA, zB, zC, zD, zE, zF, reduceBEq, reduceCtorEq, zG, zH, zI, zJ, zK, dcells, okc]
  · rintro _ i y hi hw hy rfl
    refine ⟨?_, fun _ => rfl⟩
    simp -dsimp only [lp145x0, hi, hw, hy, iD, EVs, ↓EVd, ↓reduceIte, zA, zB, zC, zD, zE, zF, reduceBEq, reduceCtorEq, zG, zH, zI, zJ, zK, dcells, okc]
    repeat' ((first | with_reducible refine gb_split (fun _ => ?_) (fun _ => ?_) | with_reducible refine gb_splitr (fun _ => ?_) (fun _ => ?_)) <;> (try simp -dsimp only [lp145x0, hi, hw, hy, iD, EVs, ↓EVd, ↓reduceIte, zA, zB, zC, zD, zE, zF, reduceBEq, reduceCtorEq, zG, zH, zI, zJ, zK, dcells, okc, *]))
  · rintro _ i y hi hy rfl hs
    simp -dsimp only [lp145x0, hi, hy, iD, idx_scan, hs, EVs, ↓EVd, ↓reduceIte, zA, zB, zC, zD, zE, zF, reduceBEq, reduceCtorEq, zG, zH, zI, zJ, zK, dcells, okc]
    repeat' ((first | with_reducible refine gb_split (fun _ => ?_) (fun _ => ?_) | with_reducible refine gb_splitr (fun _ => ?_) (fun _ => ?_)) <;> (try simp -dsimp only [lp145x0, hi, hy, iD, idx_scan, hs, EVs, ↓EVd, ↓reduceIte, zA, zB, zC, zD, zE, zF, reduceBEq, reduceCtorEq, zG, zH, zI, zJ, zK, dcells, okc, *]))
  · rintro _ rfl hs
    simp -dsimp only [lp145x0, idx_scan, hs, EVs, ↓EVd, ↓reduceIte, zA, zB, zC, zD, zE, zF, reduceBEq, reduceCtorEq, zG, zH, zI, zJ, zK, dcells, okc]
theorem r_IndexS (C : Ctx) (N : Nat) (hN : maxLen + 10 < N) (b : Bool) (l : List ByteArray) (x : ByteArray) (hl : l.length ≤ maxLen) : runE C N ir147 [.lst b (l.map strD), .v (.string x)] = some (.v (.int .i64 (idx x l 0))) := by
  simp -dsimp only [runE, run_eq, ir147, EVs, ↓EVd, ↓reduceIte, zA, zB, zC, zD, zE, zF, reduceBEq, reduceCtorEq, zG, zH, zI, zJ, zK, dcells, okc]
  generalize hI : iter _ _ _ _ = I
  revert I
  refine iter_test l (fun i _ => ⟨[(0, .lst b (l.map strD)), (1, .v (.string x)), (7, .v (.int .i64 l.length)), (8, .v (.int .i64 i))], [], 0⟩) (fun _ y => !decide (x = y)) (fun i _ => i + 1) (fun i _ => (i : Int)) (fun i a => a = i) 0 hl hN ?_ rfl ?_ ?_ ?_
  · simp -dsimp only [EVs, ↓EVd, ↓reduceIte, zA, zB, zC, zD, zE, zF, reduceBEq, reduceCtorEq, zG, zH, zI, zJ, zK, dcells, okc]
  · rintro _ i y hi hw hy rfl
    refine ⟨?_, fun _ => rfl⟩
    simp -dsimp only [lp147x0, hi, hw, hy, strD, EVs, ↓EVd, ↓reduceIte, zA, zB, zC, zD, zE, zF, reduceBEq, reduceCtorEq, zG, zH, zI, zJ, zK, dcells, okc]
    repeat' ((first | with_reducible refine gb_split (fun _ => ?_) (fun _ => ?_) | with_reducible refine gb_splitr (fun _ => ?_) (fun _ => ?_)) <;> (try simp -dsimp only [lp147x0, hi, hw, hy, strD, EVs, ↓EVd, ↓reduceIte, zA, zB, zC, zD, zE, zF, reduceBEq, reduceCtorEq, zG, zH, zI, zJ, zK, dcells, okc, *]))
  · rintro _ i y hi hy rfl hs
    simp -dsimp only [lp147x0, hi, hy, strD, idx_scan, hs, EVs, ↓EVd, ↓reduceIte, zA, zB, zC, zD, zE, zF, reduceBEq, reduceCtorEq, zG, zH, zI, zJ, zK, dcells, okc]
    repeat' ((first | with_reducible refine gb_split (fun _ => ?_) (fun _ => ?_) | with_reducible refine gb_splitr (fun _ => ?_) (fun _ => ?_)) <;> (try simp -dsimp only [lp147x0, hi, hy, strD, idx_scan, hs, EVs, ↓EVd, ↓reduceIte, zA, zB, zC, zD, zE, zF, reduceBEq, reduceCtorEq, zG, zH, zI, zJ, zK, dcells, okc, *]))
  · rintro _ rfl hs
    simp -dsimp only [lp147x0, idx_scan, hs, EVs, ↓EVd, ↓reduceIte, zA, zB, zC, zD, zE, zF, reduceBEq, reduceCtorEq, zG, zH, zI, zJ, zK, dcells, okc]
def x_IdxI (a : Bool × (List Int) × Int) : List D := match a with | (b, l, x) => [.lst b (l.map iD), .v (.int .i64 x)]
theorem i_IdxI : ∀ a b, x_IdxI a = x_IdxI b → a = b := by
  rintro ⟨b, l, x⟩ ⟨b', l', x'⟩ h
  first | simpa [x_IdxI, INJ, and_assoc, Int.ofNat_inj] using h | (simp [x_IdxI, INJ, and_assoc, Int.ofNat_inj] at h; simp_all)
noncomputable def s_IdxI : List D → Option D := sOf x_IdxI fun a => match a with | (b, l, x) => some (.v (.int .i64 (idx x l 0)))
theorem e_IdxI {b : Bool} {l : List Int} {x : Int} : s_IdxI [.lst b (l.map iD), .v (.int .i64 x)] = some (.v (.int .i64 (idx x l 0))) := sOf_eq i_IdxI (b, l, x)
theorem R_IdxI {C : Ctx} {F : IFun} (hspec : ∀ N, maxLen + 10 < N → ∀ (b : Bool) (l : List Int) (x : Int), lenOK.lenOKs [.lst b (l.map iD), .v (.int .i64 x)] → runE C N F [.lst b (l.map iD), .v (.int .i64 x)] = some (.v (.int .i64 (idx x l 0)))) : Runs C F s_IdxI := runs_of i_IdxI fun N hN a r hl hf => by
  obtain ⟨b, l, x⟩ := a
  simp only [Option.some.injEq] at hf
  subst hf
  exact hspec N hN b l x hl
theorem R_IndexI (C : Ctx) : Runs C ir145 s_IdxI := R_IdxI fun N hN b l x hl => r_IndexI C N hN b l x (by simp only [EVl, List.length_map] at hl; exact hl.1.1)
def x_IdxS (a : Bool × (List ByteArray) × ByteArray) : List D := match a with | (b, l, x) => [.lst b (l.map strD), .v (.string x)]
theorem i_IdxS : ∀ a b, x_IdxS a = x_IdxS b → a = b := by
  rintro ⟨b, l, x⟩ ⟨b', l', x'⟩ h
  first | simpa [x_IdxS, INJ, and_assoc, Int.ofNat_inj] using h | (simp [x_IdxS, INJ, and_assoc, Int.ofNat_inj] at h; simp_all)
noncomputable def s_IdxS : List D → Option D := sOf x_IdxS fun a => match a with | (b, l, x) => some (.v (.int .i64 (idx x l 0)))
theorem e_IdxS {b : Bool} {l : List ByteArray} {x : ByteArray} : s_IdxS [.lst b (l.map strD), .v (.string x)] = some (.v (.int .i64 (idx x l 0))) := sOf_eq i_IdxS (b, l, x)
theorem R_IdxS {C : Ctx} {F : IFun} (hspec : ∀ N, maxLen + 10 < N → ∀ (b : Bool) (l : List ByteArray) (x : ByteArray), lenOK.lenOKs [.lst b (l.map strD), .v (.string x)] → runE C N F [.lst b (l.map strD), .v (.string x)] = some (.v (.int .i64 (idx x l 0)))) : Runs C F s_IdxS := runs_of i_IdxS fun N hN a r hl hf => by
  obtain ⟨b, l, x⟩ := a
  simp only [Option.some.injEq] at hf
  subst hf
  exact hspec N hN b l x hl
theorem R_IndexS (C : Ctx) : Runs C ir147 s_IdxS := R_IdxS fun N hN b l x hl => r_IndexS C N hN b l x (by simp only [EVl, List.length_map] at hl; exact hl.1.1)
def x_HasI (a : Bool × (List Int) × Int) : List D := match a with | (b, l, x) => [.lst b (l.map iD), .v (.int .i64 x)]
theorem i_HasI : ∀ a b, x_HasI a = x_HasI b → a = b := by
  rintro ⟨b, l, x⟩ ⟨b', l', x'⟩ h
  first | simpa [x_HasI, INJ, and_assoc, Int.ofNat_inj] using h | (simp [x_HasI, INJ, and_assoc, Int.ofNat_inj] at h; simp_all)
noncomputable def s_HasI : List D → Option D := sOf x_HasI fun a => match a with | (b, l, x) => some (.v (.bool (has x l)))
theorem e_HasI {b : Bool} {l : List Int} {x : Int} : s_HasI [.lst b (l.map iD), .v (.int .i64 x)] = some (.v (.bool (has x l))) := sOf_eq i_HasI (b, l, x)
theorem R_HasI {C : Ctx} {F : IFun} (hspec : ∀ N, maxLen + 10 < N → ∀ (b : Bool) (l : List Int) (x : Int), lenOK.lenOKs [.lst b (l.map iD), .v (.int .i64 x)] → runE C N F [.lst b (l.map iD), .v (.int .i64 x)] = some (.v (.bool (has x l)))) : Runs C F s_HasI := runs_of i_HasI fun N hN a r hl hf => by
  obtain ⟨b, l, x⟩ := a
  simp only [Option.some.injEq] at hf
  subst hf
  exact hspec N hN b l x hl
theorem R_ContainsI (C : Ctx) (hT : C.T 145 = some s_IdxI) : Runs C ir100 s_HasI := R_HasI fun N hN b l x hl => by
  simp -dsimp only [ir100, runE, run_eq, hT, e_IdxI, idx_nonneg, EVs, ↓EVd, ↓reduceIte, zA, zB, zC, zD, zE, zF, reduceBEq, reduceCtorEq, zG, zH, zI, zJ, zK, dcells, okc]
  repeat' ((first | with_reducible refine gb_split (fun _ => ?_) (fun _ => ?_) | with_reducible refine gb_splitr (fun _ => ?_) (fun _ => ?_)) <;> (try simp -dsimp only [ir100, runE, run_eq, hT, e_IdxI, idx_nonneg, EVs, ↓EVd, ↓reduceIte, zA, zB, zC, zD, zE, zF, reduceBEq, reduceCtorEq, zG, zH, zI, zJ, zK, dcells, okc, *]))
def x_HasS (a : Bool × (List ByteArray) × ByteArray) : List D := match a with | (b, l, x) => [.lst b (l.map strD), .v (.string x)]
theorem i_HasS : ∀ a b, x_HasS a = x_HasS b → a = b := by
  rintro ⟨b, l, x⟩ ⟨b', l', x'⟩ h
  first | simpa [x_HasS, INJ, and_assoc, Int.ofNat_inj] using h | (simp [x_HasS, INJ, and_assoc, Int.ofNat_inj] at h; simp_all)
noncomputable def s_HasS : List D → Option D := sOf x_HasS fun a => match a with | (b, l, x) => some (.v (.bool (has x l)))
theorem e_HasS {b : Bool} {l : List ByteArray} {x : ByteArray} : s_HasS [.lst b (l.map strD), .v (.string x)] = some (.v (.bool (has x l))) := sOf_eq i_HasS (b, l, x)
theorem R_HasS {C : Ctx} {F : IFun} (hspec : ∀ N, maxLen + 10 < N → ∀ (b : Bool) (l : List ByteArray) (x : ByteArray), lenOK.lenOKs [.lst b (l.map strD), .v (.string x)] → runE C N F [.lst b (l.map strD), .v (.string x)] = some (.v (.bool (has x l)))) : Runs C F s_HasS := runs_of i_HasS fun N hN a r hl hf => by
  obtain ⟨b, l, x⟩ := a
  simp only [Option.some.injEq] at hf
  subst hf
  exact hspec N hN b l x hl
theorem R_ContainsS (C : Ctx) (hT : C.T 147 = some s_IdxS) : Runs C ir106 s_HasS := R_HasS fun N hN b l x hl => by
  simp -dsimp only [ir106, runE, run_eq, hT, e_IdxS, idx_nonneg, EVs, ↓EVd, ↓reduceIte, zA, zB, zC, zD, zE, zF, reduceBEq, reduceCtorEq, zG, zH, zI, zJ, zK, dcells, okc]
  repeat' ((first | with_reducible refine gb_split (fun _ => ?_) (fun _ => ?_) | with_reducible refine gb_splitr (fun _ => ?_) (fun _ => ?_)) <;> (try simp -dsimp only [ir106, runE, run_eq, hT, e_IdxS, idx_nonneg, EVs, ↓EVd, ↓reduceIte, zA, zB, zC, zD, zE, zF, reduceBEq, reduceCtorEq, zG, zH, zI, zJ, zK, dcells, okc, *]))
end Go.Proofs.Dv
