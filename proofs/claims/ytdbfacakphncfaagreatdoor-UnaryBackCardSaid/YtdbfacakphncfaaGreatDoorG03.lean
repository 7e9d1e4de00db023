/- Lemmas. -/
import Derived.Test.YtdbfacakphncfaaGreatDoorG02
import Derived.Test.YtdbfacakphncfaaGreatDoorProg
set_option maxRecDepth 1000000
set_option maxHeartbeats 40000000
set_option linter.all false
namespace Go.Ab
open Go.Proofs
def zA:Nat→Nat→Option (List Nat)
 |3,9=>some [0,1,3,6,69,70]
 |3,12=>some [0,1,3,6,16,69,70,75,76]
 |5,4=>some [0,1,3,6,50,51]
 |6,7=>some [2,5,7,9,43,44,45]
 |7,2=>some [1,2,7,8]
 |8,3=>some [1,2,35,36,37]
 |12,4=>some [2,4,6,8,9,13,14,15]
 |13,6=>some [0,4,5,17,18]
 |16,4=>some [2,10,11,12]
 |16,7=>some [2,10,11,12,22,23,24]
 |17,7=>some [0,3,5,6,7,8,9]
 |17,16=>some [0,3,5,6,7,8,9]
 |20,6=>some [1,2,3,4]
 |20,999999999=>some [20]
 |24,3=>some [1,3,4,6,8,9,22,23,24]
 |24,9=>some [3,4,6,8,9]
 |24,14=>some [3,4,6,8,9,12,13,14,61,62]
 |24,30=>some [8,18,127,128,129]
 |25,6=>some [1,2,7,8,10,12,37,38,39]
 |25,25=>some [7,8,92,93]
 |26,4=>some [1,2,15,16,17]
 |28,4=>some [0,1,12,13]
 |30,4=>some [2,8,9,10]
 |33,18=>some [0,1,8]
 |37,3=>some [0,3,4]
 |38,9=>some [1,23,24]
 |39,4=>some [0,2,4,6,8,9,20,21,22]
 |39,8=>some [0,2,4,6,8,9,10,11,12,20,21,22,28,29,30]
 |42,3=>some [2,3,7,8,9]
 |44,3=>some [2,3,6,7,8]
 |46,12=>some [0,1,5,39,40,41]
 |46,22=>some [1,8,63,64,65]
 |50,4=>some [1,2,15,16,17]
 |53,2=>some [0,1,7,8]
 |54,3=>some [0,1]
 |56,1=>some [0,1]
 |56,6=>some [0,1]
 |58,2=>some [0,5]
 |65,4=>some [0,1,5,6,7]
 |66,2=>some [0,1,3,4]
 |67,2=>some [0,1,2,7]
 |75,2=>some [0,2,7,8]
 |78,22=>some [0,3,106,107]
 |82,8=>some [3,6,23,24,25]
 |89,4=>some [3,4,13,14]
 |95,6=>some [0,2,5,6,7,8,9]
 |95,19=>some [0,2,5,7,8,9,10,11]
 |97,3=>some [0,3,4]
 |98,6=>some [1,6,7]
 |99,9=>some [1,3]
 |100,15=>some [4,5,6]
 |100,26=>some [1,7,8]
 |103,6=>some [0,2,3,9]
 |133,3=>some [2,3,6,7,10,11]
 |145,3=>some [2,3,11,12,13]
 |147,13=>some [0,1,6,8,62,63]
 |152,3=>some [2,3,4,5,6]
 |152,8=>some [2,3,4,5,6,7,8,9]
 |153,3=>some [0,2,3,4]
 |156,4=>some [0,3]
 |157,3=>some [1,5,6]
 |168,2=>some [5,6,7]
 |170,2=>some [0,1,9,10,11]
 |181,6=>some [0,4,9,33,34,35]
 |189,1=>some [0,1,4]
 |190,4=>some [0,1,5,6,7]
 |191,4=>some [0,1,5]
 |192,4=>some [0,1,5,6,7]
 |194,5=>some [2,3,4,5,6,7,8,9,10]
 |194,9=>some [2,3,4,5,6,7,8,9,10,11,12]
 |196,3=>some [0,2,4,5]
 |203,5=>some [3,4]
 |211,3=>some [3,6,7,8]
 |214,15=>some [0,1,5,6,7,8,9,10]
 |215,3=>some [0,2,3,5,10,11,12]
 |215,13=>some [2,5,36,37,38]
 |249,5=>some [0,1,5,6,7,8,9]
 |249,11=>some [0,1,5,6,7,8,10]
 |252,17=>some [2,8,9,10,11,13,14,15,16]
 |252,24=>some [2,8,9,10,14,15,16,17,18]
 |254,2=>some [0,1,2,3,9]
 |258,6=>some [0,4,5,7]
 |264,36=>some [1,8,9,10,11,12,13,99,100,101]
 |271,1=>some [0,1,4]
 |272,11=>some [0,1,3,4,10,11,12,13,14,15,16]
 |272,18=>some [0,1,3,4,10,11,12,13,17]
 |273,1=>some [0,1]
 |274,2=>some [0,2,4]
 |275,1=>some [0,1]
 |276,1=>some [0,1]
 |277,13=>some [0,1,2,10,11,52,53]
 |277,21=>some [0,2,10,11,77,78]
 |280,3=>some [0,4,5]
 |280,8=>some [4,6,7,8]
 |284,2=>some [0,7,8,9]
 |285,2=>some [1,2,10]
 |287,10=>some [0,3,4,5]
 |297,10=>some [0,4,5,6]
 |299,6=>some [0,1,5]
 |305,38=>some [175]
 |305,5=>some [0,7,8,9]
 |305,12=>some [0,7,8,9,12]
 |305,25=>some [0,7,8,9,14,15]
 |305,29=>some [0,7,8,9,14,15,16]
 |306,2=>some [2,4]
 |_,_=>none
def prims(f:FuncId)(x:List AV):Option AV :=
 bif Nat.beq f 108 then zEI x else
 bif Nat.beq f 46 then zFG x else
 bif Nat.beq f 126 then zDa x else
 bif Nat.beq f 198 then zI4 x else
 bif Nat.beq f 240 then zB3 x else
 bif Nat.beq f 239 then zCo x else
 bif Nat.beq f 202 then zCm x else
 bif Nat.beq f 201 then zC2 x else
 bif Nat.beq f 196 then zHu x else
 none
noncomputable def CC:Cfg:={ P:=Tryz.prog,byRef:=fun _=>false,thaw:=fun f=>Nat.beq f 85||Nat.beq f 30,keep:=zA,prim:=prims }
def zBe:CC.P=Tryz.prog:=rfl
def zCy(f:FuncId):CC.byRef f=false:=rfl
def zDf{a b:Nat}(h:a≠b):Nat.beq a b=false:=by cases hb:Nat.beq a b with|true=>exact absurd (Nat.eq_of_beq_eq_true hb) h|false=>rfl
def zX(f:FuncId)(x:List AV)(h:f≠108∧f≠46∧f≠126∧f≠198∧f≠240∧f≠239∧f≠202∧f≠201∧f≠196):CC.prim f x=none:=by
 obtain⟨h0,h1,h2,h3,h4,h5,h6,h7,h8⟩:=h
 show prims f x=none
 unfold prims;rw[zDf h0,zDf h1,zDf h2,zDf h3,zDf h4,zDf h5,zDf h6,zDf h7,zDf h8];rfl
def yFg(x:List AV):CC.prim 46 x=zFG x:=rfl
def zYA(x:List AV):CC.prim 126 x=zDa x:=rfl
def yBy(x:List AV):CC.prim 198 x=zI4 x:=rfl
def yAb(x:List AV):CC.prim 240 x=zB3 x:=rfl
def yBs(x:List AV):CC.prim 239 x=zCo x:=rfl
def zZt(x:List AV):CC.prim 202 x=zCm x:=rfl
def yBa(x:List AV):CC.prim 201 x=zC2 x:=rfl
def yAx(x:List AV):CC.prim 196 x=zHu x:=rfl
def zYl:und Tryz.prog 2=some (.int .i64):=by kernel_rfl
def zYn:agg? Tryz.prog 2=some false:=by kernel_rfl
def yCR:sizeOf? Tryz.prog 3=some 1:=by kernel_rfl
def zYc:und Tryz.prog 5=some (.int .u8):=by kernel_rfl
def zYp:agg? Tryz.prog 5=some false:=by kernel_rfl
def zF0:und Tryz.prog 9=some .string:=by kernel_rfl
def zX8:agg? Tryz.prog 9=some false:=by kernel_rfl
def yDV(d:Nat)(xs ys:List Tree):equal Tryz.prog (d+1) 23 (.agg xs) (.agg ys)=zMk Tryz.prog (equal Tryz.prog d) 5 0 xs ys (zMk Tryz.prog (equal Tryz.prog d) 2 1 xs ys (zMk Tryz.prog (equal Tryz.prog d) 9 2 xs ys (some true))):=by kernel_rfl
def zUS:zCL Tryz.prog 50 23=false:=by kernel_rfl
def zWA(n:Nat):small Tryz.prog 23 n=(true&&decide (n<4294967296)&&true):=by kernel_rfl
def yDn:zBI Tryz.prog 23=some (.t (.agg [.int .u8 (0),.int .i64 (0),.str []])):=by kernel_rfl
def yCt:und Tryz.prog 69=some (.slice 3):=by kernel_rfl
def zRq(u:Nat)(v:Tree):kT Tryz.prog (.t (.ifc u v)) 227 true=match Nat.beq u 227 with|true=>some (.val (.tup [.t v,.t (.bool true)]),[])|false=>some (.val (.tup [.t (.int .i64 (0)),.t (.bool false)]),[]):=by cases h:Nat.beq u 227<;>simp only[kT,h]<;>kernel_rfl
def zZw:zBI Tryz.prog 281=some (.t (.agg [.int .u8 (0),.int .i64 (0),.int .i64 (0)])):=by kernel_rfl
abbrev NF (n:Nat) (f:Func):Prop:=nth Tryz.prog.funcs.toList n=some f
def fnx{n:Nat}{f:Func}(h:Tryz.prog.funcs[n]?=some f):NF n f:=by show nth _ _=_;rw[yP];simpa using h
def kq{p:Prop}(h:p:=by(repeat' apply And.intro)<;>intros<;>(show _=_;kernel_rfl)):p:=h
abbrev HBq (f:FuncId):Prop:=yY Tryz.prog f=true
def yIm:NF 5 Tryz.f5:=fnx Tryz.func5
def yIe:NF 6 Tryz.f6:=fnx Tryz.func6
def yHv:NF 7 Tryz.f7:=fnx Tryz.func7
def zOz:HBq 7:=kq
def zGw:HBq 8:=kq
def zUN:NF 10 Tryz.f10:=fnx Tryz.func10
def zBh:HBq 10:=kq
def yDy:NF 11 Tryz.f11:=fnx Tryz.func11
def zLY:HBq 11:=kq
def yDO:NF 12 Tryz.f12:=fnx Tryz.func12
def zDe:HBq 12:=kq
def yBZ:NF 13 Tryz.f13:=fnx Tryz.func13
def zJD:HBq 13:=kq
def yES:NF 14 Tryz.f14:=fnx Tryz.func14
def zES:HBq 14:=kq
def yG2:NF 15 Tryz.f15:=fnx Tryz.func15
def zJl:HBq 15:=kq
def yGF:NF 16 Tryz.f16:=fnx Tryz.func16
def zLF:HBq 16:=kq
def yFN:NF 20 Tryz.f20:=fnx Tryz.func20
def zEg:HBq 20:=kq
def yCL:NF 21 Tryz.f21:=fnx Tryz.func21
def zMe:HBq 21:=kq
def yDU:NF 22 Tryz.f22:=fnx Tryz.func22
def zD8:HBq 22:=kq
def yBT:NF 23 Tryz.f23:=fnx Tryz.func23
def yIo:HBq 23:=kq
def yGg:NF 24 Tryz.f24:=fnx Tryz.func24
def yHx:HBq 24:=kq
def yDH:NF 25 Tryz.f25:=fnx Tryz.func25
def zXU:HBq 25:=kq
def yB3:NF 26 Tryz.f26:=fnx Tryz.func26
def yIW:HBq 26:=kq
def yFp:NF 27 Tryz.f27:=fnx Tryz.func27
def yIf:HBq 27:=kq
def yCi:NF 28 Tryz.f28:=fnx Tryz.func28
def zYk:HBq 28:=kq
def yDY:NF 29 Tryz.f29:=fnx Tryz.func29
def zLt:HBq 29:=kq
def yHi:NF 30 Tryz.f30:=fnx Tryz.func30
def yIQ:HBq 30:=kq
def yC5:NF 31 Tryz.f31:=fnx Tryz.func31
def zLo:HBq 31:=kq
def yCD:NF 34 Tryz.f34:=fnx Tryz.func34
def yIb:HBq 34:=kq
def yCV:NF 35 Tryz.f35:=fnx Tryz.func35
def zX7:HBq 35:=kq
def yCI:NF 36 Tryz.f36:=fnx Tryz.func36
def yHA:HBq 36:=kq
def zUv:NF 37 Tryz.f37:=fnx Tryz.func37
def zCr:HBq 37:=kq
def yCY:NF 38 Tryz.f38:=fnx Tryz.func38
def yIE:HBq 38:=kq
def yGh:NF 39 Tryz.f39:=fnx Tryz.func39
def yIK:HBq 39:=kq
def yB1:NF 40 Tryz.f40:=fnx Tryz.func40
def yIJ:HBq 40:=kq
def zVV:NF 41 Tryz.f41:=fnx Tryz.func41
def yIt:HBq 41:=kq
def yGA:NF 42 Tryz.f42:=fnx Tryz.func42
def zJh:HBq 42:=kq
def zPb:NF 43 Tryz.f43:=fnx Tryz.func43
def yIx:HBq 43:=kq
def yGD:NF 44 Tryz.f44:=fnx Tryz.func44
def zLy:HBq 44:=kq
def yDT:NF 45 Tryz.f45:=fnx Tryz.func45
def zXK:HBq 45:=kq
def zEU:HBq 46:=kq
def yDw:NF 47 Tryz.f47:=fnx Tryz.func47
def yIq:HBq 47:=kq
def yEb:NF 48 Tryz.f48:=fnx Tryz.func48
def yIN:HBq 48:=kq
def zLc:HBq 49:=kq
def yEx:NF 50 Tryz.f50:=fnx Tryz.func50
def yIv:HBq 50:=kq
def yG7:NF 51 Tryz.f51:=fnx Tryz.func51
def yHo:HBq 51:=kq
def yHl:NF 52 Tryz.f52:=fnx Tryz.func52
def zYj:HBq 52:=kq
def yGJ:NF 53 Tryz.f53:=fnx Tryz.func53
def yIO:HBq 53:=kq
def yGq:NF 66 Tryz.f66:=fnx Tryz.func66
def yHu:HBq 66:=kq
def zU2:NF 67 Tryz.f67:=fnx Tryz.func67
def zL0:HBq 67:=kq
def yHe:NF 68 Tryz.f68:=fnx Tryz.func68
def zXS:HBq 68:=kq
def yFA:NF 69 Tryz.f69:=fnx Tryz.func69
def yIc:HBq 69:=kq
def yCp:NF 70 Tryz.f70:=fnx Tryz.func70
def zSi:HBq 70:=kq
def yGK:NF 71 Tryz.f71:=fnx Tryz.func71
def zX4:HBq 71:=kq
def yFC:NF 72 Tryz.f72:=fnx Tryz.func72
def zK5:HBq 72:=kq
def yEo:NF 73 Tryz.f73:=fnx Tryz.func73
def yHR:HBq 73:=kq
def yBP:NF 74 Tryz.f74:=fnx Tryz.func74
def yIA:HBq 74:=kq
def yFu:NF 75 Tryz.f75:=fnx Tryz.func75
def yIG:HBq 75:=kq
def zVT:NF 76 Tryz.f76:=fnx Tryz.func76
def zSM:NF 77 Tryz.f77:=fnx Tryz.func77
def zBT:HBq 77:=kq
def zBs:NF 78 Tryz.f78:=fnx Tryz.func78
def zXW:HBq 78:=kq
def zUh:NF 79 Tryz.f79:=fnx Tryz.func79
def kJ:HBq 79:=kq
def zVy:NF 80 Tryz.f80:=fnx Tryz.func80
def zXX:HBq 80:=kq
def zVn:NF 81 Tryz.f81:=fnx Tryz.func81
def zBX:HBq 81:=kq
def yFm:NF 82 Tryz.f82:=fnx Tryz.func82
def yIl:HBq 82:=kq
def yDk:NF 83 Tryz.f83:=fnx Tryz.func83
def yIT:HBq 83:=kq
def yDI:NF 84 Tryz.f84:=fnx Tryz.func84
def yIB:HBq 84:=kq
def zVk:NF 85 Tryz.f85:=fnx Tryz.func85
def yHE:HBq 85:=kq
def zOJ:NF 86 Tryz.f86:=fnx Tryz.func86
def zMA:HBq 86:=kq
def zOH:NF 87 Tryz.f87:=fnx Tryz.func87
def zEa:HBq 87:=kq
def zTR:NF 88 Tryz.f88:=fnx Tryz.func88
def zOk:HBq 88:=kq
def yB2:NF 89 Tryz.f89:=fnx Tryz.func89
def zOi:HBq 89:=kq
def zS2:NF 90 Tryz.f90:=fnx Tryz.func90
def zOj:HBq 90:=kq
def zZi:NF 105 Tryz.f105:=fnx Tryz.func105
def zVa:HBq 105:=kq
def yAo:NF 106 Tryz.f106:=fnx Tryz.func106
def yDg:HBq 106:=kq
def zQ6:NF 107 Tryz.f107:=fnx Tryz.func107
def zBi:HBq 107:=kq
def yGw:HBq 108:=kq
def zYT:NF 109 Tryz.f109:=fnx Tryz.func109
def zBA:HBq 109:=kq
def yAi:NF 110 Tryz.f110:=fnx Tryz.func110
def zAL:HBq 110:=kq
def zRg:NF 111 Tryz.f111:=fnx Tryz.func111
def zBj:HBq 111:=kq
def zRo:NF 112 Tryz.f112:=fnx Tryz.func112
def zBF:HBq 112:=kq
def zQV:NF 113 Tryz.f113:=fnx Tryz.func113
def zBL:HBq 113:=kq
def zYx:NF 114 Tryz.f114:=fnx Tryz.func114
def yDq:HBq 114:=kq
def zQR:NF 115 Tryz.f115:=fnx Tryz.func115
def zEB:HBq 115:=kq
def zZQ:NF 116 Tryz.f116:=fnx Tryz.func116
def yB4:HBq 116:=kq
def yAd:NF 117 Tryz.f117:=fnx Tryz.func117
def zOV:HBq 117:=kq
def yAL:NF 118 Tryz.f118:=fnx Tryz.func118
def yGv:HBq 118:=kq
def zZC:NF 119 Tryz.f119:=fnx Tryz.func119
def yGa:HBq 119:=kq
def zZM:NF 120 Tryz.f120:=fnx Tryz.func120
def yBK:HBq 120:=kq
def yAc:NF 121 Tryz.f121:=fnx Tryz.func121
def yB0:HBq 121:=kq
def yBc:NF 122 Tryz.f122:=fnx Tryz.func122
def yGW:HBq 122:=kq
def yAr:NF 123 Tryz.f123:=fnx Tryz.func123
def yGl:HBq 123:=kq
def zYU:NF 124 Tryz.f124:=fnx Tryz.func124
def zUl:HBq 124:=kq
def yAC:NF 125 Tryz.f125:=fnx Tryz.func125
def yCH:HBq 125:=kq
def yCP:HBq 126:=kq
def zZ5:NF 127 Tryz.f127:=fnx Tryz.func127
def yEf:HBq 127:=kq
def yAg:NF 128 Tryz.f128:=fnx Tryz.func128
def yBQ:HBq 128:=kq
def zZL:NF 129 Tryz.f129:=fnx Tryz.func129
def yCQ:HBq 129:=kq
def zZ2:NF 130 Tryz.f130:=fnx Tryz.func130
def zUz:HBq 130:=kq
def yA2:NF 131 Tryz.f131:=fnx Tryz.func131
def yEW:HBq 131:=kq
def yAa:NF 132 Tryz.f132:=fnx Tryz.func132
def yDK:HBq 132:=kq
def zJF:NF 133 Tryz.f133:=fnx Tryz.func133
def zIZ:HBq 133:=kq
def zYB:NF 134 Tryz.f134:=fnx Tryz.func134
def yGi:HBq 134:=kq
def zYD:NF 135 Tryz.f135:=fnx Tryz.func135
def zGK:HBq 135:=kq
def yA6:NF 136 Tryz.f136:=fnx Tryz.func136
def zTb:HBq 136:=kq
def yBn:NF 137 Tryz.f137:=fnx Tryz.func137
def yGj:HBq 137:=kq
def yA3:NF 138 Tryz.f138:=fnx Tryz.func138
def yC9:HBq 138:=kq
def zYu:NF 139 Tryz.f139:=fnx Tryz.func139
def yF2:HBq 139:=kq
def yBw:NF 140 Tryz.f140:=fnx Tryz.func140
def yC2:HBq 140:=kq
def yAK:NF 141 Tryz.f141:=fnx Tryz.func141
def yB6:HBq 141:=kq
def zZf:NF 142 Tryz.f142:=fnx Tryz.func142
def yEw:HBq 142:=kq
def zZn:NF 143 Tryz.f143:=fnx Tryz.func143
def yBI:HBq 143:=kq
def zYZ:NF 144 Tryz.f144:=fnx Tryz.func144
def zT3:HBq 144:=kq
def yAO:NF 145 Tryz.f145:=fnx Tryz.func145
def yBN:HBq 145:=kq
def zZv:NF 146 Tryz.f146:=fnx Tryz.func146
def yCr:HBq 146:=kq
def zCD:NF 147 Tryz.f147:=fnx Tryz.func147
def yD1:HBq 147:=kq
def yAZ:NF 148 Tryz.f148:=fnx Tryz.func148
def zB8:HBq 148:=kq
def zEt:HBq 158:=kq
def zZ3:NF 159 Tryz.f159:=fnx Tryz.func159
def zEl:HBq 159:=kq
def zRc:NF 160 Tryz.f160:=fnx Tryz.func160
def kH:HBq 160:=kq
def zQs:NF 161 Tryz.f161:=fnx Tryz.func161
def zL3:HBq 161:=kq
def zQp:NF 163 Tryz.f163:=fnx Tryz.func163
def zO3:HBq 163:=kq
def zZN:NF 164 Tryz.f164:=fnx Tryz.func164
def zGA:HBq 164:=kq
def yBv:NF 165 Tryz.f165:=fnx Tryz.func165
def yFn:HBq 165:=kq
def yAM:NF 166 Tryz.f166:=fnx Tryz.func166
def zT5:HBq 166:=kq
def yA8:NF 167 Tryz.f167:=fnx Tryz.func167
def yGz:HBq 167:=kq
def zZK:NF 168 Tryz.f168:=fnx Tryz.func168
def zOv:HBq 168:=kq
def yA9:NF 169 Tryz.f169:=fnx Tryz.func169
def yF7:HBq 169:=kq
def zZB:NF 170 Tryz.f170:=fnx Tryz.func170
def zPQ:HBq 170:=kq
def zYI:NF 171 Tryz.f171:=fnx Tryz.func171
def yD6:HBq 171:=kq
def zZJ:NF 173 Tryz.f173:=fnx Tryz.func173
def yHa:HBq 173:=kq
def zY5:NF 174 Tryz.f174:=fnx Tryz.func174
def zL2:HBq 174:=kq
def zZG:NF 175 Tryz.f175:=fnx Tryz.func175
def zUB:HBq 175:=kq
def zY1:NF 176 Tryz.f176:=fnx Tryz.func176
def zVi:HBq 176:=kq
def zY0:NF 177 Tryz.f177:=fnx Tryz.func177
def zS1:HBq 177:=kq
def zZ7:NF 178 Tryz.f178:=fnx Tryz.func178
def yCT:HBq 178:=kq
def yAD:NF 179 Tryz.f179:=fnx Tryz.func179
def yBV:HBq 179:=kq
def zZm:NF 180 Tryz.f180:=fnx Tryz.func180
def yGb:HBq 180:=kq
def yAp:NF 181 Tryz.f181:=fnx Tryz.func181
def zTt:HBq 181:=kq
def yBm:NF 182 Tryz.f182:=fnx Tryz.func182
def yCO:HBq 182:=kq
def zYz:NF 183 Tryz.f183:=fnx Tryz.func183
def zA5:HBq 183:=kq
def zJx:NF 184 Tryz.f184:=fnx Tryz.func184
def zEh:HBq 184:=kq
def zRb:NF 185 Tryz.f185:=fnx Tryz.func185
def zZs:NF 186 Tryz.f186:=fnx Tryz.func186
def qH:HBq 186:=kq
def yBl:NF 195 Tryz.f195:=fnx Tryz.func195
def zEs:HBq 195:=kq
def zEy:HBq 196:=kq
def zYJ:NF 197 Tryz.f197:=fnx Tryz.func197
def zEk:HBq 197:=kq
def zC7:HBq 198:=kq
def zZb:NF 199 Tryz.f199:=fnx Tryz.func199
def zDx:HBq 199:=kq
def zZW:NF 200 Tryz.f200:=fnx Tryz.func200
def zDw:HBq 200:=kq
def zC8:HBq 201:=kq
def zTy:HBq 202:=kq
def yBp:NF 203 Tryz.f203:=fnx Tryz.func203
def yCy:HBq 203:=kq
def yAA:NF 204 Tryz.f204:=fnx Tryz.func204
def yCd:HBq 204:=kq
def yAQ:NF 205 Tryz.f205:=fnx Tryz.func205
def yGT:HBq 205:=kq
def zYL:NF 207 Tryz.f207:=fnx Tryz.func207
def yCZ:HBq 207:=kq
def zRp:NF 208 Tryz.f208:=fnx Tryz.func208
def zUm:HBq 208:=kq
def zZc:NF 209 Tryz.f209:=fnx Tryz.func209
def zVD:HBq 209:=kq
def yAv:NF 210 Tryz.f210:=fnx Tryz.func210
def yGL:HBq 210:=kq
def yAm:NF 211 Tryz.f211:=fnx Tryz.func211
def zVS:HBq 211:=kq
def zZZ:NF 212 Tryz.f212:=fnx Tryz.func212
def yDr:HBq 212:=kq
def zZx:NF 213 Tryz.f213:=fnx Tryz.func213
def yDF:HBq 213:=kq
def yAj:NF 215 Tryz.f215:=fnx Tryz.func215
def zUt:HBq 215:=kq
def zZ1:NF 216 Tryz.f216:=fnx Tryz.func216
def yBM:HBq 216:=kq
def zZA:NF 217 Tryz.f217:=fnx Tryz.func217
def zIL:HBq 217:=kq
def zZg:NF 218 Tryz.f218:=fnx Tryz.func218
def zMi:HBq 218:=kq
def zY3:NF 219 Tryz.f219:=fnx Tryz.func219
def zK8:HBq 219:=kq
def yBi:NF 220 Tryz.f220:=fnx Tryz.func220
def zUE:HBq 220:=kq
def yAI:NF 221 Tryz.f221:=fnx Tryz.func221
def zTo:HBq 221:=kq
def yCz:HBq 222:=kq
def yAU:NF 223 Tryz.f223:=fnx Tryz.func223
def yE4:HBq 223:=kq
def yBu:NF 224 Tryz.f224:=fnx Tryz.func224
def yDJ:HBq 224:=kq
def zZI:NF 225 Tryz.f225:=fnx Tryz.func225
def yEY:HBq 225:=kq
def yA7:NF 226 Tryz.f226:=fnx Tryz.func226
def yCe:HBq 226:=kq
def zZ9:NF 227 Tryz.f227:=fnx Tryz.func227
def yHf:HBq 227:=kq
def zZ8:NF 228 Tryz.f228:=fnx Tryz.func228
def yCa:HBq 228:=kq
def zYs:NF 229 Tryz.f229:=fnx Tryz.func229
def yGM:HBq 229:=kq
def jT:NF 230 Tryz.f230:=fnx Tryz.func230
def yEh:HBq 230:=kq
def zYP:NF 233 Tryz.f233:=fnx Tryz.func233
def yDd:HBq 233:=kq
def zJn:NF 234 Tryz.f234:=fnx Tryz.func234
def zIm:HBq 234:=kq
def zYt:NF 235 Tryz.f235:=fnx Tryz.func235
def yD8:HBq 235:=kq
def yDA:HBq 239:=kq
def yGI:HBq 240:=kq
def zYC:NF 241 Tryz.f241:=fnx Tryz.func241
def yFl:HBq 241:=kq
def zZz:NF 242 Tryz.f242:=fnx Tryz.func242
def yEH:HBq 242:=kq
def zQr:NF 243 Tryz.f243:=fnx Tryz.func243
def zTO:HBq 243:=kq
def zZ0:NF 244 Tryz.f244:=fnx Tryz.func244
def yDD:HBq 244:=kq
def yBd:NF 245 Tryz.f245:=fnx Tryz.func245
def yG3:HBq 245:=kq
def zY4:NF 246 Tryz.f246:=fnx Tryz.func246
def yBX:HBq 246:=kq
def yAl:NF 250 Tryz.f250:=fnx Tryz.func250
def yEc:HBq 250:=kq
def yBf:NF 251 Tryz.f251:=fnx Tryz.func251
def yDL:HBq 251:=kq
def zZD:NF 252 Tryz.f252:=fnx Tryz.func252
def yGR:HBq 252:=kq
def zZl:NF 253 Tryz.f253:=fnx Tryz.func253
def yFK:HBq 253:=kq
def zQw:NF 254 Tryz.f254:=fnx Tryz.func254
def zIA:HBq 254:=kq
def zJA:NF 255 Tryz.f255:=fnx Tryz.func255
def zVq:HBq 255:=kq
def zJp:NF 256 Tryz.f256:=fnx Tryz.func256
def zBC:HBq 256:=kq
def zBa:NF 257 Tryz.f257:=fnx Tryz.func257
def zBH:HBq 257:=kq
def zMJ:NF 258 Tryz.f258:=fnx Tryz.func258
def zBn:HBq 258:=kq
def zJa:NF 259 Tryz.f259:=fnx Tryz.func259
def vA:HBq 259:=kq
def zI6:NF 260 Tryz.f260:=fnx Tryz.func260
def kG:HBq 260:=kq
def zJE:NF 261 Tryz.f261:=fnx Tryz.func261
def zAr:HBq 261:=kq
def zRk:NF 262 Tryz.f262:=fnx Tryz.func262
def jC:HBq 262:=kq
def zJG:NF 263 Tryz.f263:=fnx Tryz.func263
def zLR:HBq 263:=kq
def yAY:NF 278 Tryz.f278:=fnx Tryz.func278
def yCv:HBq 278:=kq
def zZY:NF 279 Tryz.f279:=fnx Tryz.func279
def yDp:HBq 279:=kq
def yBk:NF 281 Tryz.f281:=fnx Tryz.func281
def yDh:HBq 281:=kq
def zZR:NF 282 Tryz.f282:=fnx Tryz.func282
def yBB:HBq 282:=kq
def zJo:NF 283 Tryz.f283:=fnx Tryz.func283
def zH6:HBq 283:=kq
def zQE:NF 284 Tryz.f284:=fnx Tryz.func284
def zTg:HBq 284:=kq
def zQq:NF 285 Tryz.f285:=fnx Tryz.func285
def zLK:HBq 285:=kq
def yBt:NF 292 Tryz.f292:=fnx Tryz.func292
def yE2:HBq 292:=kq
abbrev UNq (t:TypeId) v:=und Tryz.prog t=some v
abbrev SZq (t:TypeId) v:=sizeOf? Tryz.prog t=some v
abbrev AGq (t:TypeId) v:=agg? Tryz.prog t=some v
abbrev ZCq (t:TypeId) v:=zeroCells Tryz.prog t=some v
abbrev ZEq (t:TypeId) v:=zCC Tryz.prog t=some v
abbrev RSq (f:Func) v:=f.results.toList=v
abbrev THq (t:FuncId):Prop:=CC.thaw t=false
abbrev KPq (f k:Nat) v:=zA f k=some v
def c2{a b:Prop}(x:a)(y:b):a∧b:=⟨x,y⟩
def c3{a b c:Prop}(x:a)(y:b)(z:c):a∧b∧c:=⟨x,y,z⟩
def c5{a b c d e:Prop}(x:a)(y:b)(z:c)(u:d)(v:e):a∧b∧c∧d∧e:=⟨x,y,z,u,v⟩
def zF:UNq 2 (.int .i64)∧SZq 2 1∧AGq 2 false∧ZCq 2 [.t (.int .i64 (0))]∧ZEq 2 [.t (.int .i64 (0))]∧(∀(n:Nat),small Tryz.prog 2 n=(true&&decide (n<4294967296)&&true)):=⟨zYl,kq,zYn,kq,kq,fun _=>by kernel_rfl⟩
def zG:UNq 3 (.int .i64)∧SZq 3 1∧AGq 3 false∧ZCq 3 [.t (.int .i64 (0))]∧ZEq 3 [.t (.int .i64 (0))]∧(∀(n:Nat),small Tryz.prog 3 n=(true&&decide (n<4294967296)&&true)):=⟨kq,yCR,kq,kq,kq,fun _=>by kernel_rfl⟩
def zP:UNq 4 .bool∧SZq 4 1∧AGq 4 false∧ZCq 4 [.t (.bool false)]∧ZEq 4 [.t (.bool false)]∧(∀(n:Nat),small Tryz.prog 4 n=(true&&decide (n<4294967296)&&true))∧(yI Tryz.prog 4=true):=kq
def zE:UNq 5 (.int .u8)∧SZq 5 1∧AGq 5 false∧ZCq 5 [.t (.int .u8 (0))]∧ZEq 5 [.t (.int .u8 (0))]∧(∀(n:Nat),small Tryz.prog 5 n=(true&&decide (n<4294967296)&&true)):=⟨zYc,kq,zYp,kq,kq,fun _=>by kernel_rfl⟩
def zC:UNq 9 .string∧SZq 9 1∧AGq 9 false∧ZCq 9 [.t (.str [])]∧ZEq 9 [.t (.str [])]∧(∀(n:Nat),small Tryz.prog 9 n=(true&&decide (n<4294967296)&&true))∧(yI Tryz.prog 9=true):=⟨zF0,kq,zX8,kq,kq,fun _=>by kernel_rfl,kq⟩
def zOp:SZq 20 1∧AGq 20 false∧ZCq 20 [.t (.nilifc)]∧ZEq 20 [.t (.nilifc)]∧(∀(n:Nat),small Tryz.prog 20 n=(true&&decide (n<4294967296)&&true))∧(yI Tryz.prog 20=true):=kq
def zHg:UNq 21 (.int .i32)∧SZq 21 1∧AGq 21 false∧ZCq 21 [.t (.int .i32 (0))]∧ZEq 21 [.t (.int .i32 (0))]∧(∀(n:Nat),small Tryz.prog 21 n=(true&&decide (n<4294967296)&&true)):=kq
def zB:(∀(x:AV),zS Tryz.prog 23 x 0=retO (yC 0 x))∧(∀(x:AV),yG Tryz.prog 23 x 0=match zW x with|some cs=>retO (part Tryz.prog 5 cs 0)|none=>none)∧(∀(x:AV),zS Tryz.prog 23 x 1=retO (yC 1 x))∧(∀(x:AV),yG Tryz.prog 23 x 1=match zW x with|some cs=>retO (part Tryz.prog 2 cs 1)|none=>none)∧(∀(x:AV),zS Tryz.prog 23 x 2=retO (yC 2 x))∧(∀(x:AV),yG Tryz.prog 23 x 2=match zW x with|some cs=>retO (part Tryz.prog 9 cs 2)|none=>none)∧(∀(ps:List (Nat×AV)),build Tryz.prog 23 ps=(yN Tryz.prog [(0,1),(1,1),(2,1)] [.t (.int .u8 (0)),.t (.int .i64 (0)),.t (.str [])] ps).map mkAgg)∧SZq 23 3∧AGq 23 true∧ZCq 23 [.t (.int .u8 (0)),.t (.int .i64 (0)),.t (.str [])]∧ZEq 23 [.t (.int .u8 (0)),.t (.int .i64 (0)),.t (.str [])]∧(∀(n:Nat),small Tryz.prog 23 n=(true&&decide (n<4294967296)&&true))∧(yI Tryz.prog 23=true):=⟨fun _=>by kernel_rfl,fun _=>by kernel_rfl,fun _=>by kernel_rfl,fun _=>by kernel_rfl,fun _=>by kernel_rfl,fun _=>by kernel_rfl,fun _=>by kernel_rfl,kq,kq,kq,kq,zWA,kq⟩
def zAg:UNq 24 (.slice 45)∧SZq 24 1∧AGq 24 false∧ZCq 24 [.t (.sl true true [])]∧ZEq 24 [.t (.sl true true [])]∧(∀(n:Nat),small Tryz.prog 24 n=(true&&decide (n<4294967296)&&true))∧(yI Tryz.prog 24=true):=kq
def zO:UNq 28 (.slice 115)∧SZq 28 1∧AGq 28 false∧ZCq 28 [.t (.sl true true [])]∧ZEq 28 [.t (.sl true true [])]∧(∀(n:Nat),small Tryz.prog 28 n=(true&&decide (n<4294967296)&&true))∧(yI Tryz.prog 28=true):=kq
def zK:(∀(x:AV),zS Tryz.prog 30 x 0=retO (yC 0 x))∧(∀(x:AV),yG Tryz.prog 30 x 0=match zW x with|some cs=>retO (part Tryz.prog 3 cs 0)|none=>none)∧(∀(x:AV),zS Tryz.prog 30 x 1=retO (yC 1 x))∧(∀(x:AV),yG Tryz.prog 30 x 1=match zW x with|some cs=>retO (part Tryz.prog 3 cs 1)|none=>none)∧(∀(ps:List (Nat×AV)),build Tryz.prog 30 ps=(yN Tryz.prog [(0,1),(1,1)] [.t (.int .i64 (0)),.t (.int .i64 (0))] ps).map mkAgg)∧SZq 30 2∧AGq 30 true∧ZCq 30 [.t (.int .i64 (0)),.t (.int .i64 (0))]∧ZEq 30 [.t (.int .i64 (0)),.t (.int .i64 (0))]∧(∀(n:Nat),small Tryz.prog 30 n=(true&&decide (n<4294967296)&&true))∧(yI Tryz.prog 30=true):=kq
def zR:UNq 31 (.int .i64)∧SZq 31 1∧AGq 31 false∧ZCq 31 [.t (.int .i64 (0))]∧ZEq 31 [.t (.int .i64 (0))]∧(∀(n:Nat),small Tryz.prog 31 n=(true&&decide (n<4294967296)&&true)):=kq
def yV:UNq 37 (.slice 71)∧SZq 37 1∧AGq 37 false∧ZCq 37 [.t (.sl true true [])]∧ZEq 37 [.t (.sl true true [])]∧(∀(n:Nat),small Tryz.prog 37 n=(true&&decide (n<4294967296)&&true))∧(yI Tryz.prog 37=true):=kq
def zAh:(∀(x:AV),zS Tryz.prog 45 x 0=retO (yC 0 x))∧(∀(x:AV),yG Tryz.prog 45 x 0=match zW x with|some cs=>retO (part Tryz.prog 9 cs 0)|none=>none)∧(∀(x:AV),zS Tryz.prog 45 x 1=retO (yC 1 x))∧(∀(x:AV),yG Tryz.prog 45 x 1=match zW x with|some cs=>retO (part Tryz.prog 23 cs 1)|none=>none)∧(∀(ps:List (Nat×AV)),build Tryz.prog 45 ps=(yN Tryz.prog [(0,1),(1,3)] [.t (.str []),.t (.int .u8 (0)),.t (.int .i64 (0)),.t (.str [])] ps).map mkAgg)∧SZq 45 4∧AGq 45 true∧ZCq 45 [.t (.str []),.t (.int .u8 (0)),.t (.int .i64 (0)),.t (.str [])]∧ZEq 45 [.t (.str []),.t (.int .u8 (0)),.t (.int .i64 (0)),.t (.str [])]∧(∀(n:Nat),small Tryz.prog 45 n=(true&&decide (n<4294967296)&&true))∧(yI Tryz.prog 45=true):=kq
def xC:UNq 50 (.slice 9)∧SZq 50 1∧AGq 50 false∧ZCq 50 [.t (.sl true true [])]∧ZEq 50 [.t (.sl true true [])]∧(∀(n:Nat),small Tryz.prog 50 n=(true&&decide (n<4294967296)&&true))∧(yI Tryz.prog 50=true):=kq
def zV:UNq 55 (.slice 61)∧SZq 55 1∧AGq 55 false∧ZCq 55 [.t (.sl true true [])]∧ZEq 55 [.t (.sl true true [])]∧(∀(n:Nat),small Tryz.prog 55 n=(true&&decide (n<4294967296)&&true))∧(yI Tryz.prog 55=true):=kq
def zU:(∀(x:AV),zS Tryz.prog 61 x 0=retO (yC 0 x))∧(∀(x:AV),yG Tryz.prog 61 x 0=match zW x with|some cs=>retO (part Tryz.prog 5 cs 0)|none=>none)∧(∀(x:AV),zS Tryz.prog 61 x 1=retO (yC 1 x))∧(∀(x:AV),yG Tryz.prog 61 x 1=match zW x with|some cs=>retO (part Tryz.prog 9 cs 1)|none=>none)∧(∀(x:AV),zS Tryz.prog 61 x 2=retO (yC 2 x))∧(∀(x:AV),yG Tryz.prog 61 x 2=match zW x with|some cs=>retO (part Tryz.prog 23 cs 2)|none=>none)∧(∀(x:AV),zS Tryz.prog 61 x 3=retO (yC 5 x))∧(∀(x:AV),yG Tryz.prog 61 x 3=match zW x with|some cs=>retO (part Tryz.prog 30 cs 5)|none=>none)∧(∀(ps:List (Nat×AV)),build Tryz.prog 61 ps=(yN Tryz.prog [(0,1),(1,1),(2,3),(5,2)] [.t (.int .u8 (0)),.t (.str []),.t (.int .u8 (0)),.t (.int .i64 (0)),.t (.str []),.t (.int .i64 (0)),.t (.int .i64 (0))] ps).map mkAgg)∧SZq 61 7∧AGq 61 true∧ZCq 61 [.t (.int .u8 (0)),.t (.str []),.t (.int .u8 (0)),.t (.int .i64 (0)),.t (.str []),.t (.int .i64 (0)),.t (.int .i64 (0))]∧ZEq 61 [.t (.int .u8 (0)),.t (.str []),.t (.int .u8 (0)),.t (.int .i64 (0)),.t (.str []),.t (.int .i64 (0)),.t (.int .i64 (0))]∧(∀(n:Nat),small Tryz.prog 61 n=(true&&decide (n<4294967296)&&true))∧(yI Tryz.prog 61=true):=kq
def zEb:(∀(x:AV),zS Tryz.prog 67 x 0=retO (yC 0 x))∧(∀(x:AV),yG Tryz.prog 67 x 0=match zW x with|some cs=>retO (part Tryz.prog 23 cs 0)|none=>none)∧(∀(x:AV),zS Tryz.prog 67 x 1=retO (yC 3 x))∧(∀(x:AV),yG Tryz.prog 67 x 1=match zW x with|some cs=>retO (part Tryz.prog 31 cs 3)|none=>none)∧(∀(ps:List (Nat×AV)),build Tryz.prog 67 ps=(yN Tryz.prog [(0,3),(3,1)] [.t (.int .u8 (0)),.t (.int .i64 (0)),.t (.str []),.t (.int .i64 (0))] ps).map mkAgg)∧SZq 67 4∧AGq 67 true∧ZCq 67 [.t (.int .u8 (0)),.t (.int .i64 (0)),.t (.str []),.t (.int .i64 (0))]∧ZEq 67 [.t (.int .u8 (0)),.t (.int .i64 (0)),.t (.str []),.t (.int .i64 (0))]∧(∀(n:Nat),small Tryz.prog 67 n=(true&&decide (n<4294967296)&&true))∧(yI Tryz.prog 67=true):=kq
def zX3:UNq 68 (.slice 67)∧SZq 68 1∧AGq 68 false∧ZCq 68 [.t (.sl true true [])]∧ZEq 68 [.t (.sl true true [])]∧(∀(n:Nat),small Tryz.prog 68 n=(true&&decide (n<4294967296)&&true))∧(yI Tryz.prog 68=true):=kq
def zM:UNq 69 (.slice 3)∧SZq 69 1∧AGq 69 false∧ZCq 69 [.t (.sl true true [])]∧ZEq 69 [.t (.sl true true [])]∧(∀(n:Nat),small Tryz.prog 69 n=(true&&decide (n<4294967296)&&true))∧(yI Tryz.prog 69=true):=⟨yCt,kq,kq,kq,kq,fun _=>by kernel_rfl,kq⟩
def yR:(∀(x:AV),zS Tryz.prog 71 x 0=retO (yC 0 x))∧(∀(x:AV),yG Tryz.prog 71 x 0=match zW x with|some cs=>retO (part Tryz.prog 5 cs 0)|none=>none)∧(∀(x:AV),zS Tryz.prog 71 x 1=retO (yC 1 x))∧(∀(x:AV),yG Tryz.prog 71 x 1=match zW x with|some cs=>retO (part Tryz.prog 28 cs 1)|none=>none)∧(∀(x:AV),zS Tryz.prog 71 x 2=retO (yC 2 x))∧(∀(x:AV),yG Tryz.prog 71 x 2=match zW x with|some cs=>retO (part Tryz.prog 28 cs 2)|none=>none)∧(∀(x:AV),zS Tryz.prog 71 x 3=retO (yC 3 x))∧(∀(x:AV),yG Tryz.prog 71 x 3=match zW x with|some cs=>retO (part Tryz.prog 4 cs 3)|none=>none)∧(∀(x:AV),zS Tryz.prog 71 x 4=retO (yC 4 x))∧(∀(x:AV),yG Tryz.prog 71 x 4=match zW x with|some cs=>retO (part Tryz.prog 4 cs 4)|none=>none)∧(∀(x:AV),zS Tryz.prog 71 x 5=retO (yC 5 x))∧(∀(x:AV),yG Tryz.prog 71 x 5=match zW x with|some cs=>retO (part Tryz.prog 69 cs 5)|none=>none)∧(∀(x:AV),zS Tryz.prog 71 x 6=retO (yC 6 x))∧(∀(x:AV),yG Tryz.prog 71 x 6=match zW x with|some cs=>retO (part Tryz.prog 30 cs 6)|none=>none)∧(∀(ps:List (Nat×AV)),build Tryz.prog 71 ps=(yN Tryz.prog [(0,1),(1,1),(2,1),(3,1),(4,1),(5,1),(6,2)] [.t (.int .u8 (0)),.t (.sl true true []),.t (.sl true true []),.t (.bool false),.t (.bool false),.t (.sl true true []),.t (.int .i64 (0)),.t (.int .i64 (0))] ps).map mkAgg)∧SZq 71 8∧AGq 71 true∧ZCq 71 [.t (.int .u8 (0)),.t (.sl true true []),.t (.sl true true []),.t (.bool false),.t (.bool false),.t (.sl true true []),.t (.int .i64 (0)),.t (.int .i64 (0))]∧ZEq 71 [.t (.int .u8 (0)),.t (.sl true true []),.t (.sl true true []),.t (.bool false),.t (.bool false),.t (.sl true true []),.t (.int .i64 (0)),.t (.int .i64 (0))]∧(∀(n:Nat),small Tryz.prog 71 n=(true&&decide (n<4294967296)&&true))∧(yI Tryz.prog 71=true):=kq
def zYe:SZq 77 1∧AGq 77 false∧ZCq 77 [.t (.nilfn)]∧ZEq 77 [.t (.nilfn)]∧(∀(n:Nat),small Tryz.prog 77 n=(true&&decide (n<4294967296)&&true))∧(yI Tryz.prog 77=true):=kq
def yHQ:UNq 89 (.pointer 3)∧SZq 89 1∧AGq 89 false∧ZCq 89 [.t (.nilptr)]∧ZEq 89 [.t (.nilptr)]∧(∀(n:Nat),small Tryz.prog 89 n=(true&&decide (n<4294967296)&&true))∧(yI Tryz.prog 89=true):=kq
def zXY:SZq 92 1∧AGq 92 false∧ZCq 92 [.t (.nilfn)]∧ZEq 92 [.t (.nilfn)]∧(∀(n:Nat),small Tryz.prog 92 n=(true&&decide (n<4294967296)&&true))∧(yI Tryz.prog 92=true):=kq
def yHy:SZq 93 1∧AGq 93 false∧ZCq 93 [.t (.nilfn)]∧ZEq 93 [.t (.nilfn)]∧(∀(n:Nat),small Tryz.prog 93 n=(true&&decide (n<4294967296)&&true))∧(yI Tryz.prog 93=true):=kq
def vB:UNq 94 (.pointer 131)∧SZq 94 1∧AGq 94 false∧ZCq 94 [.t (.nilptr)]∧ZEq 94 [.t (.nilptr)]∧(∀(n:Nat),small Tryz.prog 94 n=(true&&decide (n<4294967296)&&true))∧(yI Tryz.prog 94=true):=kq
def zRS:UNq 95 (.slice 5)∧SZq 95 1∧AGq 95 false∧ZCq 95 [.t (.sl true true [])]∧ZEq 95 [.t (.sl true true [])]∧(∀(n:Nat),small Tryz.prog 95 n=(true&&decide (n<4294967296)&&true))∧(yI Tryz.prog 95=true):=kq
def zXJ:UNq 96 (.slice 28)∧SZq 96 1∧AGq 96 false∧ZCq 96 [.t (.sl true true [])]∧ZEq 96 [.t (.sl true true [])]∧(∀(n:Nat),small Tryz.prog 96 n=(true&&decide (n<4294967296)&&true))∧(yI Tryz.prog 96=true):=kq
def zHX:SZq 102 1∧AGq 102 false∧ZCq 102 [.t (.nilfn)]∧ZEq 102 [.t (.nilfn)]∧(∀(n:Nat),small Tryz.prog 102 n=(true&&decide (n<4294967296)&&true))∧(yI Tryz.prog 102=true):=kq
def zAQ:(∀(x:AV),zS Tryz.prog 110 x 0=retO (yC 0 x))∧(∀(x:AV),yG Tryz.prog 110 x 0=match zW x with|some cs=>retO (part Tryz.prog 9 cs 0)|none=>none)∧(∀(x:AV),zS Tryz.prog 110 x 1=retO (yC 1 x))∧(∀(x:AV),yG Tryz.prog 110 x 1=match zW x with|some cs=>retO (part Tryz.prog 5 cs 1)|none=>none)∧(∀(x:AV),zS Tryz.prog 110 x 2=retO (yC 2 x))∧(∀(x:AV),yG Tryz.prog 110 x 2=match zW x with|some cs=>retO (part Tryz.prog 5 cs 2)|none=>none)∧(∀(ps:List (Nat×AV)),build Tryz.prog 110 ps=(yN Tryz.prog [(0,1),(1,1),(2,1)] [.t (.str []),.t (.int .u8 (0)),.t (.int .u8 (0))] ps).map mkAgg)∧SZq 110 3∧AGq 110 true∧ZCq 110 [.t (.str []),.t (.int .u8 (0)),.t (.int .u8 (0))]∧ZEq 110 [.t (.str []),.t (.int .u8 (0)),.t (.int .u8 (0))]∧(∀(n:Nat),small Tryz.prog 110 n=(true&&decide (n<4294967296)&&true))∧(yI Tryz.prog 110=true):=kq
def zAG:UNq 111 (.array 5 110)∧SZq 111 15∧AGq 111 true∧ZCq 111 [.t (.str []),.t (.int .u8 (0)),.t (.int .u8 (0)),.t (.str []),.t (.int .u8 (0)),.t (.int .u8 (0)),.t (.str []),.t (.int .u8 (0)),.t (.int .u8 (0)),.t (.str []),.t (.int .u8 (0)),.t (.int .u8 (0)),.t (.str []),.t (.int .u8 (0)),.t (.int .u8 (0))]∧ZEq 111 [.t (.str []),.t (.int .u8 (0)),.t (.int .u8 (0)),.t (.str []),.t (.int .u8 (0)),.t (.int .u8 (0)),.t (.str []),.t (.int .u8 (0)),.t (.int .u8 (0)),.t (.str []),.t (.int .u8 (0)),.t (.int .u8 (0)),.t (.str []),.t (.int .u8 (0)),.t (.int .u8 (0))]∧(∀(n:Nat),small Tryz.prog 111 n=(true&&decide (n<4294967296)&&true))∧(yI Tryz.prog 111=true):=kq
def zI:(∀(x:AV),zS Tryz.prog 115 x 0=retO (yC 0 x))∧(∀(x:AV),yG Tryz.prog 115 x 0=match zW x with|some cs=>retO (part Tryz.prog 5 cs 0)|none=>none)∧(∀(x:AV),zS Tryz.prog 115 x 1=retO (yC 1 x))∧(∀(x:AV),yG Tryz.prog 115 x 1=match zW x with|some cs=>retO (part Tryz.prog 23 cs 1)|none=>none)∧(∀(x:AV),zS Tryz.prog 115 x 2=retO (yC 4 x))∧(∀(x:AV),yG Tryz.prog 115 x 2=match zW x with|some cs=>retO (part Tryz.prog 9 cs 4)|none=>none)∧(∀(x:AV),zS Tryz.prog 115 x 3=retO (yC 5 x))∧(∀(x:AV),yG Tryz.prog 115 x 3=match zW x with|some cs=>retO (part Tryz.prog 69 cs 5)|none=>none)∧(∀(x:AV),zS Tryz.prog 115 x 4=retO (yC 6 x))∧(∀(x:AV),yG Tryz.prog 115 x 4=match zW x with|some cs=>retO (part Tryz.prog 30 cs 6)|none=>none)∧(∀(ps:List (Nat×AV)),build Tryz.prog 115 ps=(yN Tryz.prog [(0,1),(1,3),(4,1),(5,1),(6,2)] [.t (.int .u8 (0)),.t (.int .u8 (0)),.t (.int .i64 (0)),.t (.str []),.t (.str []),.t (.sl true true []),.t (.int .i64 (0)),.t (.int .i64 (0))] ps).map mkAgg)∧SZq 115 8∧AGq 115 true∧ZCq 115 [.t (.int .u8 (0)),.t (.int .u8 (0)),.t (.int .i64 (0)),.t (.str []),.t (.str []),.t (.sl true true []),.t (.int .i64 (0)),.t (.int .i64 (0))]∧ZEq 115 [.t (.int .u8 (0)),.t (.int .u8 (0)),.t (.int .i64 (0)),.t (.str []),.t (.str []),.t (.sl true true []),.t (.int .i64 (0)),.t (.int .i64 (0))]∧(∀(n:Nat),small Tryz.prog 115 n=(true&&decide (n<4294967296)&&true))∧(yI Tryz.prog 115=true):=kq
def zUT:SZq 116 1∧AGq 116 false∧ZCq 116 [.t (.nilfn)]∧ZEq 116 [.t (.nilfn)]∧(∀(n:Nat),small Tryz.prog 116 n=(true&&decide (n<4294967296)&&true))∧(yI Tryz.prog 116=true):=kq
def zFC:SZq 120 1∧AGq 120 false∧ZCq 120 [.t (.nilfn)]∧ZEq 120 [.t (.nilfn)]∧(∀(n:Nat),small Tryz.prog 120 n=(true&&decide (n<4294967296)&&true))∧(yI Tryz.prog 120=true):=kq
def zEo:SZq 121 1∧AGq 121 false∧ZCq 121 [.t (.nilfn)]∧ZEq 121 [.t (.nilfn)]∧(∀(n:Nat),small Tryz.prog 121 n=(true&&decide (n<4294967296)&&true))∧(yI Tryz.prog 121=true):=kq
def yDW:SZq 126 1∧AGq 126 false∧ZCq 126 [.t (.nilfn)]∧ZEq 126 [.t (.nilfn)]∧(∀(n:Nat),small Tryz.prog 126 n=(true&&decide (n<4294967296)&&true))∧(yI Tryz.prog 126=true):=kq
def xY:(∀(x:AV),zS Tryz.prog 131 x 0=retO (yC 0 x))∧(∀(x:AV),yG Tryz.prog 131 x 0=match zW x with|some cs=>retO (part Tryz.prog 55 cs 0)|none=>none)∧(∀(x:AV),zS Tryz.prog 131 x 1=retO (yC 1 x))∧(∀(x:AV),yG Tryz.prog 131 x 1=match zW x with|some cs=>retO (part Tryz.prog 3 cs 1)|none=>none)∧(∀(x:AV),zS Tryz.prog 131 x 2=retO (yC 2 x))∧(∀(x:AV),yG Tryz.prog 131 x 2=match zW x with|some cs=>retO (part Tryz.prog 3 cs 2)|none=>none)∧(∀(x:AV),zS Tryz.prog 131 x 3=retO (yC 3 x))∧(∀(x:AV),yG Tryz.prog 131 x 3=match zW x with|some cs=>retO (part Tryz.prog 37 cs 3)|none=>none)∧(∀(ps:List (Nat×AV)),build Tryz.prog 131 ps=(yN Tryz.prog [(0,1),(1,1),(2,1),(3,1)] [.t (.sl true true []),.t (.int .i64 (0)),.t (.int .i64 (0)),.t (.sl true true [])] ps).map mkAgg)∧SZq 131 4∧AGq 131 true∧ZCq 131 [.t (.sl true true []),.t (.int .i64 (0)),.t (.int .i64 (0)),.t (.sl true true [])]∧ZEq 131 [.t (.sl true true []),.t (.int .i64 (0)),.t (.int .i64 (0)),.t (.sl true true [])]∧(∀(n:Nat),small Tryz.prog 131 n=(true&&decide (n<4294967296)&&true))∧(yI Tryz.prog 131=true):=kq
def zPr:(∀(x:AV),zS Tryz.prog 133 x 0=retO (yC 0 x))∧(∀(x:AV),yG Tryz.prog 133 x 0=match zW x with|some cs=>retO (part Tryz.prog 3 cs 0)|none=>none)∧(∀(x:AV),zS Tryz.prog 133 x 1=retO (yC 1 x))∧(∀(x:AV),yG Tryz.prog 133 x 1=match zW x with|some cs=>retO (part Tryz.prog 31 cs 1)|none=>none)∧(∀(ps:List (Nat×AV)),build Tryz.prog 133 ps=(yN Tryz.prog [(0,1),(1,1)] [.t (.int .i64 (0)),.t (.int .i64 (0))] ps).map mkAgg)∧SZq 133 2∧AGq 133 true∧ZCq 133 [.t (.int .i64 (0)),.t (.int .i64 (0))]∧ZEq 133 [.t (.int .i64 (0)),.t (.int .i64 (0))]∧(∀(n:Nat),small Tryz.prog 133 n=(true&&decide (n<4294967296)&&true))∧(yI Tryz.prog 133=true):=kq
def zOC:SZq 135 1∧AGq 135 false∧ZCq 135 [.t (.nilfn)]∧ZEq 135 [.t (.nilfn)]∧(∀(n:Nat),small Tryz.prog 135 n=(true&&decide (n<4294967296)&&true))∧(yI Tryz.prog 135=true):=kq
def kA:UNq 137 (.slice 139)∧SZq 137 1∧AGq 137 false∧ZCq 137 [.t (.sl true true [])]∧ZEq 137 [.t (.sl true true [])]∧(∀(n:Nat),small Tryz.prog 137 n=(true&&decide (n<4294967296)&&true))∧(yI Tryz.prog 137=true):=kq
def xN:(∀(x:AV),zS Tryz.prog 139 x 0=retO (yC 0 x))∧(∀(x:AV),yG Tryz.prog 139 x 0=match zW x with|some cs=>retO (part Tryz.prog 23 cs 0)|none=>none)∧(∀(x:AV),zS Tryz.prog 139 x 1=retO (yC 3 x))∧(∀(x:AV),yG Tryz.prog 139 x 1=match zW x with|some cs=>retO (part Tryz.prog 31 cs 3)|none=>none)∧(∀(ps:List (Nat×AV)),build Tryz.prog 139 ps=(yN Tryz.prog [(0,3),(3,1)] [.t (.int .u8 (0)),.t (.int .i64 (0)),.t (.str []),.t (.int .i64 (0))] ps).map mkAgg)∧SZq 139 4∧AGq 139 true∧ZCq 139 [.t (.int .u8 (0)),.t (.int .i64 (0)),.t (.str []),.t (.int .i64 (0))]∧ZEq 139 [.t (.int .u8 (0)),.t (.int .i64 (0)),.t (.str []),.t (.int .i64 (0))]∧(∀(n:Nat),small Tryz.prog 139 n=(true&&decide (n<4294967296)&&true))∧(yI Tryz.prog 139=true):=kq
def kC:UNq 140 (.slice 4)∧SZq 140 1∧AGq 140 false∧ZCq 140 [.t (.sl true true [])]∧ZEq 140 [.t (.sl true true [])]∧(∀(n:Nat),small Tryz.prog 140 n=(true&&decide (n<4294967296)&&true))∧(yI Tryz.prog 140=true):=kq
def kE:(∀(x:AV),zS Tryz.prog 142 x 0=retO (yC 0 x))∧(∀(x:AV),yG Tryz.prog 142 x 0=match zW x with|some cs=>retO (part Tryz.prog 137 cs 0)|none=>none)∧(∀(x:AV),zS Tryz.prog 142 x 1=retO (yC 1 x))∧(∀(x:AV),yG Tryz.prog 142 x 1=match zW x with|some cs=>retO (part Tryz.prog 140 cs 1)|none=>none)∧(∀(ps:List (Nat×AV)),build Tryz.prog 142 ps=(yN Tryz.prog [(0,1),(1,1)] [.t (.sl true true []),.t (.sl true true [])] ps).map mkAgg)∧SZq 142 2∧AGq 142 true∧ZCq 142 [.t (.sl true true []),.t (.sl true true [])]∧ZEq 142 [.t (.sl true true []),.t (.sl true true [])]∧(∀(n:Nat),small Tryz.prog 142 n=(true&&decide (n<4294967296)&&true))∧(yI Tryz.prog 142=true):=kq
def xW:UNq 149 (.slice 23)∧SZq 149 1∧AGq 149 false∧ZCq 149 [.t (.sl true true [])]∧ZEq 149 [.t (.sl true true [])]∧(∀(n:Nat),small Tryz.prog 149 n=(true&&decide (n<4294967296)&&true))∧(yI Tryz.prog 149=true):=kq
def zCd:SZq 157 1∧AGq 157 false∧ZCq 157 [.t (.nilifc)]∧ZEq 157 [.t (.nilifc)]∧(∀(n:Nat),small Tryz.prog 157 n=(true&&decide (n<4294967296)&&true))∧(yI Tryz.prog 157=true):=kq
def yGn:UNq 175 (.array 4 9)∧SZq 175 4∧AGq 175 true∧ZCq 175 [.t (.str []),.t (.str []),.t (.str []),.t (.str [])]∧ZEq 175 [.t (.str []),.t (.str []),.t (.str []),.t (.str [])]∧(∀(n:Nat),small Tryz.prog 175 n=(true&&decide (n<4294967296)&&true))∧(yI Tryz.prog 175=true):=kq
def zBz:SZq 187 1∧AGq 187 false∧ZCq 187 [.t (.nilfn)]∧ZEq 187 [.t (.nilfn)]∧(∀(n:Nat),small Tryz.prog 187 n=(true&&decide (n<4294967296)&&true))∧(yI Tryz.prog 187=true):=kq
def zOA:SZq 189 1∧AGq 189 false∧ZCq 189 [.t (.nilfn)]∧ZEq 189 [.t (.nilfn)]∧(∀(n:Nat),small Tryz.prog 189 n=(true&&decide (n<4294967296)&&true))∧(yI Tryz.prog 189=true):=kq
def zAp:UNq 196 (.pointer 198)∧SZq 196 1∧AGq 196 false∧ZCq 196 [.t (.nilptr)]∧ZEq 196 [.t (.nilptr)]∧(∀(n:Nat),small Tryz.prog 196 n=(true&&decide (n<4294967296)&&true))∧(yI Tryz.prog 196=true):=kq
def zAz:(∀(x:AV),zS Tryz.prog 198 x 0=retO (yC 0 x))∧(∀(x:AV),yG Tryz.prog 198 x 0=match zW x with|some cs=>retO (part Tryz.prog 28 cs 0)|none=>none)∧(∀(x:AV),zS Tryz.prog 198 x 1=retO (yC 1 x))∧(∀(x:AV),yG Tryz.prog 198 x 1=match zW x with|some cs=>retO (part Tryz.prog 50 cs 1)|none=>none)∧(∀(ps:List (Nat×AV)),build Tryz.prog 198 ps=(yN Tryz.prog [(0,1),(1,1)] [.t (.sl true true []),.t (.sl true true [])] ps).map mkAgg)∧SZq 198 2∧AGq 198 true∧ZCq 198 [.t (.sl true true []),.t (.sl true true [])]∧ZEq 198 [.t (.sl true true []),.t (.sl true true [])]∧(∀(n:Nat),small Tryz.prog 198 n=(true&&decide (n<4294967296)&&true))∧(yI Tryz.prog 198=true):=kq
def zEu:(∀(x:AV),zS Tryz.prog 208 x 0=retO (yC 0 x))∧(∀(x:AV),yG Tryz.prog 208 x 0=match zW x with|some cs=>retO (part Tryz.prog 121 cs 0)|none=>none)∧(∀(ps:List (Nat×AV)),build Tryz.prog 208 ps=(yN Tryz.prog [(0,1)] [.t (.nilfn)] ps).map mkAgg)∧SZq 208 1∧AGq 208 true∧ZCq 208 [.t (.nilfn)]∧ZEq 208 [.t (.nilfn)]∧(∀(n:Nat),small Tryz.prog 208 n=(true&&decide (n<4294967296)&&true))∧(yI Tryz.prog 208=true):=kq
def zEA:UNq 210 (.map 5 208)∧SZq 210 1∧AGq 210 false∧ZCq 210 [.t (.nilmap)]∧ZEq 210 [.t (.nilmap)]∧(∀(n:Nat),small Tryz.prog 210 n=(true&&decide (n<4294967296)&&true))∧(yI Tryz.prog 210=true):=kq
def zAv:(∀(x:AV),zS Tryz.prog 221 x 0=retO (yC 0 x))∧(∀(x:AV),yG Tryz.prog 221 x 0=match zW x with|some cs=>retO (part Tryz.prog 9 cs 0)|none=>none)∧(∀(x:AV),zS Tryz.prog 221 x 1=retO (yC 1 x))∧(∀(x:AV),yG Tryz.prog 221 x 1=match zW x with|some cs=>retO (part Tryz.prog 3 cs 1)|none=>none)∧(∀(ps:List (Nat×AV)),build Tryz.prog 221 ps=(yN Tryz.prog [(0,1),(1,1)] [.t (.str []),.t (.int .i64 (0))] ps).map mkAgg)∧SZq 221 2∧AGq 221 true∧ZCq 221 [.t (.str []),.t (.int .i64 (0))]∧ZEq 221 [.t (.str []),.t (.int .i64 (0))]∧(∀(n:Nat),small Tryz.prog 221 n=(true&&decide (n<4294967296)&&true))∧(yI Tryz.prog 221=true):=kq
def yM:UNq 224 (.pointer 226)∧SZq 224 1∧AGq 224 false∧ZCq 224 [.t (.nilptr)]∧ZEq 224 [.t (.nilptr)]∧(∀(n:Nat),small Tryz.prog 224 n=(true&&decide (n<4294967296)&&true))∧(yI Tryz.prog 224=true):=kq
def yL:(∀(x:AV),zS Tryz.prog 226 x 0=retO (yC 0 x))∧(∀(x:AV),yG Tryz.prog 226 x 0=match zW x with|some cs=>retO (part Tryz.prog 55 cs 0)|none=>none)∧(∀(x:AV),zS Tryz.prog 226 x 1=retO (yC 1 x))∧(∀(x:AV),yG Tryz.prog 226 x 1=match zW x with|some cs=>retO (part Tryz.prog 3 cs 1)|none=>none)∧(∀(x:AV),zS Tryz.prog 226 x 2=retO (yC 2 x))∧(∀(x:AV),yG Tryz.prog 226 x 2=match zW x with|some cs=>retO (part Tryz.prog 3 cs 2)|none=>none)∧(∀(x:AV),zS Tryz.prog 226 x 3=retO (yC 3 x))∧(∀(x:AV),yG Tryz.prog 226 x 3=match zW x with|some cs=>retO (part Tryz.prog 28 cs 3)|none=>none)∧(∀(ps:List (Nat×AV)),build Tryz.prog 226 ps=(yN Tryz.prog [(0,1),(1,1),(2,1),(3,1)] [.t (.sl true true []),.t (.int .i64 (0)),.t (.int .i64 (0)),.t (.sl true true [])] ps).map mkAgg)∧SZq 226 4∧AGq 226 true∧ZCq 226 [.t (.sl true true []),.t (.int .i64 (0)),.t (.int .i64 (0)),.t (.sl true true [])]∧ZEq 226 [.t (.sl true true []),.t (.int .i64 (0)),.t (.int .i64 (0)),.t (.sl true true [])]∧(∀(n:Nat),small Tryz.prog 226 n=(true&&decide (n<4294967296)&&true))∧(yI Tryz.prog 226=true):=kq
def wP:UNq 227 (.int .i64)∧SZq 227 1∧AGq 227 false∧ZCq 227 [.t (.int .i64 (0))]∧ZEq 227 [.t (.int .i64 (0))]∧(∀(n:Nat),small Tryz.prog 227 n=(true&&decide (n<4294967296)&&true)):=kq
def jI:UNq 244 (.int .u64)∧SZq 244 1∧AGq 244 false∧ZCq 244 [.t (.int .u64 (0))]∧ZEq 244 [.t (.int .u64 (0))]∧(∀(n:Nat),small Tryz.prog 244 n=(true&&decide (n<4294967296)&&true)):=kq
def zI3:SZq 250 1∧AGq 250 false∧ZCq 250 [.t (.nilfn)]∧ZEq 250 [.t (.nilfn)]∧(∀(n:Nat),small Tryz.prog 250 n=(true&&decide (n<4294967296)&&true))∧(yI Tryz.prog 250=true):=kq
def yFv:UNq 260 (.array 27 221)∧SZq 260 54∧AGq 260 true∧ZCq 260 [.t (.str []),.t (.int .i64 (0)),.t (.str []),.t (.int .i64 (0)),.t (.str []),.t (.int .i64 (0)),.t (.str []),.t (.int .i64 (0)),.t (.str []),.t (.int .i64 (0)),.t (.str []),.t (.int .i64 (0)),.t (.str []),.t (.int .i64 (0)),.t (.str []),.t (.int .i64 (0)),.t (.str []),.t (.int .i64 (0)),.t (.str []),.t (.int .i64 (0)),.t (.str []),.t (.int .i64 (0)),.t (.str []),.t (.int .i64 (0)),.t (.str []),.t (.int .i64 (0)),.t (.str []),.t (.int .i64 (0)),.t (.str []),.t (.int .i64 (0)),.t (.str []),.t (.int .i64 (0)),.t (.str []),.t (.int .i64 (0)),.t (.str []),.t (.int .i64 (0)),.t (.str []),.t (.int .i64 (0)),.t (.str []),.t (.int .i64 (0)),.t (.str []),.t (.int .i64 (0)),.t (.str []),.t (.int .i64 (0)),.t (.str []),.t (.int .i64 (0)),.t (.str []),.t (.int .i64 (0)),.t (.str []),.t (.int .i64 (0)),.t (.str []),.t (.int .i64 (0)),.t (.str []),.t (.int .i64 (0))]∧ZEq 260 [.t (.str []),.t (.int .i64 (0)),.t (.str []),.t (.int .i64 (0)),.t (.str []),.t (.int .i64 (0)),.t (.str []),.t (.int .i64 (0)),.t (.str []),.t (.int .i64 (0)),.t (.str []),.t (.int .i64 (0)),.t (.str []),.t (.int .i64 (0)),.t (.str []),.t (.int .i64 (0)),.t (.str []),.t (.int .i64 (0)),.t (.str []),.t (.int .i64 (0)),.t (.str []),.t (.int .i64 (0)),.t (.str []),.t (.int .i64 (0)),.t (.str []),.t (.int .i64 (0)),.t (.str []),.t (.int .i64 (0)),.t (.str []),.t (.int .i64 (0)),.t (.str []),.t (.int .i64 (0)),.t (.str []),.t (.int .i64 (0)),.t (.str []),.t (.int .i64 (0)),.t (.str []),.t (.int .i64 (0)),.t (.str []),.t (.int .i64 (0)),.t (.str []),.t (.int .i64 (0)),.t (.str []),.t (.int .i64 (0)),.t (.str []),.t (.int .i64 (0)),.t (.str []),.t (.int .i64 (0)),.t (.str []),.t (.int .i64 (0)),.t (.str []),.t (.int .i64 (0)),.t (.str []),.t (.int .i64 (0))]∧(∀(n:Nat),small Tryz.prog 260 n=(true&&decide (n<4294967296)&&true))∧(yI Tryz.prog 260=true):=kq
def yET:UNq 262 (.array 8 93)∧SZq 262 8∧AGq 262 true∧ZCq 262 [.t (.nilfn),.t (.nilfn),.t (.nilfn),.t (.nilfn),.t (.nilfn),.t (.nilfn),.t (.nilfn),.t (.nilfn)]∧ZEq 262 [.t (.nilfn),.t (.nilfn),.t (.nilfn),.t (.nilfn),.t (.nilfn),.t (.nilfn),.t (.nilfn),.t (.nilfn)]∧(∀(n:Nat),small Tryz.prog 262 n=(true&&decide (n<4294967296)&&true))∧(yI Tryz.prog 262=true):=kq
def kZ:SZq 265 1∧AGq 265 false∧ZCq 265 [.t (.nilfn)]∧ZEq 265 [.t (.nilfn)]∧(∀(n:Nat),small Tryz.prog 265 n=(true&&decide (n<4294967296)&&true))∧(yI Tryz.prog 265=true):=kq
def yCX:UNq 270 (.int .u64)∧SZq 270 1∧AGq 270 false∧ZCq 270 [.t (.int .u64 (0))]∧ZEq 270 [.t (.int .u64 (0))]∧(∀(n:Nat),small Tryz.prog 270 n=(true&&decide (n<4294967296)&&true)):=kq
def zDs:(∀(x:AV),zS Tryz.prog 276 x 0=retO (yC 0 x))∧(∀(x:AV),yG Tryz.prog 276 x 0=match zW x with|some cs=>retO (part Tryz.prog 9 cs 0)|none=>none)∧(∀(x:AV),zS Tryz.prog 276 x 1=retO (yC 1 x))∧(∀(x:AV),yG Tryz.prog 276 x 1=match zW x with|some cs=>retO (part Tryz.prog 5 cs 1)|none=>none)∧(∀(ps:List (Nat×AV)),build Tryz.prog 276 ps=(yN Tryz.prog [(0,1),(1,1)] [.t (.str []),.t (.int .u8 (0))] ps).map mkAgg)∧SZq 276 2∧AGq 276 true∧ZCq 276 [.t (.str []),.t (.int .u8 (0))]∧ZEq 276 [.t (.str []),.t (.int .u8 (0))]∧(∀(n:Nat),small Tryz.prog 276 n=(true&&decide (n<4294967296)&&true))∧(yI Tryz.prog 276=true):=kq
def kF:(∀(x:AV),zS Tryz.prog 281 x 0=retO (yC 0 x))∧(∀(x:AV),yG Tryz.prog 281 x 0=match zW x with|some cs=>retO (part Tryz.prog 5 cs 0)|none=>none)∧(∀(x:AV),zS Tryz.prog 281 x 1=retO (yC 1 x))∧(∀(x:AV),yG Tryz.prog 281 x 1=match zW x with|some cs=>retO (part Tryz.prog 3 cs 1)|none=>none)∧(∀(x:AV),zS Tryz.prog 281 x 2=retO (yC 2 x))∧(∀(x:AV),yG Tryz.prog 281 x 2=match zW x with|some cs=>retO (part Tryz.prog 3 cs 2)|none=>none)∧(∀(ps:List (Nat×AV)),build Tryz.prog 281 ps=(yN Tryz.prog [(0,1),(1,1),(2,1)] [.t (.int .u8 (0)),.t (.int .i64 (0)),.t (.int .i64 (0))] ps).map mkAgg)∧SZq 281 3∧AGq 281 true∧ZCq 281 [.t (.int .u8 (0)),.t (.int .i64 (0)),.t (.int .i64 (0))]∧ZEq 281 [.t (.int .u8 (0)),.t (.int .i64 (0)),.t (.int .i64 (0))]∧(∀(n:Nat),small Tryz.prog 281 n=(true&&decide (n<4294967296)&&true))∧(yI Tryz.prog 281=true):=kq
def zDg:UNq 310 (.slice 276)∧SZq 310 1∧AGq 310 false∧ZCq 310 [.t (.sl true true [])]∧ZEq 310 [.t (.sl true true [])]∧(∀(n:Nat),small Tryz.prog 310 n=(true&&decide (n<4294967296)&&true))∧(yI Tryz.prog 310=true):=kq
def yHk:UNq 312 (.map 9 23)∧SZq 312 1∧AGq 312 false∧ZCq 312 [.t (.nilmap)]∧ZEq 312 [.t (.nilmap)]∧(∀(n:Nat),small Tryz.prog 312 n=(true&&decide (n<4294967296)&&true))∧(yI Tryz.prog 312=true):=kq
def yEs:UNq 313 (.map 9 281)∧SZq 313 1∧AGq 313 false∧ZCq 313 [.t (.nilmap)]∧ZEq 313 [.t (.nilmap)]∧(∀(n:Nat),small Tryz.prog 313 n=(true&&decide (n<4294967296)&&true))∧(yI Tryz.prog 313=true):=kq
def zPh:KPq 5 4 [0,1,3,6,50,51]∧RSq Tryz.f5 [.tmp 8]∧THq 5:=kq
def zOM:KPq 6 7 [2,5,7,9,43,44,45]∧RSq Tryz.f6 [.tmp 8]∧THq 6:=kq
def yJX:KPq 7 2 [1,2,7,8]∧RSq Tryz.f7 [.tmp 4]∧THq 7:=kq
def zMb:RSq Tryz.f10 [.tmp 2,.cell 3 30,.tmp 4]∧THq 10:=kq
def yHz:RSq Tryz.f11 [.tmp 6]∧THq 11:=kq
def yH0:KPq 12 4 [2,4,6,8,9,13,14,15]∧RSq Tryz.f12 [.cell 6 23,.tmp 7]∧THq 12:=kq
def zYb:KPq 13 6 [0,4,5,17,18]∧RSq Tryz.f13 [.tmp 2,.tmp 3]∧THq 13:=kq
def yHK:RSq Tryz.f14 [.tmp 4]∧THq 14:=kq
def yIF:RSq Tryz.f15 [.tmp 2]∧THq 15:=kq
def yIn:KPq 16 4 [2,10,11,12]∧KPq 16 7 [2,10,11,12,22,23,24]∧RSq Tryz.f16 [.tmp 2]∧THq 16:=kq
def zSG:KPq 20 6 [1,2,3,4]∧KPq 20 999999999 [20]∧RSq Tryz.f20 [.cell 2 55,.cell 3 30,.cell 4 31]∧THq 20:=kq
def yIS:RSq Tryz.f21 [.tmp 4,.tmp 5,.tmp 6]∧THq 21:=kq
def zXM:RSq Tryz.f22 [.cell 2 30]∧THq 22:=kq
def yIs:RSq Tryz.f23 [.tmp 4]∧THq 23:=kq
def yH7:KPq 24 3 [1,3,4,6,8,9,22,23,24]∧KPq 24 9 [3,4,6,8,9]∧KPq 24 14 [3,4,6,8,9,12,13,14,61,62]∧KPq 24 30 [8,18,127,128,129]∧RSq Tryz.f24 [.cell 8 67]∧THq 24:=kq
def yIh:KPq 25 6 [1,2,7,8,10,12,37,38,39]∧KPq 25 25 [7,8,92,93]∧RSq Tryz.f25 [.tmp 6]∧THq 25:=kq
def yHG:KPq 26 4 [1,2,15,16,17]∧RSq Tryz.f26 [.tmp 6]∧THq 26:=kq
def yHr:RSq Tryz.f27 [.tmp 4]∧THq 27:=kq
def yHL:KPq 28 4 [0,1,12,13]∧RSq Tryz.f28 [.tmp 4]∧THq 28:=kq
def yHJ:RSq Tryz.f29 [.tmp 4]∧THq 29:=kq
def zX6:KPq 30 4 [2,8,9,10]∧RSq Tryz.f30 [.tmp 2]∧(CC.thaw 30=true):=kq
def yHC:RSq Tryz.f31 [.tmp 4]∧THq 31:=kq
def yHU:RSq Tryz.f34 [.tmp 2]∧THq 34:=kq
def yIk:RSq Tryz.f35 [.cell 2 61,.tmp 3,.tmp 4]∧THq 35:=kq
def yIX:RSq Tryz.f36 [.cell 6 37,.cell 7 3,.cell 8 31]∧THq 36:=kq
def zYm:KPq 37 3 [0,3,4]∧RSq Tryz.f37 [.tmp 2]∧THq 37:=kq
def yIH:KPq 38 9 [1,23,24]∧RSq Tryz.f38 [.tmp 2,.tmp 3]∧THq 38:=kq
def yHN:KPq 39 4 [0,2,4,6,8,9,20,21,22]∧KPq 39 8 [0,2,4,6,8,9,10,11,12,20,21,22,28,29,30]∧RSq Tryz.f39 [.cell 6 23,.tmp 7]∧THq 39:=kq
def yHp:RSq Tryz.f40 [.tmp 4]∧THq 40:=kq
def zXV:RSq Tryz.f41 [.cell 8 67]∧THq 41:=kq
def yHw:KPq 42 3 [2,3,7,8,9]∧RSq Tryz.f42 [.cell 2 23]∧THq 42:=kq
def zR0:RSq Tryz.f43 [.cell 2 67]∧THq 43:=kq
def yIU:KPq 44 3 [2,3,6,7,8]∧RSq Tryz.f44 [.cell 2 23]∧THq 44:=kq
def zOo:RSq Tryz.f45 [.tmp 2,.tmp 3]∧THq 45:=kq
def zYh:RSq Tryz.f47 [.tmp 4]∧THq 47:=kq
def yIM:RSq Tryz.f48 [.tmp 2,.tmp 3]∧THq 48:=kq
def yH4:KPq 50 4 [1,2,15,16,17]∧RSq Tryz.f50 [.tmp 6]∧THq 50:=kq
def yHM:RSq Tryz.f51 [.tmp 4]∧THq 51:=kq
def yHO:RSq Tryz.f52 [.tmp 2]∧THq 52:=kq
def yH9:KPq 53 2 [0,1,7,8]∧RSq Tryz.f53 [.tmp 4]∧THq 53:=kq
def yIP:KPq 66 2 [0,1,3,4]∧RSq Tryz.f66 []∧THq 66:=kq
def zX1:KPq 67 2 [0,1,2,7]∧RSq Tryz.f67 [.tmp 6]∧THq 67:=kq
def yHq:RSq Tryz.f68 [.tmp 2]∧THq 68:=kq
def yHT:RSq Tryz.f69 [.tmp 2,.tmp 3]∧THq 69:=kq
def yIL:RSq Tryz.f70 [.tmp 2]∧THq 70:=kq
def yHt:RSq Tryz.f71 [.tmp 2]∧THq 71:=kq
def yH5:RSq Tryz.f72 [.tmp 2]∧THq 72:=kq
def yH6:RSq Tryz.f73 [.cell 2 61,.tmp 3,.tmp 4]∧THq 73:=kq
def yH1:RSq Tryz.f74 [.cell 2 61,.tmp 3,.tmp 4]∧THq 74:=kq
def yHF:KPq 75 2 [0,2,7,8]∧RSq Tryz.f75 [.cell 2 61,.tmp 3,.tmp 4]∧THq 75:=kq
def zXO:RSq Tryz.f76 []∧THq 76:=kq
def zX0:RSq Tryz.f77 [.cell 2 30]∧THq 77:=kq
def zDo:KPq 78 22 [0,3,106,107]∧RSq Tryz.f78 [.tmp 2]∧THq 78:=kq
def zX2:RSq Tryz.f79 [.tmp 6]∧THq 79:=kq
def zYa:RSq Tryz.f80 [.tmp 4]∧THq 80:=kq
def yHX:RSq Tryz.f81 [.tmp 4]∧THq 81:=kq
def yID:KPq 82 8 [3,6,23,24,25]∧RSq Tryz.f82 [.cell 6 139,.tmp 7]∧THq 82:=kq
def yIp:RSq Tryz.f83 [.cell 4 139,.tmp 5]∧THq 83:=kq
def yH2:RSq Tryz.f84 [.cell 4 139]∧THq 84:=kq
def zI5:RSq Tryz.f85 [.tmp 2]∧(CC.thaw 85=true):=kq
def zSb:RSq Tryz.f86 [.cell 2 67]∧THq 86:=kq
def zSw:RSq Tryz.f87 [.cell 2 23]∧THq 87:=kq
def zYd:RSq Tryz.f88 [.cell 2 23]∧THq 88:=kq
def yIw:KPq 89 4 [3,4,13,14]∧RSq Tryz.f89 [.tmp 2]∧THq 89:=kq
def zLs:RSq Tryz.f90 [.tmp 2,.cell 3 30,.tmp 4]∧THq 90:=kq
def zEj:RSq Tryz.f105 [.cell 2 23,.tmp 3]∧THq 105:=kq
def yCj:RSq Tryz.f106 [.tmp 3]∧THq 106:=kq
def zVK:RSq Tryz.f107 [.tmp 4]∧THq 107:=kq
def yE1:RSq Tryz.f109 [.tmp 2]∧THq 109:=kq
def yEO:RSq Tryz.f110 []∧THq 110:=kq
def zVr:RSq Tryz.f111 [.tmp 4]∧THq 111:=kq
def zTz:RSq Tryz.f112 [.tmp 2]∧THq 112:=kq
def zVG:RSq Tryz.f113 [.tmp 2]∧THq 113:=kq
def yEP:RSq Tryz.f114 [.cell 2 139]∧THq 114:=kq
def zTp:RSq Tryz.f115 [.cell 2 139]∧THq 115:=kq
def yBS:RSq Tryz.f116 [.cell 6 139]∧THq 116:=kq
def yFs:RSq Tryz.f117 [.cell 4 139]∧THq 117:=kq
def yGS:RSq Tryz.f118 [.cell 4 139]∧THq 118:=kq
def yFJ:RSq Tryz.f119 [.cell 4 139]∧THq 119:=kq
def yHh:RSq Tryz.f120 [.tmp 2]∧THq 120:=kq
def yFh:RSq Tryz.f121 [.tmp 2]∧THq 121:=kq
def yCq:RSq Tryz.f122 [.tmp 2]∧THq 122:=kq
def yCE:RSq Tryz.f123 [.tmp 2]∧THq 123:=kq
def yEX:RSq Tryz.f124 [.cell 8 139]∧THq 124:=kq
def yCf:RSq Tryz.f125 [.cell 2 139]∧THq 125:=kq
def yBJ:RSq Tryz.f127 [.cell 2 139]∧THq 127:=kq
def yFq:RSq Tryz.f128 [.cell 4 139]∧THq 128:=kq
def yD2:RSq Tryz.f129 [.cell 4 23,.tmp 5]∧THq 129:=kq
def yGV:RSq Tryz.f130 [.cell 4 23,.tmp 5]∧THq 130:=kq
def yED:RSq Tryz.f131 [.cell 4 23,.tmp 5]∧THq 131:=kq
def yFd:RSq Tryz.f132 [.cell 4 23,.tmp 5]∧THq 132:=kq
def zK1:KPq 133 3 [2,3,6,7,10,11]∧RSq Tryz.f133 [.cell 6 139]∧THq 133:=kq
def yFL:RSq Tryz.f134 [.cell 2 139]∧THq 134:=kq
def yEZ:RSq Tryz.f135 [.cell 4 139]∧THq 135:=kq
def yEn:RSq Tryz.f136 [.cell 2 23,.tmp 3]∧THq 136:=kq
def yEF:RSq Tryz.f137 [.cell 2 139]∧THq 137:=kq
def yHg:RSq Tryz.f138 [.cell 2 23,.tmp 3]∧THq 138:=kq
def yDC:RSq Tryz.f139 [.cell 2 139]∧THq 139:=kq
def yGf:RSq Tryz.f140 [.cell 2 23,.tmp 3]∧THq 140:=kq
def yFF:RSq Tryz.f141 [.cell 2 139]∧THq 141:=kq
def yDM:RSq Tryz.f142 [.cell 2 139]∧THq 142:=kq
def yC4:RSq Tryz.f143 [.cell 2 139]∧THq 143:=kq
def yEU:RSq Tryz.f144 [.cell 2 23]∧THq 144:=kq
def yEK:KPq 145 3 [2,3,11,12,13]∧RSq Tryz.f145 [.cell 2 139]∧THq 145:=kq
def yE8:RSq Tryz.f146 [.cell 2 139]∧THq 146:=kq
def zEv:KPq 147 13 [0,1,6,8,62,63]∧RSq Tryz.f147 [.tmp 4]∧THq 147:=kq
def yHc:RSq Tryz.f148 [.cell 4 28,.cell 5 3,.cell 6 31]∧THq 148:=kq
def zDp:RSq Tryz.f159 [.cell 2 23,.tmp 3]∧THq 159:=kq
def zVu:RSq Tryz.f160 [.tmp 2]∧THq 160:=kq
def zTu:RSq Tryz.f161 [.tmp 4]∧THq 161:=kq
def zVm:RSq Tryz.f163 [.tmp 2]∧THq 163:=kq
def yD4:RSq Tryz.f164 [.cell 4 139]∧THq 164:=kq
def yEg:RSq Tryz.f165 [.cell 4 139]∧THq 165:=kq
def yB5:RSq Tryz.f166 [.tmp 4,.tmp 5]∧THq 166:=kq
def yF3:RSq Tryz.f167 [.tmp 3]∧THq 167:=kq
def yFc:KPq 168 2 [5,6,7]∧RSq Tryz.f168 [.tmp 2]∧THq 168:=kq
def yDE:RSq Tryz.f169 [.cell 3 139]∧THq 169:=kq
def yG5:KPq 170 2 [0,1,9,10,11]∧RSq Tryz.f170 [.tmp 6]∧THq 170:=kq
def yHb:RSq Tryz.f171 [.cell 4 139]∧THq 171:=kq
def yFV:RSq Tryz.f173 [.cell 3 139]∧THq 173:=kq
def yBG:RSq Tryz.f174 [.cell 8 23,.tmp 9]∧THq 174:=kq
def yD5:RSq Tryz.f175 [.tmp 4,.tmp 5]∧THq 175:=kq
def yEi:RSq Tryz.f176 [.tmp 4,.tmp 5]∧THq 176:=kq
def yDf:RSq Tryz.f177 [.tmp 4,.tmp 5]∧THq 177:=kq
def yCU:RSq Tryz.f178 [.tmp 4,.tmp 5]∧THq 178:=kq
def yEj:RSq Tryz.f179 [.tmp 4,.tmp 5]∧THq 179:=kq
def yCB:RSq Tryz.f180 [.tmp 4,.tmp 5]∧THq 180:=kq
def yDc:KPq 181 6 [0,4,9,33,34,35]∧RSq Tryz.f181 [.cell 4 23,.tmp 5]∧THq 181:=kq
def yFD:RSq Tryz.f182 [.tmp 4,.tmp 5]∧THq 182:=kq
def yE6:RSq Tryz.f183 [.cell 2 221]∧THq 183:=kq
def zLf:RSq Tryz.f184 [.tmp 8]∧THq 184:=kq
def zUJ:RSq Tryz.f185 []∧THq 185:=kq
def yCg:RSq Tryz.f186 [.tmp 4]∧THq 186:=kq
def yFI:RSq Tryz.f195 [.cell 2 23,.tmp 3]∧THq 195:=kq
def yEv:RSq Tryz.f197 [.cell 2 23,.tmp 3]∧THq 197:=kq
def yDx:RSq Tryz.f199 [.tmp 4]∧THq 199:=kq
def zT4:RSq Tryz.f200 [.tmp 2]∧THq 200:=kq
def yCu:KPq 203 5 [3,4]∧RSq Tryz.f203 [.tmp 2]∧THq 203:=kq
def yEM:RSq Tryz.f204 [.tmp 2]∧THq 204:=kq
def yEp:RSq Tryz.f205 [.tmp 2]∧THq 205:=kq
def yCC:RSq Tryz.f207 [.tmp 2]∧THq 207:=kq
def zUb:RSq Tryz.f208 [.tmp 2]∧THq 208:=kq
def yFi:RSq Tryz.f209 [.tmp 2]∧THq 209:=kq
def yBY:RSq Tryz.f210 [.tmp 2,.tmp 3,.tmp 4]∧THq 210:=kq
def yDl:KPq 211 3 [3,6,7,8]∧RSq Tryz.f211 [.tmp 2]∧THq 211:=kq
def yBU:RSq Tryz.f212 [.tmp 4]∧THq 212:=kq
def yEe:RSq Tryz.f213 [.tmp 4]∧THq 213:=kq
def yFw:KPq 215 3 [0,2,3,5,10,11,12]∧KPq 215 13 [2,5,36,37,38]∧RSq Tryz.f215 [.tmp 2,.tmp 3,.tmp 4]∧THq 215:=kq
def yCk:RSq Tryz.f216 [.cell 5 23,.tmp 6]∧THq 216:=kq
def yFo:RSq Tryz.f217 [.tmp 4,.tmp 5]∧THq 217:=kq
def yF4:RSq Tryz.f218 [.tmp 2]∧THq 218:=kq
def yEI:RSq Tryz.f219 [.tmp 6,.tmp 7]∧THq 219:=kq
def yBD:RSq Tryz.f220 [.tmp 6,.tmp 7]∧THq 220:=kq
def yHj:RSq Tryz.f221 [.tmp 4]∧THq 221:=kq
def yDZ:RSq Tryz.f223 [.tmp 2]∧THq 223:=kq
def yDu:RSq Tryz.f224 [.tmp 2]∧THq 224:=kq
def yC6:RSq Tryz.f225 [.tmp 2]∧THq 225:=kq
def yEl:RSq Tryz.f226 [.tmp 2]∧THq 226:=kq
def yF9:RSq Tryz.f227 [.tmp 2]∧THq 227:=kq
def yE7:RSq Tryz.f228 [.tmp 2]∧THq 228:=kq
def yF1:RSq Tryz.f229 [.tmp 2]∧THq 229:=kq
def zA6:RSq Tryz.f230 [.tmp 2]∧THq 230:=kq
def zTe:RSq Tryz.f233 [.tmp 4]∧THq 233:=kq
def zLP:RSq Tryz.f234 [.tmp 4]∧THq 234:=kq
def yFr:RSq Tryz.f235 [.tmp 2]∧THq 235:=kq
def yCl:RSq Tryz.f241 [.tmp 2]∧THq 241:=kq
def yC8:RSq Tryz.f242 [.tmp 2]∧THq 242:=kq
def zPU:RSq Tryz.f243 [.tmp 2]∧THq 243:=kq
def yFS:RSq Tryz.f244 [.tmp 2]∧THq 244:=kq
def yDG:RSq Tryz.f245 [.tmp 4]∧THq 245:=kq
def yDv:RSq Tryz.f246 [.tmp 4]∧THq 246:=kq
def yBE:RSq Tryz.f250 [.cell 2 23,.tmp 3]∧THq 250:=kq
def yF8:RSq Tryz.f251 [.tmp 7,.tmp 8]∧THq 251:=kq
def yB8:KPq 252 17 [2,8,9,10,11,13,14,15,16]∧KPq 252 24 [2,8,9,10,14,15,16,17,18]∧RSq Tryz.f252 [.tmp 6,.tmp 7]∧THq 252:=kq
def yGX:RSq Tryz.f253 [.tmp 2]∧THq 253:=kq
def zSV:KPq 254 2 [0,1,2,3,9]∧RSq Tryz.f254 [.tmp 8]∧THq 254:=kq
def zL6:RSq Tryz.f255 [.tmp 8]∧THq 255:=kq
def yGc:RSq Tryz.f256 [.cell 2 23,.tmp 3]∧THq 256:=kq
def yFO:RSq Tryz.f257 [.cell 2 281,.tmp 3]∧THq 257:=kq
def zO9:KPq 258 6 [0,4,5,7]∧RSq Tryz.f258 [.tmp 6]∧THq 258:=kq
def zLd:RSq Tryz.f259 [.tmp 4]∧THq 259:=kq
def zKY:RSq Tryz.f260 []∧THq 260:=kq
def zLQ:RSq Tryz.f261 []∧THq 261:=kq
def zS0:RSq Tryz.f262 [.tmp 6]∧THq 262:=kq
def zMy:RSq Tryz.f263 [.tmp 4]∧THq 263:=kq
def yGU:RSq Tryz.f278 [.tmp 2]∧THq 278:=kq
def yCM:RSq Tryz.f279 [.tmp 2]∧THq 279:=kq
def yEa:RSq Tryz.f281 [.tmp 2,.tmp 3]∧THq 281:=kq
def yGB:RSq Tryz.f282 [.tmp 2]∧THq 282:=kq
def zL7:RSq Tryz.f283 [.cell 2 30]∧THq 283:=kq
def zUR:KPq 284 2 [0,7,8,9]∧RSq Tryz.f284 [.tmp 4]∧THq 284:=kq
def zT8:KPq 285 2 [1,2,10]∧RSq Tryz.f285 [.tmp 6]∧THq 285:=kq
def yBR:RSq Tryz.f292 [.tmp 2]∧THq 292:=kq
end Go.Ab
