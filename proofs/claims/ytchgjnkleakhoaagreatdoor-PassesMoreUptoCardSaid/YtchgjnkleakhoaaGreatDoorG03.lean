/- Lemmas. -/
import Derived.Test.YtchgjnkleakhoaaGreatDoorG02
import Derived.Test.YtchgjnkleakhoaaGreatDoorProg
set_option maxRecDepth 1000000
set_option maxHeartbeats 40000000
set_option linter.all false
namespace Go.Ab
open Go.Proofs
def zA:Nat→Nat→Option (List Nat)
 |4,3=>some [0,2,4,7,12,13]
 |4,8=>some [2,4,7,28,29]
 |4,13=>some [2,4,7,43,44]
 |5,3=>some [1,3,4]
 |7,6=>some [0,6,10,11,34,35,36]
 |8,4=>some [0,1,5]
 |10,3=>some [0,3,4]
 |10,7=>some [0,3,4,5]
 |10,11=>some [0,3,4,6]
 |13,2=>some [0,1,7,8]
 |16,2=>some [2,4,6,11,12,13]
 |21,4=>some [2,10,11,12]
 |21,7=>some [2,10,11,12,22,23,24]
 |22,6=>some [2,3,5,6,9]
 |22,10=>some [2,3,5,6,9]
 |23,2=>some [0,1,7,8]
 |26,4=>some [2,4,6,8,9,13,14,15]
 |27,6=>some [0,4,5,17,18]
 |28,4=>some [2,8,9,10]
 |30,7=>some [0,3,5,6,7,8,9]
 |30,16=>some [0,3,5,6,7,8,9]
 |34,3=>some [0,2,3]
 |35,6=>some [0,2,3]
 |35,11=>some [0,2,3]
 |36,3=>some [1,3,4,6,8,9,22,23,24]
 |36,9=>some [3,4,6,8,9]
 |36,14=>some [3,4,6,8,9,12,13,14,61,62]
 |36,30=>some [8,18,127,128,129]
 |37,6=>some [1,2,7,8,10,12,37,38,39]
 |37,25=>some [7,8,92,93]
 |41,2=>some [0,1,7,8]
 |49,11=>some [0,2,3]
 |51,9=>some [1,23,24]
 |52,4=>some [0,2,4,6,8,9,20,21,22]
 |52,8=>some [0,2,4,6,8,9,10,11,12,20,21,22,28,29,30]
 |55,3=>some [2,3,7,8,9]
 |57,3=>some [2,3,6,7,8]
 |59,12=>some [0,1,5,39,40,41]
 |59,22=>some [1,8,63,64,65]
 |63,6=>some [1,2,3,4]
 |63,999999999=>some [63]
 |66,4=>some [1,2,15,16,17]
 |68,4=>some [0,1,12,13]
 |70,3=>some [0,1]
 |72,1=>some [0,1]
 |72,6=>some [0,1]
 |74,2=>some [0,5]
 |77,2=>some [0,4]
 |80,6=>some [0,3]
 |81,8=>some [3,6,23,24,25]
 |88,4=>some [3,4,13,14]
 |96,3=>some [0,3,4]
 |97,4=>some [1,2,15,16,17]
 |100,6=>some [0,2,5,6,7,8,9]
 |100,19=>some [0,2,5,7,8,9,10,11]
 |102,3=>some [0,3,4]
 |103,6=>some [1,6,7]
 |104,9=>some [1,3]
 |105,15=>some [4,5,6]
 |105,26=>some [1,7,8]
 |106,4=>some [0,3]
 |110,6=>some [0,3]
 |131,3=>some [2,3,6,7,10,11]
 |143,3=>some [2,3,11,12,13]
 |145,13=>some [0,1,6,8,62,63]
 |149,2=>some [0,1,3,4]
 |150,2=>some [0,1,2,7]
 |158,2=>some [0,2,7,8]
 |161,22=>some [0,3,106,107]
 |166,3=>some [2,3,4,5,6]
 |166,8=>some [2,3,4,5,6,7,8,9]
 |167,3=>some [0,2,3,4]
 |170,3=>some [1,5,6]
 |171,18=>some [0,1,8]
 |178,2=>some [5,6,7]
 |180,2=>some [0,1,9,10,11]
 |192,6=>some [0,4,9,33,34,35]
 |209,1=>some [0,1,4]
 |210,4=>some [0,1,5,6,7]
 |211,4=>some [0,1,5]
 |212,4=>some [0,1,5,6,7]
 |214,5=>some [2,3,4,5,6,7,8,9,10]
 |214,9=>some [2,3,4,5,6,7,8,9,10,11,12]
 |220,4=>some [0,1,5,6,7]
 |226,3=>some [3,6,7,8]
 |229,15=>some [0,1,5,6,7,8,9,10]
 |230,3=>some [0,2,3,5,10,11,12]
 |230,13=>some [2,5,36,37,38]
 |239,5=>some [3,4]
 |255,6=>some [0,2,3,9]
 |266,5=>some [0,1,5,6,7,8,9]
 |266,11=>some [0,1,5,6,7,8,10]
 |269,17=>some [2,8,9,10,11,13,14,15,16]
 |269,24=>some [2,8,9,10,14,15,16,17,18]
 |275,2=>some [0,1,2,3,9]
 |279,6=>some [0,4,5,7]
 |285,3=>some [0,2,4,5]
 |293,3=>some [0,3]
 |297,3=>some [0,4,5]
 |297,8=>some [4,6,7,8]
 |302,1=>some [0,1,4]
 |303,11=>some [0,1,3,4,10,11,12,13,14,15,16]
 |303,18=>some [0,1,3,4,10,11,12,13,17]
 |304,1=>some [0,1]
 |305,2=>some [0,2,4]
 |306,1=>some [0,1]
 |307,1=>some [0,1]
 |308,13=>some [0,1,2,10,11,52,53]
 |308,21=>some [0,2,10,11,77,78]
 |310,2=>some [0,7,8,9]
 |326,2=>some [1,2,10]
 |333,10=>some [0,4,5,6]
 |335,6=>some [0,1,5]
 |337,36=>some [1,8,9,10,11,12,13,99,100,101]
 |345,38=>some [175]
 |345,5=>some [0,7,8,9]
 |345,12=>some [0,7,8,9,12]
 |345,25=>some [0,7,8,9,14,15]
 |345,29=>some [0,7,8,9,14,15,16]
 |346,2=>some [2,4]
 |350,10=>some [0,3,4,5]
 |_,_=>none
def prims(f:FuncId)(x:List AV):Option AV :=
 bif Nat.beq f 203 then zEP x else
 bif Nat.beq f 59 then zFI x else
 bif Nat.beq f 123 then zDw x else
 bif Nat.beq f 287 then zJi x else
 bif Nat.beq f 273 then zB9 x else
 bif Nat.beq f 272 then zCQ x else
 bif Nat.beq f 238 then zCH x else
 bif Nat.beq f 290 then zDC x else
 bif Nat.beq f 285 then zGO x else
 none
noncomputable def CC:Cfg:={ P:=Tryz.prog,byRef:=fun _=>false,thaw:=fun f=>Nat.beq f 84||Nat.beq f 28||Nat.beq f 15,keep:=zA,prim:=prims }
def zAm:CC.P=Tryz.prog:=rfl
def zCY(f:FuncId):CC.byRef f=false:=rfl
def zDL{a b:Nat}(h:a≠b):Nat.beq a b=false:=by cases hb:Nat.beq a b with|true=>exact absurd (Nat.eq_of_beq_eq_true hb) h|false=>rfl
def zZ(f:FuncId)(x:List AV)(h:f≠203∧f≠59∧f≠123∧f≠287∧f≠273∧f≠272∧f≠238∧f≠290∧f≠285):CC.prim f x=none:=by
 obtain⟨h0,h1,h2,h3,h4,h5,h6,h7,h8⟩:=h
 show prims f x=none
 unfold prims;rw[zDL h0,zDL h1,zDL h2,zDL h3,zDL h4,zDL h5,zDL h6,zDL h7,zDL h8];rfl
def yCY(x:List AV):CC.prim 59 x=zFI x:=rfl
def zX7(x:List AV):CC.prim 123 x=zDw x:=rfl
def zY9(x:List AV):CC.prim 287 x=zJi x:=rfl
def zYh(x:List AV):CC.prim 273 x=zB9 x:=rfl
def yAV(x:List AV):CC.prim 272 x=zCQ x:=rfl
def zX6(x:List AV):CC.prim 238 x=zCH x:=rfl
def zZe(x:List AV):CC.prim 290 x=zDC x:=rfl
def zXW(x:List AV):CC.prim 285 x=zGO x:=rfl
def zR3:und Tryz.prog 2=some (.int .i64):=by kernel_rfl
def zSh:agg? Tryz.prog 2=some false:=by kernel_rfl
def yDv:sizeOf? Tryz.prog 3=some 1:=by kernel_rfl
def zSk:und Tryz.prog 5=some (.int .u8):=by kernel_rfl
def zSp:agg? Tryz.prog 5=some false:=by kernel_rfl
def zEg:und Tryz.prog 9=some .string:=by kernel_rfl
def zNS:agg? Tryz.prog 9=some false:=by kernel_rfl
def zUZ(d:Nat)(xs ys:List Tree):equal Tryz.prog (d+1) 49 (.agg xs) (.agg ys)=zEJ Tryz.prog (equal Tryz.prog d) 5 0 xs ys (zEJ Tryz.prog (equal Tryz.prog d) 2 1 xs ys (zEJ Tryz.prog (equal Tryz.prog d) 9 2 xs ys (some true))):=by kernel_rfl
def zN6:zBm Tryz.prog 50 49=false:=by kernel_rfl
def zQo:sizeOf? Tryz.prog 49=some 3:=by kernel_rfl
def zU5:agg? Tryz.prog 49=some true:=by kernel_rfl
def zWe(n:Nat):small Tryz.prog 49 n=(true&&decide (n<4294967296)&&true):=by kernel_rfl
def yEV:zBS Tryz.prog 49=some (.t (.agg [.int .u8 (0),.int .i64 (0),.str []])):=by kernel_rfl
def yEc(d:Nat)(xs ys:List Tree):equal Tryz.prog (d+1) 51 (.agg xs) (.agg ys)=zEJ Tryz.prog (equal Tryz.prog d) 9 0 xs ys (zEJ Tryz.prog (equal Tryz.prog d) 49 1 xs ys (some true)):=by kernel_rfl
def yD0:zBm Tryz.prog 50 51=false:=by kernel_rfl
def yEI:und Tryz.prog 70=some (.slice 3):=by kernel_rfl
def zQQ(u:Nat)(v:Tree):jT Tryz.prog (.t (.ifc u v)) 227 true=match Nat.beq u 227 with|true=>some (.val (.tup [.t v,.t (.bool true)]),[])|false=>some (.val (.tup [.t (.nilfn),.t (.bool false)]),[]):=by cases h:Nat.beq u 227<;>simp only[jT,h]<;>kernel_rfl
def zZ3:zBS Tryz.prog 332=some (.t (.agg [.int .u8 (0),.int .i64 (0),.int .i64 (0)])):=by kernel_rfl
abbrev NF (n:Nat) (f:Func):Prop:=nth Tryz.prog.funcs.toList n=some f
def fnx{n:Nat}{f:Func}(h:Tryz.prog.funcs[n]?=some f):NF n f:=by show nth _ _=_;rw[yP];simpa using h
def kq{p:Prop}(h:p:=by(repeat' apply And.intro)<;>intros<;>(show _=_;kernel_rfl)):p:=h
abbrev HBq (f:FuncId):Prop:=yX Tryz.prog f=true
def yHn:NF 3 Tryz.f3:=fnx Tryz.func3
def yGy:NF 4 Tryz.f4:=fnx Tryz.func4
def zL2:HBq 4:=kq
def yHk:NF 5 Tryz.f5:=fnx Tryz.func5
def zMb:HBq 5:=kq
def zMa:HBq 6:=kq
def zXm:NF 7 Tryz.f7:=fnx Tryz.func7
def zMo:HBq 7:=kq
def yHK:NF 8 Tryz.f8:=fnx Tryz.func8
def zMd:HBq 8:=kq
def yG7:NF 9 Tryz.f9:=fnx Tryz.func9
def zMw:HBq 9:=kq
def yCM:NF 10 Tryz.f10:=fnx Tryz.func10
def yGH:HBq 10:=kq
def yD1:NF 13 Tryz.f13:=fnx Tryz.func13
def zNL:HBq 13:=kq
def yDE:NF 14 Tryz.f14:=fnx Tryz.func14
def yGz:HBq 14:=kq
def zTN:NF 15 Tryz.f15:=fnx Tryz.func15
def zXq:HBq 15:=kq
def yEG:NF 16 Tryz.f16:=fnx Tryz.func16
def zXK:HBq 16:=kq
def yFL:NF 17 Tryz.f17:=fnx Tryz.func17
def zNJ:HBq 17:=kq
def yCh:NF 18 Tryz.f18:=fnx Tryz.func18
def zXH:HBq 18:=kq
def yCg:NF 19 Tryz.f19:=fnx Tryz.func19
def zXS:HBq 19:=kq
def yCk:NF 20 Tryz.f20:=fnx Tryz.func20
def zRE:HBq 20:=kq
def yDr:NF 21 Tryz.f21:=fnx Tryz.func21
def zXl:HBq 21:=kq
def yGg:NF 23 Tryz.f23:=fnx Tryz.func23
def yHC:HBq 23:=kq
def yBB:NF 24 Tryz.f24:=fnx Tryz.func24
def yGV:HBq 24:=kq
def yEh:NF 25 Tryz.f25:=fnx Tryz.func25
def yHR:HBq 25:=kq
def yB8:NF 26 Tryz.f26:=fnx Tryz.func26
def yHp:HBq 26:=kq
def yDK:NF 27 Tryz.f27:=fnx Tryz.func27
def yG2:HBq 27:=kq
def yFg:NF 28 Tryz.f28:=fnx Tryz.func28
def yGl:HBq 28:=kq
def yCi:NF 29 Tryz.f29:=fnx Tryz.func29
def zLj:HBq 29:=kq
def yFE:NF 36 Tryz.f36:=fnx Tryz.func36
def yHN:HBq 36:=kq
def yDW:NF 37 Tryz.f37:=fnx Tryz.func37
def zXB:HBq 37:=kq
def zVj:NF 38 Tryz.f38:=fnx Tryz.func38
def zNN:HBq 38:=kq
def yC2:NF 39 Tryz.f39:=fnx Tryz.func39
def zNH:HBq 39:=kq
def yD5:NF 40 Tryz.f40:=fnx Tryz.func40
def zXM:HBq 40:=kq
def yBS:NF 41 Tryz.f41:=fnx Tryz.func41
def yHP:HBq 41:=kq
def yCa:NF 51 Tryz.f51:=fnx Tryz.func51
def yG3:HBq 51:=kq
def yEL:NF 52 Tryz.f52:=fnx Tryz.func52
def yGZ:HBq 52:=kq
def yC5:NF 53 Tryz.f53:=fnx Tryz.func53
def yGR:HBq 53:=kq
def zTw:NF 54 Tryz.f54:=fnx Tryz.func54
def yHx:HBq 54:=kq
def yBz:NF 55 Tryz.f55:=fnx Tryz.func55
def zI7:HBq 55:=kq
def zOn:NF 56 Tryz.f56:=fnx Tryz.func56
def yGv:HBq 56:=kq
def yCj:NF 57 Tryz.f57:=fnx Tryz.func57
def zLT:HBq 57:=kq
def yCL:NF 58 Tryz.f58:=fnx Tryz.func58
def zXu:HBq 58:=kq
def zFc:HBq 59:=kq
def yBH:NF 60 Tryz.f60:=fnx Tryz.func60
def yGT:HBq 60:=kq
def yFw:NF 61 Tryz.f61:=fnx Tryz.func61
def yHr:HBq 61:=kq
def zKE:HBq 62:=kq
def yFo:NF 63 Tryz.f63:=fnx Tryz.func63
def zEh:HBq 63:=kq
def yBR:NF 64 Tryz.f64:=fnx Tryz.func64
def zKs:HBq 64:=kq
def yBY:NF 65 Tryz.f65:=fnx Tryz.func65
def zEl:HBq 65:=kq
def yB1:NF 66 Tryz.f66:=fnx Tryz.func66
def yHL:HBq 66:=kq
def yBZ:NF 67 Tryz.f67:=fnx Tryz.func67
def yGs:HBq 67:=kq
def yEE:NF 68 Tryz.f68:=fnx Tryz.func68
def zXA:HBq 68:=kq
def yER:NF 69 Tryz.f69:=fnx Tryz.func69
def zK1:HBq 69:=kq
def yGe:NF 81 Tryz.f81:=fnx Tryz.func81
def yGK:HBq 81:=kq
def yEj:NF 82 Tryz.f82:=fnx Tryz.func82
def yGW:HBq 82:=kq
def yDx:NF 83 Tryz.f83:=fnx Tryz.func83
def yHj:HBq 83:=kq
def zUC:NF 84 Tryz.f84:=fnx Tryz.func84
def yHt:HBq 84:=kq
def zO0:NF 85 Tryz.f85:=fnx Tryz.func85
def zK3:HBq 85:=kq
def zOk:NF 86 Tryz.f86:=fnx Tryz.func86
def zDz:HBq 86:=kq
def zSD:NF 87 Tryz.f87:=fnx Tryz.func87
def zNQ:HBq 87:=kq
def yDQ:NF 88 Tryz.f88:=fnx Tryz.func88
def zNP:HBq 88:=kq
def zSB:NF 89 Tryz.f89:=fnx Tryz.func89
def zNU:HBq 89:=kq
def yBC:NF 93 Tryz.f93:=fnx Tryz.func93
def yGJ:HBq 93:=kq
def yCR:NF 94 Tryz.f94:=fnx Tryz.func94
def zXv:HBq 94:=kq
def yC6:NF 95 Tryz.f95:=fnx Tryz.func95
def yHE:HBq 95:=kq
def zUc:NF 96 Tryz.f96:=fnx Tryz.func96
def zCI:HBq 96:=kq
def yFb:NF 97 Tryz.f97:=fnx Tryz.func97
def yHc:HBq 97:=kq
def yFF:NF 98 Tryz.f98:=fnx Tryz.func98
def yHh:HBq 98:=kq
def zZY:NF 111 Tryz.f111:=fnx Tryz.func111
def yFR:HBq 111:=kq
def zQK:NF 112 Tryz.f112:=fnx Tryz.func112
def zDi:HBq 112:=kq
def zYc:NF 113 Tryz.f113:=fnx Tryz.func113
def yDA:HBq 113:=kq
def yBd:NF 114 Tryz.f114:=fnx Tryz.func114
def zOZ:HBq 114:=kq
def zZK:NF 115 Tryz.f115:=fnx Tryz.func115
def yGf:HBq 115:=kq
def zZV:NF 116 Tryz.f116:=fnx Tryz.func116
def yBl:HBq 116:=kq
def zYt:NF 117 Tryz.f117:=fnx Tryz.func117
def yBW:HBq 117:=kq
def yAZ:NF 118 Tryz.f118:=fnx Tryz.func118
def yEW:HBq 118:=kq
def zXY:NF 119 Tryz.f119:=fnx Tryz.func119
def yBp:HBq 119:=kq
def yA3:NF 120 Tryz.f120:=fnx Tryz.func120
def yF7:HBq 120:=kq
def zYO:NF 121 Tryz.f121:=fnx Tryz.func121
def zUG:HBq 121:=kq
def yA6:NF 122 Tryz.f122:=fnx Tryz.func122
def yDw:HBq 122:=kq
def yCO:HBq 123:=kq
def zZz:NF 124 Tryz.f124:=fnx Tryz.func124
def yEZ:HBq 124:=kq
def zQO:NF 125 Tryz.f125:=fnx Tryz.func125
def zBU:HBq 125:=kq
def zX5:NF 126 Tryz.f126:=fnx Tryz.func126
def yE0:HBq 126:=kq
def zZL:NF 127 Tryz.f127:=fnx Tryz.func127
def yB4:HBq 127:=kq
def zXV:NF 128 Tryz.f128:=fnx Tryz.func128
def zSF:HBq 128:=kq
def yAB:NF 129 Tryz.f129:=fnx Tryz.func129
def yCP:HBq 129:=kq
def zZS:NF 130 Tryz.f130:=fnx Tryz.func130
def yC3:HBq 130:=kq
def zIR:NF 131 Tryz.f131:=fnx Tryz.func131
def zIB:HBq 131:=kq
def zYT:NF 132 Tryz.f132:=fnx Tryz.func132
def yBU:HBq 132:=kq
def zZ9:NF 133 Tryz.f133:=fnx Tryz.func133
def zGt:HBq 133:=kq
def yAM:NF 134 Tryz.f134:=fnx Tryz.func134
def zSE:HBq 134:=kq
def zXX:NF 135 Tryz.f135:=fnx Tryz.func135
def yBr:HBq 135:=kq
def zYY:NF 136 Tryz.f136:=fnx Tryz.func136
def yFZ:HBq 136:=kq
def yAt:NF 137 Tryz.f137:=fnx Tryz.func137
def yBM:HBq 137:=kq
def zZI:NF 138 Tryz.f138:=fnx Tryz.func138
def yDB:HBq 138:=kq
def zZr:NF 139 Tryz.f139:=fnx Tryz.func139
def yD8:HBq 139:=kq
def zZm:NF 140 Tryz.f140:=fnx Tryz.func140
def yCB:HBq 140:=kq
def zZG:NF 141 Tryz.f141:=fnx Tryz.func141
def yB7:HBq 141:=kq
def zYH:NF 142 Tryz.f142:=fnx Tryz.func142
def zVm:HBq 142:=kq
def yAy:NF 143 Tryz.f143:=fnx Tryz.func143
def yCQ:HBq 143:=kq
def yA8:NF 144 Tryz.f144:=fnx Tryz.func144
def yFx:HBq 144:=kq
def zDg:NF 145 Tryz.f145:=fnx Tryz.func145
def yCN:HBq 145:=kq
def zYw:NF 146 Tryz.f146:=fnx Tryz.func146
def zCy:HBq 146:=kq
def yBf:NF 149 Tryz.f149:=fnx Tryz.func149
def yCw:HBq 149:=kq
def zQM:NF 150 Tryz.f150:=fnx Tryz.func150
def zHK:HBq 150:=kq
def yAP:NF 151 Tryz.f151:=fnx Tryz.func151
def zUh:HBq 151:=kq
def yA9:NF 152 Tryz.f152:=fnx Tryz.func152
def yFq:HBq 152:=kq
def zZZ:NF 153 Tryz.f153:=fnx Tryz.func153
def zN5:HBq 153:=kq
def zYf:NF 154 Tryz.f154:=fnx Tryz.func154
def zSI:HBq 154:=kq
def yAX:NF 155 Tryz.f155:=fnx Tryz.func155
def zIA:HBq 155:=kq
def zYv:NF 156 Tryz.f156:=fnx Tryz.func156
def yFM:HBq 156:=kq
def zZT:NF 157 Tryz.f157:=fnx Tryz.func157
def yC4:HBq 157:=kq
def zYx:NF 158 Tryz.f158:=fnx Tryz.func158
def yCC:HBq 158:=kq
def zQJ:NF 159 Tryz.f159:=fnx Tryz.func159
def zQb:NF 160 Tryz.f160:=fnx Tryz.func160
def zAF:HBq 160:=kq
def zAT:NF 161 Tryz.f161:=fnx Tryz.func161
def zS1:HBq 161:=kq
def zQD:NF 162 Tryz.f162:=fnx Tryz.func162
def qJ:HBq 162:=kq
def zQN:NF 163 Tryz.f163:=fnx Tryz.func163
def zTL:HBq 163:=kq
def zP0:NF 164 Tryz.f164:=fnx Tryz.func164
def zAH:HBq 164:=kq
def zYq:NF 173 Tryz.f173:=fnx Tryz.func173
def zUn:HBq 173:=kq
def yAR:NF 174 Tryz.f174:=fnx Tryz.func174
def zGu:HBq 174:=kq
def zQy:NF 175 Tryz.f175:=fnx Tryz.func175
def yFk:HBq 175:=kq
def yAe:NF 176 Tryz.f176:=fnx Tryz.func176
def zO8:HBq 176:=kq
def zY1:NF 177 Tryz.f177:=fnx Tryz.func177
def zT7:HBq 177:=kq
def yAb:NF 178 Tryz.f178:=fnx Tryz.func178
def zKw:HBq 178:=kq
def zYs:NF 179 Tryz.f179:=fnx Tryz.func179
def yEs:HBq 179:=kq
def zZq:NF 180 Tryz.f180:=fnx Tryz.func180
def zPj:HBq 180:=kq
def zZv:NF 181 Tryz.f181:=fnx Tryz.func181
def yEH:HBq 181:=kq
def zQh:NF 183 Tryz.f183:=fnx Tryz.func183
def zKD:HBq 183:=kq
def yAW:NF 184 Tryz.f184:=fnx Tryz.func184
def yDc:HBq 184:=kq
def zZ4:NF 185 Tryz.f185:=fnx Tryz.func185
def zLL:HBq 185:=kq
def yAn:NF 186 Tryz.f186:=fnx Tryz.func186
def zVy:HBq 186:=kq
def yAs:NF 187 Tryz.f187:=fnx Tryz.func187
def zTJ:HBq 187:=kq
def zYy:NF 188 Tryz.f188:=fnx Tryz.func188
def zUz:HBq 188:=kq
def zYJ:NF 189 Tryz.f189:=fnx Tryz.func189
def yE1:HBq 189:=kq
def yAh:NF 190 Tryz.f190:=fnx Tryz.func190
def yB5:HBq 190:=kq
def zZu:NF 191 Tryz.f191:=fnx Tryz.func191
def yDu:HBq 191:=kq
def zY3:NF 192 Tryz.f192:=fnx Tryz.func192
def zUP:HBq 192:=kq
def yAU:NF 193 Tryz.f193:=fnx Tryz.func193
def yCD:HBq 193:=kq
def zYU:NF 194 Tryz.f194:=fnx Tryz.func194
def zBg:HBq 194:=kq
def yAO:NF 195 Tryz.f195:=fnx Tryz.func195
def jB:HBq 195:=kq
def zIL:NF 196 Tryz.f196:=fnx Tryz.func196
def zEE:HBq 196:=kq
def zQL:NF 197 Tryz.f197:=fnx Tryz.func197
def zYn:NF 198 Tryz.f198:=fnx Tryz.func198
def qT:HBq 198:=kq
def yBe:NF 201 Tryz.f201:=fnx Tryz.func201
def zTa:HBq 201:=kq
def zZi:NF 202 Tryz.f202:=fnx Tryz.func202
def yD3:HBq 202:=kq
def yE4:HBq 203:=kq
def zZ6:NF 204 Tryz.f204:=fnx Tryz.func204
def zBK:HBq 204:=kq
def yAi:NF 205 Tryz.f205:=fnx Tryz.func205
def zAL:HBq 205:=kq
def zQY:NF 206 Tryz.f206:=fnx Tryz.func206
def zBI:HBq 206:=kq
def zQU:NF 207 Tryz.f207:=fnx Tryz.func207
def zBJ:HBq 207:=kq
def zQd:NF 208 Tryz.f208:=fnx Tryz.func208
def zB3:HBq 208:=kq
def zYW:NF 222 Tryz.f222:=fnx Tryz.func222
def yDb:HBq 222:=kq
def yAT:NF 223 Tryz.f223:=fnx Tryz.func223
def yGi:HBq 223:=kq
def yAa:NF 224 Tryz.f224:=fnx Tryz.func224
def zT0:HBq 224:=kq
def zZN:NF 225 Tryz.f225:=fnx Tryz.func225
def yBT:HBq 225:=kq
def zY8:NF 226 Tryz.f226:=fnx Tryz.func226
def zUa:HBq 226:=kq
def zZn:NF 227 Tryz.f227:=fnx Tryz.func227
def yEl:HBq 227:=kq
def yAf:NF 228 Tryz.f228:=fnx Tryz.func228
def yFm:HBq 228:=kq
def yAc:NF 230 Tryz.f230:=fnx Tryz.func230
def zSv:HBq 230:=kq
def zY4:NF 231 Tryz.f231:=fnx Tryz.func231
def yFO:HBq 231:=kq
def zYp:NF 232 Tryz.f232:=fnx Tryz.func232
def zIx:HBq 232:=kq
def yBc:NF 233 Tryz.f233:=fnx Tryz.func233
def zKM:HBq 233:=kq
def zYX:NF 234 Tryz.f234:=fnx Tryz.func234
def zKA:HBq 234:=kq
def zYa:NF 235 Tryz.f235:=fnx Tryz.func235
def zTA:HBq 235:=kq
def zYF:NF 236 Tryz.f236:=fnx Tryz.func236
def zU0:HBq 236:=kq
def yB0:HBq 237:=kq
def zVr:HBq 238:=kq
def yA2:NF 239 Tryz.f239:=fnx Tryz.func239
def yDf:HBq 239:=kq
def yAD:NF 240 Tryz.f240:=fnx Tryz.func240
def yC1:HBq 240:=kq
def yA1:NF 241 Tryz.f241:=fnx Tryz.func241
def yCs:HBq 241:=kq
def yAK:NF 242 Tryz.f242:=fnx Tryz.func242
def yEd:HBq 242:=kq
def zZ1:NF 243 Tryz.f243:=fnx Tryz.func243
def yEF:HBq 243:=kq
def zX0:NF 244 Tryz.f244:=fnx Tryz.func244
def yFu:HBq 244:=kq
def zZD:NF 245 Tryz.f245:=fnx Tryz.func245
def yEa:HBq 245:=kq
def zZR:NF 246 Tryz.f246:=fnx Tryz.func246
def yCf:HBq 246:=kq
def zYi:NF 247 Tryz.f247:=fnx Tryz.func247
def yFp:HBq 247:=kq
def yAC:NF 248 Tryz.f248:=fnx Tryz.func248
def yEu:HBq 248:=kq
def zAo:NF 249 Tryz.f249:=fnx Tryz.func249
def yBo:HBq 249:=kq
def zEH:HBq 250:=kq
def yA0:NF 251 Tryz.f251:=fnx Tryz.func251
def zEB:HBq 251:=kq
def zLY:NF 258 Tryz.f258:=fnx Tryz.func258
def zLV:HBq 258:=kq
def yAL:NF 259 Tryz.f259:=fnx Tryz.func259
def yD9:HBq 259:=kq
def yAm:NF 260 Tryz.f260:=fnx Tryz.func260
def yCn:HBq 260:=kq
def zYS:NF 261 Tryz.f261:=fnx Tryz.func261
def yBy:HBq 261:=kq
def yAH:NF 262 Tryz.f262:=fnx Tryz.func262
def yDC:HBq 262:=kq
def zZw:NF 263 Tryz.f263:=fnx Tryz.func263
def yGb:HBq 263:=kq
def yA7:NF 267 Tryz.f267:=fnx Tryz.func267
def yCG:HBq 267:=kq
def zY5:NF 268 Tryz.f268:=fnx Tryz.func268
def yES:HBq 268:=kq
def zZQ:NF 269 Tryz.f269:=fnx Tryz.func269
def yE7:HBq 269:=kq
def zX4:NF 270 Tryz.f270:=fnx Tryz.func270
def yFv:HBq 270:=kq
def yF3:HBq 272:=kq
def yDH:HBq 273:=kq
def yBa:NF 274 Tryz.f274:=fnx Tryz.func274
def yEJ:HBq 274:=kq
def zQP:NF 275 Tryz.f275:=fnx Tryz.func275
def zIH:HBq 275:=kq
def zJd:NF 276 Tryz.f276:=fnx Tryz.func276
def zUR:HBq 276:=kq
def zIW:NF 277 Tryz.f277:=fnx Tryz.func277
def zB0:HBq 277:=kq
def zBr:NF 278 Tryz.f278:=fnx Tryz.func278
def zBZ:HBq 278:=kq
def zL3:NF 279 Tryz.f279:=fnx Tryz.func279
def zBY:HBq 279:=kq
def zI3:NF 280 Tryz.f280:=fnx Tryz.func280
def wY:HBq 280:=kq
def zJe:NF 281 Tryz.f281:=fnx Tryz.func281
def jD:HBq 281:=kq
def zI5:NF 282 Tryz.f282:=fnx Tryz.func282
def zA2:HBq 282:=kq
def zQV:NF 283 Tryz.f283:=fnx Tryz.func283
def zAb:HBq 283:=kq
def yAS:NF 284 Tryz.f284:=fnx Tryz.func284
def zEp:HBq 284:=kq
def zEx:HBq 285:=kq
def zZa:NF 286 Tryz.f286:=fnx Tryz.func286
def zEF:HBq 286:=kq
def zDE:HBq 287:=kq
def yAd:NF 288 Tryz.f288:=fnx Tryz.func288
def zDJ:HBq 288:=kq
def zZk:NF 289 Tryz.f289:=fnx Tryz.func289
def zDv:HBq 289:=kq
def zDI:HBq 290:=kq
def zMc:NF 294 Tryz.f294:=fnx Tryz.func294
def zOp:HBq 294:=kq
def zYr:NF 295 Tryz.f295:=fnx Tryz.func295
def yC9:HBq 295:=kq
def yAu:NF 296 Tryz.f296:=fnx Tryz.func296
def yFc:HBq 296:=kq
def yAF:NF 298 Tryz.f298:=fnx Tryz.func298
def yFP:HBq 298:=kq
def yAr:NF 299 Tryz.f299:=fnx Tryz.func299
def yFy:HBq 299:=kq
def zJa:NF 309 Tryz.f309:=fnx Tryz.func309
def zIb:HBq 309:=kq
def zQl:NF 310 Tryz.f310:=fnx Tryz.func310
def zUB:HBq 310:=kq
def zYZ:NF 313 Tryz.f313:=fnx Tryz.func313
def yD4:HBq 313:=kq
def zZP:NF 314 Tryz.f314:=fnx Tryz.func314
def yEP:HBq 314:=kq
def zZy:NF 326 Tryz.f326:=fnx Tryz.func326
def zOw:HBq 326:=kq
def zZB:NF 327 Tryz.f327:=fnx Tryz.func327
def yDe:HBq 327:=kq
abbrev UNq (t:TypeId) v:=und Tryz.prog t=some v
abbrev SZq (t:TypeId) v:=sizeOf? Tryz.prog t=some v
abbrev AGq (t:TypeId) v:=agg? Tryz.prog t=some v
abbrev ZCq (t:TypeId) v:=zeroCells Tryz.prog t=some v
abbrev ZEq (t:TypeId) v:=zC1 Tryz.prog t=some v
abbrev RSq (f:Func) v:=f.results.toList=v
abbrev THq (t:FuncId):Prop:=CC.thaw t=false
abbrev KPq (f k:Nat) v:=zA f k=some v
def c2{a b:Prop}(x:a)(y:b):a∧b:=⟨x,y⟩
def c3{a b c:Prop}(x:a)(y:b)(z:c):a∧b∧c:=⟨x,y,z⟩
def c5{a b c d e:Prop}(x:a)(y:b)(z:c)(u:d)(v:e):a∧b∧c∧d∧e:=⟨x,y,z,u,v⟩
def zF:UNq 2 (.int .i64)∧SZq 2 1∧AGq 2 false∧ZCq 2 [.t (.int .i64 (0))]∧ZEq 2 [.t (.int .i64 (0))]∧(∀(n:Nat),small Tryz.prog 2 n=(true&&decide (n<4294967296)&&true)):=⟨zR3,kq,zSh,kq,kq,fun _=>by kernel_rfl⟩
def zG:UNq 3 (.int .i64)∧SZq 3 1∧AGq 3 false∧ZCq 3 [.t (.int .i64 (0))]∧ZEq 3 [.t (.int .i64 (0))]∧(∀(n:Nat),small Tryz.prog 3 n=(true&&decide (n<4294967296)&&true)):=⟨kq,yDv,kq,kq,kq,fun _=>by kernel_rfl⟩
def zQ:UNq 4 .bool∧SZq 4 1∧AGq 4 false∧ZCq 4 [.t (.bool false)]∧ZEq 4 [.t (.bool false)]∧(∀(n:Nat),small Tryz.prog 4 n=(true&&decide (n<4294967296)&&true))∧(yD Tryz.prog 4=true):=kq
def zE:UNq 5 (.int .u8)∧SZq 5 1∧AGq 5 false∧ZCq 5 [.t (.int .u8 (0))]∧ZEq 5 [.t (.int .u8 (0))]∧(∀(n:Nat),small Tryz.prog 5 n=(true&&decide (n<4294967296)&&true)):=⟨zSk,kq,zSp,kq,kq,fun _=>by kernel_rfl⟩
def zD:UNq 9 .string∧SZq 9 1∧AGq 9 false∧ZCq 9 [.t (.str [])]∧ZEq 9 [.t (.str [])]∧(∀(n:Nat),small Tryz.prog 9 n=(true&&decide (n<4294967296)&&true))∧(yD Tryz.prog 9=true):=⟨zEg,kq,zNS,kq,kq,fun _=>by kernel_rfl,kq⟩
def zNO:SZq 20 1∧AGq 20 false∧ZCq 20 [.t (.nilifc)]∧ZEq 20 [.t (.nilifc)]∧(∀(n:Nat),small Tryz.prog 20 n=(true&&decide (n<4294967296)&&true))∧(yD Tryz.prog 20=true):=kq
def zNT:UNq 21 (.int .i32)∧SZq 21 1∧AGq 21 false∧ZCq 21 [.t (.int .i32 (0))]∧ZEq 21 [.t (.int .i32 (0))]∧(∀(n:Nat),small Tryz.prog 21 n=(true&&decide (n<4294967296)&&true)):=kq
def zCS:UNq 22 (.slice 47)∧SZq 22 1∧AGq 22 false∧ZCq 22 [.t (.sl true true [])]∧ZEq 22 [.t (.sl true true [])]∧(∀(n:Nat),small Tryz.prog 22 n=(true&&decide (n<4294967296)&&true))∧(yD Tryz.prog 22=true):=kq
def zCL:UNq 23 (.slice 43)∧SZq 23 1∧AGq 23 false∧ZCq 23 [.t (.sl true true [])]∧ZEq 23 [.t (.sl true true [])]∧(∀(n:Nat),small Tryz.prog 23 n=(true&&decide (n<4294967296)&&true))∧(yD Tryz.prog 23=true):=kq
def zI:(∀(x:AV),zP Tryz.prog 25 x 0=retO (zW 0 x))∧(∀(x:AV),yB Tryz.prog 25 x 0=match zT x with|some cs=>retO (part Tryz.prog 3 cs 0)|none=>none)∧(∀(x:AV),zP Tryz.prog 25 x 1=retO (zW 1 x))∧(∀(x:AV),yB Tryz.prog 25 x 1=match zT x with|some cs=>retO (part Tryz.prog 3 cs 1)|none=>none)∧(∀(ps:List (Nat×AV)),build Tryz.prog 25 ps=(yE Tryz.prog [(0,1),(1,1)] [.t (.int .i64 (0)),.t (.int .i64 (0))] ps).map mkAgg)∧SZq 25 2∧AGq 25 true∧ZCq 25 [.t (.int .i64 (0)),.t (.int .i64 (0))]∧ZEq 25 [.t (.int .i64 (0)),.t (.int .i64 (0))]∧(∀(n:Nat),small Tryz.prog 25 n=(true&&decide (n<4294967296)&&true))∧(yD Tryz.prog 25=true):=kq
def zCR:(∀(x:AV),zP Tryz.prog 27 x 0=retO (zW 0 x))∧(∀(x:AV),yB Tryz.prog 27 x 0=match zT x with|some cs=>retO (part Tryz.prog 9 cs 0)|none=>none)∧(∀(x:AV),zP Tryz.prog 27 x 1=retO (zW 1 x))∧(∀(x:AV),yB Tryz.prog 27 x 1=match zT x with|some cs=>retO (part Tryz.prog 9 cs 1)|none=>none)∧(∀(x:AV),zP Tryz.prog 27 x 2=retO (zW 2 x))∧(∀(x:AV),yB Tryz.prog 27 x 2=match zT x with|some cs=>retO (part Tryz.prog 23 cs 2)|none=>none)∧(∀(x:AV),zP Tryz.prog 27 x 3=retO (zW 3 x))∧(∀(x:AV),yB Tryz.prog 27 x 3=match zT x with|some cs=>retO (part Tryz.prog 25 cs 3)|none=>none)∧(∀(ps:List (Nat×AV)),build Tryz.prog 27 ps=(yE Tryz.prog [(0,1),(1,1),(2,1),(3,2)] [.t (.str []),.t (.str []),.t (.sl true true []),.t (.int .i64 (0)),.t (.int .i64 (0))] ps).map mkAgg)∧SZq 27 5∧AGq 27 true∧ZCq 27 [.t (.str []),.t (.str []),.t (.sl true true []),.t (.int .i64 (0)),.t (.int .i64 (0))]∧ZEq 27 [.t (.str []),.t (.str []),.t (.sl true true []),.t (.int .i64 (0)),.t (.int .i64 (0))]∧(∀(n:Nat),small Tryz.prog 27 n=(true&&decide (n<4294967296)&&true))∧(yD Tryz.prog 27=true):=kq
def xE:UNq 28 (.slice 49)∧SZq 28 1∧AGq 28 false∧ZCq 28 [.t (.sl true true [])]∧ZEq 28 [.t (.sl true true [])]∧(∀(n:Nat),small Tryz.prog 28 n=(true&&decide (n<4294967296)&&true))∧(yD Tryz.prog 28=true):=kq
def zCP:(∀(x:AV),zP Tryz.prog 30 x 0=retO (zW 0 x))∧(∀(x:AV),yB Tryz.prog 30 x 0=match zT x with|some cs=>retO (part Tryz.prog 3 cs 0)|none=>none)∧(∀(x:AV),zP Tryz.prog 30 x 1=retO (zW 1 x))∧(∀(x:AV),yB Tryz.prog 30 x 1=match zT x with|some cs=>retO (part Tryz.prog 3 cs 1)|none=>none)∧(∀(x:AV),zP Tryz.prog 30 x 2=retO (zW 2 x))∧(∀(x:AV),yB Tryz.prog 30 x 2=match zT x with|some cs=>retO (part Tryz.prog 28 cs 2)|none=>none)∧(∀(ps:List (Nat×AV)),build Tryz.prog 30 ps=(yE Tryz.prog [(0,1),(1,1),(2,1)] [.t (.int .i64 (0)),.t (.int .i64 (0)),.t (.sl true true [])] ps).map mkAgg)∧SZq 30 3∧AGq 30 true∧ZCq 30 [.t (.int .i64 (0)),.t (.int .i64 (0)),.t (.sl true true [])]∧ZEq 30 [.t (.int .i64 (0)),.t (.int .i64 (0)),.t (.sl true true [])]∧(∀(n:Nat),small Tryz.prog 30 n=(true&&decide (n<4294967296)&&true))∧(yD Tryz.prog 30=true):=kq
def uH:UNq 31 (.slice 51)∧SZq 31 1∧AGq 31 false∧ZCq 31 [.t (.sl true true [])]∧ZEq 31 [.t (.sl true true [])]∧(∀(n:Nat),small Tryz.prog 31 n=(true&&decide (n<4294967296)&&true))∧(yD Tryz.prog 31=true):=kq
def kJ:UNq 38 (.int .u64)∧SZq 38 1∧AGq 38 false∧ZCq 38 [.t (.int .u64 (0))]∧ZEq 38 [.t (.int .u64 (0))]∧(∀(n:Nat),small Tryz.prog 38 n=(true&&decide (n<4294967296)&&true)):=kq
def yM:UNq 41 (.slice 72)∧SZq 41 1∧AGq 41 false∧ZCq 41 [.t (.sl true true [])]∧ZEq 41 [.t (.sl true true [])]∧(∀(n:Nat),small Tryz.prog 41 n=(true&&decide (n<4294967296)&&true))∧(yD Tryz.prog 41=true):=kq
def zCM:(∀(x:AV),zP Tryz.prog 43 x 0=retO (zW 0 x))∧(∀(x:AV),yB Tryz.prog 43 x 0=match zT x with|some cs=>retO (part Tryz.prog 9 cs 0)|none=>none)∧(∀(x:AV),zP Tryz.prog 43 x 1=retO (zW 1 x))∧(∀(x:AV),yB Tryz.prog 43 x 1=match zT x with|some cs=>retO (part Tryz.prog 41 cs 1)|none=>none)∧(∀(x:AV),zP Tryz.prog 43 x 2=retO (zW 2 x))∧(∀(x:AV),yB Tryz.prog 43 x 2=match zT x with|some cs=>retO (part Tryz.prog 25 cs 2)|none=>none)∧(∀(ps:List (Nat×AV)),build Tryz.prog 43 ps=(yE Tryz.prog [(0,1),(1,1),(2,2)] [.t (.str []),.t (.sl true true []),.t (.int .i64 (0)),.t (.int .i64 (0))] ps).map mkAgg)∧SZq 43 4∧AGq 43 true∧ZCq 43 [.t (.str []),.t (.sl true true []),.t (.int .i64 (0)),.t (.int .i64 (0))]∧ZEq 43 [.t (.str []),.t (.sl true true []),.t (.int .i64 (0)),.t (.int .i64 (0))]∧(∀(n:Nat),small Tryz.prog 43 n=(true&&decide (n<4294967296)&&true))∧(yD Tryz.prog 43=true):=kq
def zBw:UNq 45 (.slice 54)∧SZq 45 1∧AGq 45 false∧ZCq 45 [.t (.sl true true [])]∧ZEq 45 [.t (.sl true true [])]∧(∀(n:Nat),small Tryz.prog 45 n=(true&&decide (n<4294967296)&&true))∧(yD Tryz.prog 45=true):=kq
def zBA:(∀(x:AV),zP Tryz.prog 47 x 0=retO (zW 0 x))∧(∀(x:AV),yB Tryz.prog 47 x 0=match zT x with|some cs=>retO (part Tryz.prog 9 cs 0)|none=>none)∧(∀(x:AV),zP Tryz.prog 47 x 1=retO (zW 1 x))∧(∀(x:AV),yB Tryz.prog 47 x 1=match zT x with|some cs=>retO (part Tryz.prog 45 cs 1)|none=>none)∧(∀(ps:List (Nat×AV)),build Tryz.prog 47 ps=(yE Tryz.prog [(0,1),(1,1)] [.t (.str []),.t (.sl true true [])] ps).map mkAgg)∧SZq 47 2∧AGq 47 true∧ZCq 47 [.t (.str []),.t (.sl true true [])]∧ZEq 47 [.t (.str []),.t (.sl true true [])]∧(∀(n:Nat),small Tryz.prog 47 n=(true&&decide (n<4294967296)&&true))∧(yD Tryz.prog 47=true):=kq
def zB:(∀(x:AV),zP Tryz.prog 49 x 0=retO (zW 0 x))∧(∀(x:AV),yB Tryz.prog 49 x 0=match zT x with|some cs=>retO (part Tryz.prog 5 cs 0)|none=>none)∧(∀(x:AV),zP Tryz.prog 49 x 1=retO (zW 1 x))∧(∀(x:AV),yB Tryz.prog 49 x 1=match zT x with|some cs=>retO (part Tryz.prog 2 cs 1)|none=>none)∧(∀(x:AV),zP Tryz.prog 49 x 2=retO (zW 2 x))∧(∀(x:AV),yB Tryz.prog 49 x 2=match zT x with|some cs=>retO (part Tryz.prog 9 cs 2)|none=>none)∧(∀(ps:List (Nat×AV)),build Tryz.prog 49 ps=(yE Tryz.prog [(0,1),(1,1),(2,1)] [.t (.int .u8 (0)),.t (.int .i64 (0)),.t (.str [])] ps).map mkAgg)∧SZq 49 3∧AGq 49 true∧ZCq 49 [.t (.int .u8 (0)),.t (.int .i64 (0)),.t (.str [])]∧ZEq 49 [.t (.int .u8 (0)),.t (.int .i64 (0)),.t (.str [])]∧(∀(n:Nat),small Tryz.prog 49 n=(true&&decide (n<4294967296)&&true))∧(yD Tryz.prog 49=true):=⟨fun _=>by kernel_rfl,fun _=>by kernel_rfl,fun _=>by kernel_rfl,fun _=>by kernel_rfl,fun _=>by kernel_rfl,fun _=>by kernel_rfl,fun _=>by kernel_rfl,zQo,zU5,kq,kq,zWe,kq⟩
def vV:(∀(x:AV),zP Tryz.prog 51 x 0=retO (zW 0 x))∧(∀(x:AV),yB Tryz.prog 51 x 0=match zT x with|some cs=>retO (part Tryz.prog 9 cs 0)|none=>none)∧(∀(x:AV),zP Tryz.prog 51 x 1=retO (zW 1 x))∧(∀(x:AV),yB Tryz.prog 51 x 1=match zT x with|some cs=>retO (part Tryz.prog 49 cs 1)|none=>none)∧(∀(ps:List (Nat×AV)),build Tryz.prog 51 ps=(yE Tryz.prog [(0,1),(1,3)] [.t (.str []),.t (.int .u8 (0)),.t (.int .i64 (0)),.t (.str [])] ps).map mkAgg)∧SZq 51 4∧AGq 51 true∧ZCq 51 [.t (.str []),.t (.int .u8 (0)),.t (.int .i64 (0)),.t (.str [])]∧ZEq 51 [.t (.str []),.t (.int .u8 (0)),.t (.int .i64 (0)),.t (.str [])]∧(∀(n:Nat),small Tryz.prog 51 n=(true&&decide (n<4294967296)&&true))∧(yD Tryz.prog 51=true):=kq
def zBz:(∀(x:AV),zP Tryz.prog 54 x 0=retO (zW 0 x))∧(∀(x:AV),yB Tryz.prog 54 x 0=match zT x with|some cs=>retO (part Tryz.prog 9 cs 0)|none=>none)∧(∀(x:AV),zP Tryz.prog 54 x 1=retO (zW 1 x))∧(∀(x:AV),yB Tryz.prog 54 x 1=match zT x with|some cs=>retO (part Tryz.prog 5 cs 1)|none=>none)∧(∀(ps:List (Nat×AV)),build Tryz.prog 54 ps=(yE Tryz.prog [(0,1),(1,1)] [.t (.str []),.t (.int .u8 (0))] ps).map mkAgg)∧SZq 54 2∧AGq 54 true∧ZCq 54 [.t (.str []),.t (.int .u8 (0))]∧ZEq 54 [.t (.str []),.t (.int .u8 (0))]∧(∀(n:Nat),small Tryz.prog 54 n=(true&&decide (n<4294967296)&&true))∧(yD Tryz.prog 54=true):=kq
def zLJ:SZq 58 1∧AGq 58 false∧ZCq 58 [.t (.nilfn)]∧ZEq 58 [.t (.nilfn)]∧(∀(n:Nat),small Tryz.prog 58 n=(true&&decide (n<4294967296)&&true))∧(yD Tryz.prog 58=true):=kq
def xC:UNq 66 (.slice 9)∧SZq 66 1∧AGq 66 false∧ZCq 66 [.t (.sl true true [])]∧ZEq 66 [.t (.sl true true [])]∧(∀(n:Nat),small Tryz.prog 66 n=(true&&decide (n<4294967296)&&true))∧(yD Tryz.prog 66=true):=kq
def zO:UNq 69 (.slice 74)∧SZq 69 1∧AGq 69 false∧ZCq 69 [.t (.sl true true [])]∧ZEq 69 [.t (.sl true true [])]∧(∀(n:Nat),small Tryz.prog 69 n=(true&&decide (n<4294967296)&&true))∧(yD Tryz.prog 69=true):=kq
def zL:UNq 70 (.slice 3)∧SZq 70 1∧AGq 70 false∧ZCq 70 [.t (.sl true true [])]∧ZEq 70 [.t (.sl true true [])]∧(∀(n:Nat),small Tryz.prog 70 n=(true&&decide (n<4294967296)&&true))∧(yD Tryz.prog 70=true):=⟨yEI,kq,kq,kq,kq,fun _=>by kernel_rfl,kq⟩
def yL:(∀(x:AV),zP Tryz.prog 72 x 0=retO (zW 0 x))∧(∀(x:AV),yB Tryz.prog 72 x 0=match zT x with|some cs=>retO (part Tryz.prog 5 cs 0)|none=>none)∧(∀(x:AV),zP Tryz.prog 72 x 1=retO (zW 1 x))∧(∀(x:AV),yB Tryz.prog 72 x 1=match zT x with|some cs=>retO (part Tryz.prog 69 cs 1)|none=>none)∧(∀(x:AV),zP Tryz.prog 72 x 2=retO (zW 2 x))∧(∀(x:AV),yB Tryz.prog 72 x 2=match zT x with|some cs=>retO (part Tryz.prog 69 cs 2)|none=>none)∧(∀(x:AV),zP Tryz.prog 72 x 3=retO (zW 3 x))∧(∀(x:AV),yB Tryz.prog 72 x 3=match zT x with|some cs=>retO (part Tryz.prog 4 cs 3)|none=>none)∧(∀(x:AV),zP Tryz.prog 72 x 4=retO (zW 4 x))∧(∀(x:AV),yB Tryz.prog 72 x 4=match zT x with|some cs=>retO (part Tryz.prog 4 cs 4)|none=>none)∧(∀(x:AV),zP Tryz.prog 72 x 5=retO (zW 5 x))∧(∀(x:AV),yB Tryz.prog 72 x 5=match zT x with|some cs=>retO (part Tryz.prog 70 cs 5)|none=>none)∧(∀(x:AV),zP Tryz.prog 72 x 6=retO (zW 6 x))∧(∀(x:AV),yB Tryz.prog 72 x 6=match zT x with|some cs=>retO (part Tryz.prog 25 cs 6)|none=>none)∧(∀(ps:List (Nat×AV)),build Tryz.prog 72 ps=(yE Tryz.prog [(0,1),(1,1),(2,1),(3,1),(4,1),(5,1),(6,2)] [.t (.int .u8 (0)),.t (.sl true true []),.t (.sl true true []),.t (.bool false),.t (.bool false),.t (.sl true true []),.t (.int .i64 (0)),.t (.int .i64 (0))] ps).map mkAgg)∧SZq 72 8∧AGq 72 true∧ZCq 72 [.t (.int .u8 (0)),.t (.sl true true []),.t (.sl true true []),.t (.bool false),.t (.bool false),.t (.sl true true []),.t (.int .i64 (0)),.t (.int .i64 (0))]∧ZEq 72 [.t (.int .u8 (0)),.t (.sl true true []),.t (.sl true true []),.t (.bool false),.t (.bool false),.t (.sl true true []),.t (.int .i64 (0)),.t (.int .i64 (0))]∧(∀(n:Nat),small Tryz.prog 72 n=(true&&decide (n<4294967296)&&true))∧(yD Tryz.prog 72=true):=kq
def zN:(∀(x:AV),zP Tryz.prog 74 x 0=retO (zW 0 x))∧(∀(x:AV),yB Tryz.prog 74 x 0=match zT x with|some cs=>retO (part Tryz.prog 5 cs 0)|none=>none)∧(∀(x:AV),zP Tryz.prog 74 x 1=retO (zW 1 x))∧(∀(x:AV),yB Tryz.prog 74 x 1=match zT x with|some cs=>retO (part Tryz.prog 49 cs 1)|none=>none)∧(∀(x:AV),zP Tryz.prog 74 x 2=retO (zW 4 x))∧(∀(x:AV),yB Tryz.prog 74 x 2=match zT x with|some cs=>retO (part Tryz.prog 9 cs 4)|none=>none)∧(∀(x:AV),zP Tryz.prog 74 x 3=retO (zW 5 x))∧(∀(x:AV),yB Tryz.prog 74 x 3=match zT x with|some cs=>retO (part Tryz.prog 70 cs 5)|none=>none)∧(∀(x:AV),zP Tryz.prog 74 x 4=retO (zW 6 x))∧(∀(x:AV),yB Tryz.prog 74 x 4=match zT x with|some cs=>retO (part Tryz.prog 25 cs 6)|none=>none)∧(∀(ps:List (Nat×AV)),build Tryz.prog 74 ps=(yE Tryz.prog [(0,1),(1,3),(4,1),(5,1),(6,2)] [.t (.int .u8 (0)),.t (.int .u8 (0)),.t (.int .i64 (0)),.t (.str []),.t (.str []),.t (.sl true true []),.t (.int .i64 (0)),.t (.int .i64 (0))] ps).map mkAgg)∧SZq 74 8∧AGq 74 true∧ZCq 74 [.t (.int .u8 (0)),.t (.int .u8 (0)),.t (.int .i64 (0)),.t (.str []),.t (.str []),.t (.sl true true []),.t (.int .i64 (0)),.t (.int .i64 (0))]∧ZEq 74 [.t (.int .u8 (0)),.t (.int .u8 (0)),.t (.int .i64 (0)),.t (.str []),.t (.str []),.t (.sl true true []),.t (.int .i64 (0)),.t (.int .i64 (0))]∧(∀(n:Nat),small Tryz.prog 74 n=(true&&decide (n<4294967296)&&true))∧(yD Tryz.prog 74=true):=kq
def zU:UNq 79 (.int .i64)∧SZq 79 1∧AGq 79 false∧ZCq 79 [.t (.int .i64 (0))]∧ZEq 79 [.t (.int .i64 (0))]∧(∀(n:Nat),small Tryz.prog 79 n=(true&&decide (n<4294967296)&&true)):=kq
def zXz:SZq 90 1∧AGq 90 false∧ZCq 90 [.t (.nilfn)]∧ZEq 90 [.t (.nilfn)]∧(∀(n:Nat),small Tryz.prog 90 n=(true&&decide (n<4294967296)&&true))∧(yD Tryz.prog 90=true):=kq
def zX:UNq 98 (.slice 120)∧SZq 98 1∧AGq 98 false∧ZCq 98 [.t (.sl true true [])]∧ZEq 98 [.t (.sl true true [])]∧(∀(n:Nat),small Tryz.prog 98 n=(true&&decide (n<4294967296)&&true))∧(yD Tryz.prog 98=true):=kq
def zCo:(∀(x:AV),zP Tryz.prog 110 x 0=retO (zW 0 x))∧(∀(x:AV),yB Tryz.prog 110 x 0=match zT x with|some cs=>retO (part Tryz.prog 49 cs 0)|none=>none)∧(∀(x:AV),zP Tryz.prog 110 x 1=retO (zW 3 x))∧(∀(x:AV),yB Tryz.prog 110 x 1=match zT x with|some cs=>retO (part Tryz.prog 79 cs 3)|none=>none)∧(∀(ps:List (Nat×AV)),build Tryz.prog 110 ps=(yE Tryz.prog [(0,3),(3,1)] [.t (.int .u8 (0)),.t (.int .i64 (0)),.t (.str []),.t (.int .i64 (0))] ps).map mkAgg)∧SZq 110 4∧AGq 110 true∧ZCq 110 [.t (.int .u8 (0)),.t (.int .i64 (0)),.t (.str []),.t (.int .i64 (0))]∧ZEq 110 [.t (.int .u8 (0)),.t (.int .i64 (0)),.t (.str []),.t (.int .i64 (0))]∧(∀(n:Nat),small Tryz.prog 110 n=(true&&decide (n<4294967296)&&true))∧(yD Tryz.prog 110=true):=kq
def zSG:UNq 111 (.slice 110)∧SZq 111 1∧AGq 111 false∧ZCq 111 [.t (.sl true true [])]∧ZEq 111 [.t (.sl true true [])]∧(∀(n:Nat),small Tryz.prog 111 n=(true&&decide (n<4294967296)&&true))∧(yD Tryz.prog 111=true):=kq
def zS:(∀(x:AV),zP Tryz.prog 120 x 0=retO (zW 0 x))∧(∀(x:AV),yB Tryz.prog 120 x 0=match zT x with|some cs=>retO (part Tryz.prog 5 cs 0)|none=>none)∧(∀(x:AV),zP Tryz.prog 120 x 1=retO (zW 1 x))∧(∀(x:AV),yB Tryz.prog 120 x 1=match zT x with|some cs=>retO (part Tryz.prog 9 cs 1)|none=>none)∧(∀(x:AV),zP Tryz.prog 120 x 2=retO (zW 2 x))∧(∀(x:AV),yB Tryz.prog 120 x 2=match zT x with|some cs=>retO (part Tryz.prog 49 cs 2)|none=>none)∧(∀(x:AV),zP Tryz.prog 120 x 3=retO (zW 5 x))∧(∀(x:AV),yB Tryz.prog 120 x 3=match zT x with|some cs=>retO (part Tryz.prog 25 cs 5)|none=>none)∧(∀(ps:List (Nat×AV)),build Tryz.prog 120 ps=(yE Tryz.prog [(0,1),(1,1),(2,3),(5,2)] [.t (.int .u8 (0)),.t (.str []),.t (.int .u8 (0)),.t (.int .i64 (0)),.t (.str []),.t (.int .i64 (0)),.t (.int .i64 (0))] ps).map mkAgg)∧SZq 120 7∧AGq 120 true∧ZCq 120 [.t (.int .u8 (0)),.t (.str []),.t (.int .u8 (0)),.t (.int .i64 (0)),.t (.str []),.t (.int .i64 (0)),.t (.int .i64 (0))]∧ZEq 120 [.t (.int .u8 (0)),.t (.str []),.t (.int .u8 (0)),.t (.int .i64 (0)),.t (.str []),.t (.int .i64 (0)),.t (.int .i64 (0))]∧(∀(n:Nat),small Tryz.prog 120 n=(true&&decide (n<4294967296)&&true))∧(yD Tryz.prog 120=true):=kq
def yFt:SZq 128 1∧AGq 128 false∧ZCq 128 [.t (.nilfn)]∧ZEq 128 [.t (.nilfn)]∧(∀(n:Nat),small Tryz.prog 128 n=(true&&decide (n<4294967296)&&true))∧(yD Tryz.prog 128=true):=kq
def zOK:UNq 134 (.slice 5)∧SZq 134 1∧AGq 134 false∧ZCq 134 [.t (.sl true true [])]∧ZEq 134 [.t (.sl true true [])]∧(∀(n:Nat),small Tryz.prog 134 n=(true&&decide (n<4294967296)&&true))∧(yD Tryz.prog 134=true):=kq
def zUU:UNq 135 (.slice 69)∧SZq 135 1∧AGq 135 false∧ZCq 135 [.t (.sl true true [])]∧ZEq 135 [.t (.sl true true [])]∧(∀(n:Nat),small Tryz.prog 135 n=(true&&decide (n<4294967296)&&true))∧(yD Tryz.prog 135=true):=kq
def zIE:SZq 141 1∧AGq 141 false∧ZCq 141 [.t (.nilfn)]∧ZEq 141 [.t (.nilfn)]∧(∀(n:Nat),small Tryz.prog 141 n=(true&&decide (n<4294967296)&&true))∧(yD Tryz.prog 141=true):=kq
def zAV:(∀(x:AV),zP Tryz.prog 149 x 0=retO (zW 0 x))∧(∀(x:AV),yB Tryz.prog 149 x 0=match zT x with|some cs=>retO (part Tryz.prog 9 cs 0)|none=>none)∧(∀(x:AV),zP Tryz.prog 149 x 1=retO (zW 1 x))∧(∀(x:AV),yB Tryz.prog 149 x 1=match zT x with|some cs=>retO (part Tryz.prog 5 cs 1)|none=>none)∧(∀(x:AV),zP Tryz.prog 149 x 2=retO (zW 2 x))∧(∀(x:AV),yB Tryz.prog 149 x 2=match zT x with|some cs=>retO (part Tryz.prog 5 cs 2)|none=>none)∧(∀(ps:List (Nat×AV)),build Tryz.prog 149 ps=(yE Tryz.prog [(0,1),(1,1),(2,1)] [.t (.str []),.t (.int .u8 (0)),.t (.int .u8 (0))] ps).map mkAgg)∧SZq 149 3∧AGq 149 true∧ZCq 149 [.t (.str []),.t (.int .u8 (0)),.t (.int .u8 (0))]∧ZEq 149 [.t (.str []),.t (.int .u8 (0)),.t (.int .u8 (0))]∧(∀(n:Nat),small Tryz.prog 149 n=(true&&decide (n<4294967296)&&true))∧(yD Tryz.prog 149=true):=kq
def zAR:UNq 150 (.array 5 149)∧SZq 150 15∧AGq 150 true∧ZCq 150 [.t (.str []),.t (.int .u8 (0)),.t (.int .u8 (0)),.t (.str []),.t (.int .u8 (0)),.t (.int .u8 (0)),.t (.str []),.t (.int .u8 (0)),.t (.int .u8 (0)),.t (.str []),.t (.int .u8 (0)),.t (.int .u8 (0)),.t (.str []),.t (.int .u8 (0)),.t (.int .u8 (0))]∧ZEq 150 [.t (.str []),.t (.int .u8 (0)),.t (.int .u8 (0)),.t (.str []),.t (.int .u8 (0)),.t (.int .u8 (0)),.t (.str []),.t (.int .u8 (0)),.t (.int .u8 (0)),.t (.str []),.t (.int .u8 (0)),.t (.int .u8 (0)),.t (.str []),.t (.int .u8 (0)),.t (.int .u8 (0))]∧(∀(n:Nat),small Tryz.prog 150 n=(true&&decide (n<4294967296)&&true))∧(yD Tryz.prog 150=true):=kq
def zS9:SZq 157 1∧AGq 157 false∧ZCq 157 [.t (.nilfn)]∧ZEq 157 [.t (.nilfn)]∧(∀(n:Nat),small Tryz.prog 157 n=(true&&decide (n<4294967296)&&true))∧(yD Tryz.prog 157=true):=kq
def zFC:SZq 159 1∧AGq 159 false∧ZCq 159 [.t (.nilfn)]∧ZEq 159 [.t (.nilfn)]∧(∀(n:Nat),small Tryz.prog 159 n=(true&&decide (n<4294967296)&&true))∧(yD Tryz.prog 159=true):=kq
def zEs:SZq 160 1∧AGq 160 false∧ZCq 160 [.t (.nilfn)]∧ZEq 160 [.t (.nilfn)]∧(∀(n:Nat),small Tryz.prog 160 n=(true&&decide (n<4294967296)&&true))∧(yD Tryz.prog 160=true):=kq
def kW:UNq 167 (.slice 169)∧SZq 167 1∧AGq 167 false∧ZCq 167 [.t (.sl true true [])]∧ZEq 167 [.t (.sl true true [])]∧(∀(n:Nat),small Tryz.prog 167 n=(true&&decide (n<4294967296)&&true))∧(yD Tryz.prog 167=true):=kq
def xG:(∀(x:AV),zP Tryz.prog 169 x 0=retO (zW 0 x))∧(∀(x:AV),yB Tryz.prog 169 x 0=match zT x with|some cs=>retO (part Tryz.prog 49 cs 0)|none=>none)∧(∀(x:AV),zP Tryz.prog 169 x 1=retO (zW 3 x))∧(∀(x:AV),yB Tryz.prog 169 x 1=match zT x with|some cs=>retO (part Tryz.prog 79 cs 3)|none=>none)∧(∀(ps:List (Nat×AV)),build Tryz.prog 169 ps=(yE Tryz.prog [(0,3),(3,1)] [.t (.int .u8 (0)),.t (.int .i64 (0)),.t (.str []),.t (.int .i64 (0))] ps).map mkAgg)∧SZq 169 4∧AGq 169 true∧ZCq 169 [.t (.int .u8 (0)),.t (.int .i64 (0)),.t (.str []),.t (.int .i64 (0))]∧ZEq 169 [.t (.int .u8 (0)),.t (.int .i64 (0)),.t (.str []),.t (.int .i64 (0))]∧(∀(n:Nat),small Tryz.prog 169 n=(true&&decide (n<4294967296)&&true))∧(yD Tryz.prog 169=true):=kq
def kY:UNq 170 (.slice 4)∧SZq 170 1∧AGq 170 false∧ZCq 170 [.t (.sl true true [])]∧ZEq 170 [.t (.sl true true [])]∧(∀(n:Nat),small Tryz.prog 170 n=(true&&decide (n<4294967296)&&true))∧(yD Tryz.prog 170=true):=kq
def jA:(∀(x:AV),zP Tryz.prog 172 x 0=retO (zW 0 x))∧(∀(x:AV),yB Tryz.prog 172 x 0=match zT x with|some cs=>retO (part Tryz.prog 167 cs 0)|none=>none)∧(∀(x:AV),zP Tryz.prog 172 x 1=retO (zW 1 x))∧(∀(x:AV),yB Tryz.prog 172 x 1=match zT x with|some cs=>retO (part Tryz.prog 170 cs 1)|none=>none)∧(∀(ps:List (Nat×AV)),build Tryz.prog 172 ps=(yE Tryz.prog [(0,1),(1,1)] [.t (.sl true true []),.t (.sl true true [])] ps).map mkAgg)∧SZq 172 2∧AGq 172 true∧ZCq 172 [.t (.sl true true []),.t (.sl true true [])]∧ZEq 172 [.t (.sl true true []),.t (.sl true true [])]∧(∀(n:Nat),small Tryz.prog 172 n=(true&&decide (n<4294967296)&&true))∧(yD Tryz.prog 172=true):=kq
def zCw:SZq 188 1∧AGq 188 false∧ZCq 188 [.t (.nilifc)]∧ZEq 188 [.t (.nilifc)]∧(∀(n:Nat),small Tryz.prog 188 n=(true&&decide (n<4294967296)&&true))∧(yD Tryz.prog 188=true):=kq
def yFX:UNq 194 (.pointer 3)∧SZq 194 1∧AGq 194 false∧ZCq 194 [.t (.nilptr)]∧ZEq 194 [.t (.nilptr)]∧(∀(n:Nat),small Tryz.prog 194 n=(true&&decide (n<4294967296)&&true))∧(yD Tryz.prog 194=true):=kq
def zSW:SZq 197 1∧AGq 197 false∧ZCq 197 [.t (.nilfn)]∧ZEq 197 [.t (.nilfn)]∧(∀(n:Nat),small Tryz.prog 197 n=(true&&decide (n<4294967296)&&true))∧(yD Tryz.prog 197=true):=kq
def xZ:UNq 198 (.pointer 241)∧SZq 198 1∧AGq 198 false∧ZCq 198 [.t (.nilptr)]∧ZEq 198 [.t (.nilptr)]∧(∀(n:Nat),small Tryz.prog 198 n=(true&&decide (n<4294967296)&&true))∧(yD Tryz.prog 198=true):=kq
def zTk:SZq 200 1∧AGq 200 false∧ZCq 200 [.t (.nilfn)]∧ZEq 200 [.t (.nilfn)]∧(∀(n:Nat),small Tryz.prog 200 n=(true&&decide (n<4294967296)&&true))∧(yD Tryz.prog 200=true):=kq
def zNY:SZq 222 1∧AGq 222 false∧ZCq 222 [.t (.nilfn)]∧ZEq 222 [.t (.nilfn)]∧(∀(n:Nat),small Tryz.prog 222 n=(true&&decide (n<4294967296)&&true))∧(yD Tryz.prog 222=true):=kq
def zBH:SZq 225 1∧AGq 225 false∧ZCq 225 [.t (.nilfn)]∧ZEq 225 [.t (.nilfn)]∧(∀(n:Nat),small Tryz.prog 225 n=(true&&decide (n<4294967296)&&true))∧(yD Tryz.prog 225=true):=kq
def zOz:SZq 227 1∧AGq 227 false∧ZCq 227 [.t (.nilfn)]∧ZEq 227 [.t (.nilfn)]∧(∀(n:Nat),small Tryz.prog 227 n=(true&&decide (n<4294967296)&&true))∧(yD Tryz.prog 227=true):=kq
def zAO:UNq 233 (.pointer 235)∧SZq 233 1∧AGq 233 false∧ZCq 233 [.t (.nilptr)]∧ZEq 233 [.t (.nilptr)]∧(∀(n:Nat),small Tryz.prog 233 n=(true&&decide (n<4294967296)&&true))∧(yD Tryz.prog 233=true):=kq
def zAM:(∀(x:AV),zP Tryz.prog 235 x 0=retO (zW 0 x))∧(∀(x:AV),yB Tryz.prog 235 x 0=match zT x with|some cs=>retO (part Tryz.prog 69 cs 0)|none=>none)∧(∀(x:AV),zP Tryz.prog 235 x 1=retO (zW 1 x))∧(∀(x:AV),yB Tryz.prog 235 x 1=match zT x with|some cs=>retO (part Tryz.prog 66 cs 1)|none=>none)∧(∀(ps:List (Nat×AV)),build Tryz.prog 235 ps=(yE Tryz.prog [(0,1),(1,1)] [.t (.sl true true []),.t (.sl true true [])] ps).map mkAgg)∧SZq 235 2∧AGq 235 true∧ZCq 235 [.t (.sl true true []),.t (.sl true true [])]∧ZEq 235 [.t (.sl true true []),.t (.sl true true [])]∧(∀(n:Nat),small Tryz.prog 235 n=(true&&decide (n<4294967296)&&true))∧(yD Tryz.prog 235=true):=kq
def yBq:SZq 237 1∧AGq 237 false∧ZCq 237 [.t (.nilfn)]∧ZEq 237 [.t (.nilfn)]∧(∀(n:Nat),small Tryz.prog 237 n=(true&&decide (n<4294967296)&&true))∧(yD Tryz.prog 237=true):=kq
def xX:(∀(x:AV),zP Tryz.prog 241 x 0=retO (zW 0 x))∧(∀(x:AV),yB Tryz.prog 241 x 0=match zT x with|some cs=>retO (part Tryz.prog 98 cs 0)|none=>none)∧(∀(x:AV),zP Tryz.prog 241 x 1=retO (zW 1 x))∧(∀(x:AV),yB Tryz.prog 241 x 1=match zT x with|some cs=>retO (part Tryz.prog 3 cs 1)|none=>none)∧(∀(x:AV),zP Tryz.prog 241 x 2=retO (zW 2 x))∧(∀(x:AV),yB Tryz.prog 241 x 2=match zT x with|some cs=>retO (part Tryz.prog 3 cs 2)|none=>none)∧(∀(x:AV),zP Tryz.prog 241 x 3=retO (zW 3 x))∧(∀(x:AV),yB Tryz.prog 241 x 3=match zT x with|some cs=>retO (part Tryz.prog 41 cs 3)|none=>none)∧(∀(ps:List (Nat×AV)),build Tryz.prog 241 ps=(yE Tryz.prog [(0,1),(1,1),(2,1),(3,1)] [.t (.sl true true []),.t (.int .i64 (0)),.t (.int .i64 (0)),.t (.sl true true [])] ps).map mkAgg)∧SZq 241 4∧AGq 241 true∧ZCq 241 [.t (.sl true true []),.t (.int .i64 (0)),.t (.int .i64 (0)),.t (.sl true true [])]∧ZEq 241 [.t (.sl true true []),.t (.int .i64 (0)),.t (.int .i64 (0)),.t (.sl true true [])]∧(∀(n:Nat),small Tryz.prog 241 n=(true&&decide (n<4294967296)&&true))∧(yD Tryz.prog 241=true):=kq
def zN3:(∀(x:AV),zP Tryz.prog 243 x 0=retO (zW 0 x))∧(∀(x:AV),yB Tryz.prog 243 x 0=match zT x with|some cs=>retO (part Tryz.prog 3 cs 0)|none=>none)∧(∀(x:AV),zP Tryz.prog 243 x 1=retO (zW 1 x))∧(∀(x:AV),yB Tryz.prog 243 x 1=match zT x with|some cs=>retO (part Tryz.prog 79 cs 1)|none=>none)∧(∀(ps:List (Nat×AV)),build Tryz.prog 243 ps=(yE Tryz.prog [(0,1),(1,1)] [.t (.int .i64 (0)),.t (.int .i64 (0))] ps).map mkAgg)∧SZq 243 2∧AGq 243 true∧ZCq 243 [.t (.int .i64 (0)),.t (.int .i64 (0))]∧ZEq 243 [.t (.int .i64 (0)),.t (.int .i64 (0))]∧(∀(n:Nat),small Tryz.prog 243 n=(true&&decide (n<4294967296)&&true))∧(yD Tryz.prog 243=true):=kq
def zAY:(∀(x:AV),zP Tryz.prog 265 x 0=retO (zW 0 x))∧(∀(x:AV),yB Tryz.prog 265 x 0=match zT x with|some cs=>retO (part Tryz.prog 9 cs 0)|none=>none)∧(∀(x:AV),zP Tryz.prog 265 x 1=retO (zW 1 x))∧(∀(x:AV),yB Tryz.prog 265 x 1=match zT x with|some cs=>retO (part Tryz.prog 3 cs 1)|none=>none)∧(∀(ps:List (Nat×AV)),build Tryz.prog 265 ps=(yE Tryz.prog [(0,1),(1,1)] [.t (.str []),.t (.int .i64 (0))] ps).map mkAgg)∧SZq 265 2∧AGq 265 true∧ZCq 265 [.t (.str []),.t (.int .i64 (0))]∧ZEq 265 [.t (.str []),.t (.int .i64 (0))]∧(∀(n:Nat),small Tryz.prog 265 n=(true&&decide (n<4294967296)&&true))∧(yD Tryz.prog 265=true):=kq
def yJ:UNq 268 (.pointer 270)∧SZq 268 1∧AGq 268 false∧ZCq 268 [.t (.nilptr)]∧ZEq 268 [.t (.nilptr)]∧(∀(n:Nat),small Tryz.prog 268 n=(true&&decide (n<4294967296)&&true))∧(yD Tryz.prog 268=true):=kq
def yK:(∀(x:AV),zP Tryz.prog 270 x 0=retO (zW 0 x))∧(∀(x:AV),yB Tryz.prog 270 x 0=match zT x with|some cs=>retO (part Tryz.prog 98 cs 0)|none=>none)∧(∀(x:AV),zP Tryz.prog 270 x 1=retO (zW 1 x))∧(∀(x:AV),yB Tryz.prog 270 x 1=match zT x with|some cs=>retO (part Tryz.prog 3 cs 1)|none=>none)∧(∀(x:AV),zP Tryz.prog 270 x 2=retO (zW 2 x))∧(∀(x:AV),yB Tryz.prog 270 x 2=match zT x with|some cs=>retO (part Tryz.prog 3 cs 2)|none=>none)∧(∀(x:AV),zP Tryz.prog 270 x 3=retO (zW 3 x))∧(∀(x:AV),yB Tryz.prog 270 x 3=match zT x with|some cs=>retO (part Tryz.prog 69 cs 3)|none=>none)∧(∀(ps:List (Nat×AV)),build Tryz.prog 270 ps=(yE Tryz.prog [(0,1),(1,1),(2,1),(3,1)] [.t (.sl true true []),.t (.int .i64 (0)),.t (.int .i64 (0)),.t (.sl true true [])] ps).map mkAgg)∧SZq 270 4∧AGq 270 true∧ZCq 270 [.t (.sl true true []),.t (.int .i64 (0)),.t (.int .i64 (0)),.t (.sl true true [])]∧ZEq 270 [.t (.sl true true []),.t (.int .i64 (0)),.t (.int .i64 (0)),.t (.sl true true [])]∧(∀(n:Nat),small Tryz.prog 270 n=(true&&decide (n<4294967296)&&true))∧(yD Tryz.prog 270=true):=kq
def wP:UNq 271 (.int .i64)∧SZq 271 1∧AGq 271 false∧ZCq 271 [.t (.int .i64 (0))]∧ZEq 271 [.t (.int .i64 (0))]∧(∀(n:Nat),small Tryz.prog 271 n=(true&&decide (n<4294967296)&&true)):=kq
def yCd:UNq 275 (.array 4 9)∧SZq 275 4∧AGq 275 true∧ZCq 275 [.t (.str []),.t (.str []),.t (.str []),.t (.str [])]∧ZEq 275 [.t (.str []),.t (.str []),.t (.str []),.t (.str [])]∧(∀(n:Nat),small Tryz.prog 275 n=(true&&decide (n<4294967296)&&true))∧(yD Tryz.prog 275=true):=kq
def zIC:SZq 290 1∧AGq 290 false∧ZCq 290 [.t (.nilfn)]∧ZEq 290 [.t (.nilfn)]∧(∀(n:Nat),small Tryz.prog 290 n=(true&&decide (n<4294967296)&&true))∧(yD Tryz.prog 290=true):=kq
def yBi:UNq 300 (.array 27 265)∧SZq 300 54∧AGq 300 true∧ZCq 300 [.t (.str []),.t (.int .i64 (0)),.t (.str []),.t (.int .i64 (0)),.t (.str []),.t (.int .i64 (0)),.t (.str []),.t (.int .i64 (0)),.t (.str []),.t (.int .i64 (0)),.t (.str []),.t (.int .i64 (0)),.t (.str []),.t (.int .i64 (0)),.t (.str []),.t (.int .i64 (0)),.t (.str []),.t (.int .i64 (0)),.t (.str []),.t (.int .i64 (0)),.t (.str []),.t (.int .i64 (0)),.t (.str []),.t (.int .i64 (0)),.t (.str []),.t (.int .i64 (0)),.t (.str []),.t (.int .i64 (0)),.t (.str []),.t (.int .i64 (0)),.t (.str []),.t (.int .i64 (0)),.t (.str []),.t (.int .i64 (0)),.t (.str []),.t (.int .i64 (0)),.t (.str []),.t (.int .i64 (0)),.t (.str []),.t (.int .i64 (0)),.t (.str []),.t (.int .i64 (0)),.t (.str []),.t (.int .i64 (0)),.t (.str []),.t (.int .i64 (0)),.t (.str []),.t (.int .i64 (0)),.t (.str []),.t (.int .i64 (0)),.t (.str []),.t (.int .i64 (0)),.t (.str []),.t (.int .i64 (0))]∧ZEq 300 [.t (.str []),.t (.int .i64 (0)),.t (.str []),.t (.int .i64 (0)),.t (.str []),.t (.int .i64 (0)),.t (.str []),.t (.int .i64 (0)),.t (.str []),.t (.int .i64 (0)),.t (.str []),.t (.int .i64 (0)),.t (.str []),.t (.int .i64 (0)),.t (.str []),.t (.int .i64 (0)),.t (.str []),.t (.int .i64 (0)),.t (.str []),.t (.int .i64 (0)),.t (.str []),.t (.int .i64 (0)),.t (.str []),.t (.int .i64 (0)),.t (.str []),.t (.int .i64 (0)),.t (.str []),.t (.int .i64 (0)),.t (.str []),.t (.int .i64 (0)),.t (.str []),.t (.int .i64 (0)),.t (.str []),.t (.int .i64 (0)),.t (.str []),.t (.int .i64 (0)),.t (.str []),.t (.int .i64 (0)),.t (.str []),.t (.int .i64 (0)),.t (.str []),.t (.int .i64 (0)),.t (.str []),.t (.int .i64 (0)),.t (.str []),.t (.int .i64 (0)),.t (.str []),.t (.int .i64 (0)),.t (.str []),.t (.int .i64 (0)),.t (.str []),.t (.int .i64 (0)),.t (.str []),.t (.int .i64 (0))]∧(∀(n:Nat),small Tryz.prog 300 n=(true&&decide (n<4294967296)&&true))∧(yD Tryz.prog 300=true):=kq
def yFA:UNq 305 (.array 8 128)∧SZq 305 8∧AGq 305 true∧ZCq 305 [.t (.nilfn),.t (.nilfn),.t (.nilfn),.t (.nilfn),.t (.nilfn),.t (.nilfn),.t (.nilfn),.t (.nilfn)]∧ZEq 305 [.t (.nilfn),.t (.nilfn),.t (.nilfn),.t (.nilfn),.t (.nilfn),.t (.nilfn),.t (.nilfn),.t (.nilfn)]∧(∀(n:Nat),small Tryz.prog 305 n=(true&&decide (n<4294967296)&&true))∧(yD Tryz.prog 305=true):=kq
def zEv:(∀(x:AV),zP Tryz.prog 307 x 0=retO (zW 0 x))∧(∀(x:AV),yB Tryz.prog 307 x 0=match zT x with|some cs=>retO (part Tryz.prog 160 cs 0)|none=>none)∧(∀(ps:List (Nat×AV)),build Tryz.prog 307 ps=(yE Tryz.prog [(0,1)] [.t (.nilfn)] ps).map mkAgg)∧SZq 307 1∧AGq 307 true∧ZCq 307 [.t (.nilfn)]∧ZEq 307 [.t (.nilfn)]∧(∀(n:Nat),small Tryz.prog 307 n=(true&&decide (n<4294967296)&&true))∧(yD Tryz.prog 307=true):=kq
def zEu:UNq 309 (.map 5 307)∧SZq 309 1∧AGq 309 false∧ZCq 309 [.t (.nilmap)]∧ZEq 309 [.t (.nilmap)]∧(∀(n:Nat),small Tryz.prog 309 n=(true&&decide (n<4294967296)&&true))∧(yD Tryz.prog 309=true):=kq
def zBL:SZq 317 1∧AGq 317 false∧ZCq 317 [.t (.nilfn)]∧ZEq 317 [.t (.nilfn)]∧(∀(n:Nat),small Tryz.prog 317 n=(true&&decide (n<4294967296)&&true))∧(yD Tryz.prog 317=true):=kq
def yF6:UNq 320 (.int .u64)∧SZq 320 1∧AGq 320 false∧ZCq 320 [.t (.int .u64 (0))]∧ZEq 320 [.t (.int .u64 (0))]∧(∀(n:Nat),small Tryz.prog 320 n=(true&&decide (n<4294967296)&&true)):=kq
def zDn:(∀(x:AV),zP Tryz.prog 328 x 0=retO (zW 0 x))∧(∀(x:AV),yB Tryz.prog 328 x 0=match zT x with|some cs=>retO (part Tryz.prog 9 cs 0)|none=>none)∧(∀(x:AV),zP Tryz.prog 328 x 1=retO (zW 1 x))∧(∀(x:AV),yB Tryz.prog 328 x 1=match zT x with|some cs=>retO (part Tryz.prog 5 cs 1)|none=>none)∧(∀(ps:List (Nat×AV)),build Tryz.prog 328 ps=(yE Tryz.prog [(0,1),(1,1)] [.t (.str []),.t (.int .u8 (0))] ps).map mkAgg)∧SZq 328 2∧AGq 328 true∧ZCq 328 [.t (.str []),.t (.int .u8 (0))]∧ZEq 328 [.t (.str []),.t (.int .u8 (0))]∧(∀(n:Nat),small Tryz.prog 328 n=(true&&decide (n<4294967296)&&true))∧(yD Tryz.prog 328=true):=kq
def jC:(∀(x:AV),zP Tryz.prog 332 x 0=retO (zW 0 x))∧(∀(x:AV),yB Tryz.prog 332 x 0=match zT x with|some cs=>retO (part Tryz.prog 5 cs 0)|none=>none)∧(∀(x:AV),zP Tryz.prog 332 x 1=retO (zW 1 x))∧(∀(x:AV),yB Tryz.prog 332 x 1=match zT x with|some cs=>retO (part Tryz.prog 3 cs 1)|none=>none)∧(∀(x:AV),zP Tryz.prog 332 x 2=retO (zW 2 x))∧(∀(x:AV),yB Tryz.prog 332 x 2=match zT x with|some cs=>retO (part Tryz.prog 3 cs 2)|none=>none)∧(∀(ps:List (Nat×AV)),build Tryz.prog 332 ps=(yE Tryz.prog [(0,1),(1,1),(2,1)] [.t (.int .u8 (0)),.t (.int .i64 (0)),.t (.int .i64 (0))] ps).map mkAgg)∧SZq 332 3∧AGq 332 true∧ZCq 332 [.t (.int .u8 (0)),.t (.int .i64 (0)),.t (.int .i64 (0))]∧ZEq 332 [.t (.int .u8 (0)),.t (.int .i64 (0)),.t (.int .i64 (0))]∧(∀(n:Nat),small Tryz.prog 332 n=(true&&decide (n<4294967296)&&true))∧(yD Tryz.prog 332=true):=kq
def zDH:UNq 362 (.slice 328)∧SZq 362 1∧AGq 362 false∧ZCq 362 [.t (.sl true true [])]∧ZEq 362 [.t (.sl true true [])]∧(∀(n:Nat),small Tryz.prog 362 n=(true&&decide (n<4294967296)&&true))∧(yD Tryz.prog 362=true):=kq
def yCE:UNq 364 (.map 9 49)∧SZq 364 1∧AGq 364 false∧ZCq 364 [.t (.nilmap)]∧ZEq 364 [.t (.nilmap)]∧(∀(n:Nat),small Tryz.prog 364 n=(true&&decide (n<4294967296)&&true))∧(yD Tryz.prog 364=true):=kq
def yDS:UNq 365 (.map 9 332)∧SZq 365 1∧AGq 365 false∧ZCq 365 [.t (.nilmap)]∧ZEq 365 [.t (.nilmap)]∧(∀(n:Nat),small Tryz.prog 365 n=(true&&decide (n<4294967296)&&true))∧(yD Tryz.prog 365=true):=kq
def zMi:RSq Tryz.f3 [.tmp 10]∧THq 3:=kq
def yHZ:KPq 4 3 [0,2,4,7,12,13]∧KPq 4 8 [2,4,7,28,29]∧KPq 4 13 [2,4,7,43,44]∧RSq Tryz.f4 [.tmp 6]∧THq 4:=kq
def yHW:KPq 5 3 [1,3,4]∧RSq Tryz.f5 [.tmp 2]∧THq 5:=kq
def zRP:KPq 7 6 [0,6,10,11,34,35,36]∧RSq Tryz.f7 [.tmp 8,.tmp 9]∧THq 7:=kq
def yHX:KPq 8 4 [0,1,5]∧RSq Tryz.f8 [.tmp 4]∧THq 8:=kq
def yD6:RSq Tryz.f9 [.tmp 2]∧THq 9:=kq
def yHb:KPq 10 3 [0,3,4]∧KPq 10 7 [0,3,4,5]∧KPq 10 11 [0,3,4,6]∧RSq Tryz.f10 [.tmp 2]∧THq 10:=kq
def yHo:KPq 13 2 [0,1,7,8]∧RSq Tryz.f13 [.tmp 4]∧THq 13:=kq
def yHH:RSq Tryz.f14 [.tmp 3]∧THq 14:=kq
def zIO:RSq Tryz.f15 [.tmp 2]∧(CC.thaw 15=true):=kq
def yGB:KPq 16 2 [2,4,6,11,12,13]∧RSq Tryz.f16 [.cell 6 49,.tmp 7]∧THq 16:=kq
def yHd:RSq Tryz.f17 [.tmp 2,.tmp 3]∧THq 17:=kq
def yGt:RSq Tryz.f18 [.cell 4 49,.tmp 5]∧THq 18:=kq
def yGG:RSq Tryz.f19 [.tmp 6]∧THq 19:=kq
def yG1:RSq Tryz.f20 [.tmp 2]∧THq 20:=kq
def yGP:KPq 21 4 [2,10,11,12]∧KPq 21 7 [2,10,11,12,22,23,24]∧RSq Tryz.f21 [.tmp 2]∧THq 21:=kq
def yHe:KPq 23 2 [0,1,7,8]∧RSq Tryz.f23 [.tmp 4]∧THq 23:=kq
def yGO:RSq Tryz.f24 [.tmp 3]∧THq 24:=kq
def yGk:RSq Tryz.f25 [.tmp 4]∧THq 25:=kq
def yHq:KPq 26 4 [2,4,6,8,9,13,14,15]∧RSq Tryz.f26 [.cell 6 49,.tmp 7]∧THq 26:=kq
def zXI:KPq 27 6 [0,4,5,17,18]∧RSq Tryz.f27 [.tmp 2,.tmp 3]∧THq 27:=kq
def zXG:KPq 28 4 [2,8,9,10]∧RSq Tryz.f28 [.tmp 2]∧(CC.thaw 28=true):=kq
def yHm:RSq Tryz.f29 [.tmp 4]∧THq 29:=kq
def yGN:KPq 36 3 [1,3,4,6,8,9,22,23,24]∧KPq 36 9 [3,4,6,8,9]∧KPq 36 14 [3,4,6,8,9,12,13,14,61,62]∧KPq 36 30 [8,18,127,128,129]∧RSq Tryz.f36 [.cell 8 110]∧THq 36:=kq
def yHB:KPq 37 6 [1,2,7,8,10,12,37,38,39]∧KPq 37 25 [7,8,92,93]∧RSq Tryz.f37 [.tmp 6]∧THq 37:=kq
def zLk:RSq Tryz.f38 [.tmp 2,.cell 3 25,.tmp 4]∧THq 38:=kq
def yHU:RSq Tryz.f39 [.tmp 4]∧THq 39:=kq
def yHV:RSq Tryz.f40 [.tmp 2]∧THq 40:=kq
def yG0:KPq 41 2 [0,1,7,8]∧RSq Tryz.f41 [.tmp 4]∧THq 41:=kq
def yGM:KPq 51 9 [1,23,24]∧RSq Tryz.f51 [.tmp 2,.tmp 3]∧THq 51:=kq
def yGA:KPq 52 4 [0,2,4,6,8,9,20,21,22]∧KPq 52 8 [0,2,4,6,8,9,10,11,12,20,21,22,28,29,30]∧RSq Tryz.f52 [.cell 6 49,.tmp 7]∧THq 52:=kq
def yG6:RSq Tryz.f53 [.tmp 4]∧THq 53:=kq
def zXo:RSq Tryz.f54 [.cell 8 110]∧THq 54:=kq
def yHu:KPq 55 3 [2,3,7,8,9]∧RSq Tryz.f55 [.cell 2 49]∧THq 55:=kq
def zRZ:RSq Tryz.f56 [.cell 2 110]∧THq 56:=kq
def yGL:KPq 57 3 [2,3,6,7,8]∧RSq Tryz.f57 [.cell 2 49]∧THq 57:=kq
def zNF:RSq Tryz.f58 [.tmp 2,.tmp 3]∧THq 58:=kq
def zXL:RSq Tryz.f60 [.tmp 4]∧THq 60:=kq
def yGr:RSq Tryz.f61 [.tmp 2,.tmp 3]∧THq 61:=kq
def zR1:KPq 63 6 [1,2,3,4]∧KPq 63 999999999 [63]∧RSq Tryz.f63 [.cell 2 98,.cell 3 25,.cell 4 79]∧THq 63:=kq
def yHw:RSq Tryz.f64 [.tmp 4,.tmp 5,.tmp 6]∧THq 64:=kq
def zXF:RSq Tryz.f65 [.cell 2 25]∧THq 65:=kq
def yHM:KPq 66 4 [1,2,15,16,17]∧RSq Tryz.f66 [.tmp 6]∧THq 66:=kq
def yHs:RSq Tryz.f67 [.tmp 4]∧THq 67:=kq
def yHS:KPq 68 4 [0,1,12,13]∧RSq Tryz.f68 [.tmp 4]∧THq 68:=kq
def yHl:RSq Tryz.f69 [.tmp 4]∧THq 69:=kq
def yHi:KPq 81 8 [3,6,23,24,25]∧RSq Tryz.f81 [.cell 6 169,.tmp 7]∧THq 81:=kq
def yGC:RSq Tryz.f82 [.cell 4 169,.tmp 5]∧THq 82:=kq
def yGQ:RSq Tryz.f83 [.cell 4 169]∧THq 83:=kq
def zIT:RSq Tryz.f84 [.tmp 2]∧(CC.thaw 84=true):=kq
def zRR:RSq Tryz.f85 [.cell 2 110]∧THq 85:=kq
def zRm:RSq Tryz.f86 [.cell 2 49]∧THq 86:=kq
def zXp:RSq Tryz.f87 [.cell 2 49]∧THq 87:=kq
def yGn:KPq 88 4 [3,4,13,14]∧RSq Tryz.f88 [.tmp 2]∧THq 88:=kq
def zKt:RSq Tryz.f89 [.tmp 2,.cell 3 25,.tmp 4]∧THq 89:=kq
def yGY:RSq Tryz.f93 [.tmp 2]∧THq 93:=kq
def yHQ:RSq Tryz.f94 [.cell 2 120,.tmp 3,.tmp 4]∧THq 94:=kq
def yGE:RSq Tryz.f95 [.cell 6 41,.cell 7 3,.cell 8 79]∧THq 95:=kq
def zXQ:KPq 96 3 [0,3,4]∧RSq Tryz.f96 [.tmp 2]∧THq 96:=kq
def yHA:KPq 97 4 [1,2,15,16,17]∧RSq Tryz.f97 [.tmp 6]∧THq 97:=kq
def yGF:RSq Tryz.f98 [.tmp 4]∧THq 98:=kq
def yBF:RSq Tryz.f111 [.cell 2 169]∧THq 111:=kq
def zUq:RSq Tryz.f112 [.cell 2 169]∧THq 112:=kq
def yB2:RSq Tryz.f113 [.cell 6 169]∧THq 113:=kq
def yFG:RSq Tryz.f114 [.cell 4 169]∧THq 114:=kq
def yDU:RSq Tryz.f115 [.cell 4 169]∧THq 115:=kq
def yDs:RSq Tryz.f116 [.cell 4 169]∧THq 116:=kq
def yGj:RSq Tryz.f117 [.tmp 2]∧THq 117:=kq
def yF8:RSq Tryz.f118 [.tmp 2]∧THq 118:=kq
def yDM:RSq Tryz.f119 [.tmp 2]∧THq 119:=kq
def yEC:RSq Tryz.f120 [.tmp 2]∧THq 120:=kq
def yBk:RSq Tryz.f121 [.cell 8 169]∧THq 121:=kq
def yCW:RSq Tryz.f122 [.cell 2 169]∧THq 122:=kq
def yBN:RSq Tryz.f124 [.cell 2 169]∧THq 124:=kq
def zUt:RSq Tryz.f125 [.tmp 4]∧THq 125:=kq
def yDL:RSq Tryz.f126 [.cell 4 169]∧THq 126:=kq
def yFB:RSq Tryz.f127 [.cell 4 49,.tmp 5]∧THq 127:=kq
def yFa:RSq Tryz.f128 [.cell 4 49,.tmp 5]∧THq 128:=kq
def yF1:RSq Tryz.f129 [.cell 4 49,.tmp 5]∧THq 129:=kq
def yCy:RSq Tryz.f130 [.cell 4 49,.tmp 5]∧THq 130:=kq
def zLN:KPq 131 3 [2,3,6,7,10,11]∧RSq Tryz.f131 [.cell 6 169]∧THq 131:=kq
def yFi:RSq Tryz.f132 [.cell 2 169]∧THq 132:=kq
def yBD:RSq Tryz.f133 [.cell 4 169]∧THq 133:=kq
def yFU:RSq Tryz.f134 [.cell 2 49,.tmp 3]∧THq 134:=kq
def yDV:RSq Tryz.f135 [.cell 2 169]∧THq 135:=kq
def yEt:RSq Tryz.f136 [.cell 2 49,.tmp 3]∧THq 136:=kq
def yGa:RSq Tryz.f137 [.cell 2 169]∧THq 137:=kq
def yEg:RSq Tryz.f138 [.cell 2 49,.tmp 3]∧THq 138:=kq
def yEU:RSq Tryz.f139 [.cell 2 169]∧THq 139:=kq
def yBA:RSq Tryz.f140 [.cell 2 169]∧THq 140:=kq
def yCr:RSq Tryz.f141 [.cell 2 169]∧THq 141:=kq
def yDN:RSq Tryz.f142 [.cell 2 49]∧THq 142:=kq
def yBn:KPq 143 3 [2,3,11,12,13]∧RSq Tryz.f143 [.cell 2 169]∧THq 143:=kq
def yCF:RSq Tryz.f144 [.cell 2 169]∧THq 144:=kq
def zEG:KPq 145 13 [0,1,6,8,62,63]∧RSq Tryz.f145 [.tmp 4]∧THq 145:=kq
def yEA:RSq Tryz.f146 [.cell 4 69,.cell 5 3,.cell 6 79]∧THq 146:=kq
def yD7:KPq 149 2 [0,1,3,4]∧RSq Tryz.f149 []∧THq 149:=kq
def zT5:KPq 150 2 [0,1,2,7]∧RSq Tryz.f150 [.tmp 6]∧THq 150:=kq
def yDG:RSq Tryz.f151 [.tmp 2]∧THq 151:=kq
def yCz:RSq Tryz.f152 [.tmp 2,.tmp 3]∧THq 152:=kq
def yEz:RSq Tryz.f153 [.tmp 2]∧THq 153:=kq
def yGh:RSq Tryz.f154 [.tmp 2]∧THq 154:=kq
def yFr:RSq Tryz.f155 [.tmp 2]∧THq 155:=kq
def yBI:RSq Tryz.f156 [.cell 2 120,.tmp 3,.tmp 4]∧THq 156:=kq
def yCc:RSq Tryz.f157 [.cell 2 120,.tmp 3,.tmp 4]∧THq 157:=kq
def yBJ:KPq 158 2 [0,2,7,8]∧RSq Tryz.f158 [.cell 2 120,.tmp 3,.tmp 4]∧THq 158:=kq
def zVs:RSq Tryz.f159 []∧THq 159:=kq
def zTc:RSq Tryz.f160 [.cell 2 25]∧THq 160:=kq
def zBE:KPq 161 22 [0,3,106,107]∧RSq Tryz.f161 [.tmp 2]∧THq 161:=kq
def zUI:RSq Tryz.f162 [.tmp 6]∧THq 162:=kq
def zTU:RSq Tryz.f163 [.tmp 4]∧THq 163:=kq
def yB3:RSq Tryz.f164 [.tmp 4]∧THq 164:=kq
def yBV:RSq Tryz.f173 [.tmp 2]∧THq 173:=kq
def yDg:RSq Tryz.f174 [.cell 4 169]∧THq 174:=kq
def zU9:RSq Tryz.f175 [.cell 4 169]∧THq 175:=kq
def yBv:RSq Tryz.f176 [.tmp 4,.tmp 5]∧THq 176:=kq
def yDl:RSq Tryz.f177 [.tmp 3]∧THq 177:=kq
def yCb:KPq 178 2 [5,6,7]∧RSq Tryz.f178 [.tmp 2]∧THq 178:=kq
def yEQ:RSq Tryz.f179 [.cell 3 169]∧THq 179:=kq
def yCl:KPq 180 2 [0,1,9,10,11]∧RSq Tryz.f180 [.tmp 6]∧THq 180:=kq
def yEk:RSq Tryz.f181 [.cell 4 169]∧THq 181:=kq
def zVa:RSq Tryz.f183 [.tmp 4]∧THq 183:=kq
def yFH:RSq Tryz.f184 [.cell 3 169]∧THq 184:=kq
def yF5:RSq Tryz.f185 [.cell 8 49,.tmp 9]∧THq 185:=kq
def yFj:RSq Tryz.f186 [.tmp 4,.tmp 5]∧THq 186:=kq
def yFV:RSq Tryz.f187 [.tmp 4,.tmp 5]∧THq 187:=kq
def yFW:RSq Tryz.f188 [.tmp 4,.tmp 5]∧THq 188:=kq
def yDP:RSq Tryz.f189 [.tmp 4,.tmp 5]∧THq 189:=kq
def yGc:RSq Tryz.f190 [.tmp 4,.tmp 5]∧THq 190:=kq
def yEw:RSq Tryz.f191 [.tmp 4,.tmp 5]∧THq 191:=kq
def yCm:KPq 192 6 [0,4,9,33,34,35]∧RSq Tryz.f192 [.cell 4 49,.tmp 5]∧THq 192:=kq
def yBj:RSq Tryz.f193 [.tmp 4,.tmp 5]∧THq 193:=kq
def yE6:RSq Tryz.f194 [.cell 2 265]∧THq 194:=kq
def yBP:RSq Tryz.f195 [.tmp 2]∧THq 195:=kq
def zKB:RSq Tryz.f196 [.tmp 8]∧THq 196:=kq
def zTG:RSq Tryz.f197 []∧THq 197:=kq
def yDR:RSq Tryz.f198 [.tmp 4]∧THq 198:=kq
def zEr:RSq Tryz.f201 [.cell 2 49,.tmp 3]∧THq 201:=kq
def yEb:RSq Tryz.f202 [.tmp 3]∧THq 202:=kq
def yET:RSq Tryz.f204 [.tmp 2]∧THq 204:=kq
def yEm:RSq Tryz.f205 []∧THq 205:=kq
def zVp:RSq Tryz.f206 [.tmp 4]∧THq 206:=kq
def zVt:RSq Tryz.f207 [.tmp 2]∧THq 207:=kq
def zSR:RSq Tryz.f208 [.tmp 2]∧THq 208:=kq
def yCZ:RSq Tryz.f222 [.tmp 2]∧THq 222:=kq
def yEY:RSq Tryz.f223 [.tmp 2]∧THq 223:=kq
def yFS:RSq Tryz.f224 [.tmp 2]∧THq 224:=kq
def yDj:RSq Tryz.f225 [.tmp 2,.tmp 3,.tmp 4]∧THq 225:=kq
def yE8:KPq 226 3 [3,6,7,8]∧RSq Tryz.f226 [.tmp 2]∧THq 226:=kq
def yE2:RSq Tryz.f227 [.tmp 4]∧THq 227:=kq
def yED:RSq Tryz.f228 [.tmp 4]∧THq 228:=kq
def yEn:KPq 230 3 [0,2,3,5,10,11,12]∧KPq 230 13 [2,5,36,37,38]∧RSq Tryz.f230 [.tmp 2,.tmp 3,.tmp 4]∧THq 230:=kq
def yGd:RSq Tryz.f231 [.cell 5 49,.tmp 6]∧THq 231:=kq
def yDI:RSq Tryz.f232 [.tmp 4,.tmp 5]∧THq 232:=kq
def yFQ:RSq Tryz.f233 [.tmp 2]∧THq 233:=kq
def yFs:RSq Tryz.f234 [.tmp 6,.tmp 7]∧THq 234:=kq
def yF0:RSq Tryz.f235 [.tmp 6,.tmp 7]∧THq 235:=kq
def yBu:RSq Tryz.f236 [.tmp 4]∧THq 236:=kq
def yBE:KPq 239 5 [3,4]∧RSq Tryz.f239 [.tmp 2]∧THq 239:=kq
def yFD:RSq Tryz.f240 [.tmp 2]∧THq 240:=kq
def yCt:RSq Tryz.f241 [.tmp 2]∧THq 241:=kq
def yEy:RSq Tryz.f242 [.tmp 2]∧THq 242:=kq
def yBO:RSq Tryz.f243 [.tmp 2]∧THq 243:=kq
def yDJ:RSq Tryz.f244 [.tmp 2]∧THq 244:=kq
def yDF:RSq Tryz.f245 [.tmp 2]∧THq 245:=kq
def yCH:RSq Tryz.f246 [.tmp 2]∧THq 246:=kq
def yFz:RSq Tryz.f247 [.tmp 2]∧THq 247:=kq
def yEN:RSq Tryz.f248 [.tmp 2]∧THq 248:=kq
def zBj:RSq Tryz.f249 [.tmp 2]∧THq 249:=kq
def zDt:RSq Tryz.f251 [.cell 2 49,.tmp 3]∧THq 251:=kq
def zOh:RSq Tryz.f258 [.tmp 4]∧THq 258:=kq
def yB6:RSq Tryz.f259 [.tmp 2]∧THq 259:=kq
def yFI:RSq Tryz.f260 [.tmp 2]∧THq 260:=kq
def yF2:RSq Tryz.f261 [.tmp 2]∧THq 261:=kq
def yCV:RSq Tryz.f262 [.tmp 4]∧THq 262:=kq
def yFf:RSq Tryz.f263 [.tmp 4]∧THq 263:=kq
def yEq:RSq Tryz.f267 [.cell 2 49,.tmp 3]∧THq 267:=kq
def yCU:RSq Tryz.f268 [.tmp 7,.tmp 8]∧THq 268:=kq
def yFd:KPq 269 17 [2,8,9,10,11,13,14,15,16]∧KPq 269 24 [2,8,9,10,14,15,16,17,18]∧RSq Tryz.f269 [.tmp 6,.tmp 7]∧THq 269:=kq
def yDa:RSq Tryz.f270 [.tmp 2]∧THq 270:=kq
def yEM:RSq Tryz.f274 [.tmp 2]∧THq 274:=kq
def zUV:KPq 275 2 [0,1,2,3,9]∧RSq Tryz.f275 [.tmp 8]∧THq 275:=kq
def zLM:RSq Tryz.f276 [.tmp 8]∧THq 276:=kq
def yFl:RSq Tryz.f277 [.cell 2 49,.tmp 3]∧THq 277:=kq
def yFT:RSq Tryz.f278 [.cell 2 332,.tmp 3]∧THq 278:=kq
def zNV:KPq 279 6 [0,4,5,7]∧RSq Tryz.f279 [.tmp 6]∧THq 279:=kq
def zKQ:RSq Tryz.f280 [.tmp 4]∧THq 280:=kq
def zKY:RSq Tryz.f281 []∧THq 281:=kq
def zK6:RSq Tryz.f282 []∧THq 282:=kq
def zTx:RSq Tryz.f283 [.tmp 6]∧THq 283:=kq
def yE5:RSq Tryz.f284 [.cell 2 49,.tmp 3]∧THq 284:=kq
def yC0:RSq Tryz.f286 [.cell 2 49,.tmp 3]∧THq 286:=kq
def yF4:RSq Tryz.f288 [.tmp 4]∧THq 288:=kq
def zUj:RSq Tryz.f289 [.tmp 2]∧THq 289:=kq
def zNZ:RSq Tryz.f294 [.tmp 4]∧THq 294:=kq
def yFh:RSq Tryz.f295 [.tmp 2]∧THq 295:=kq
def yDn:RSq Tryz.f296 [.tmp 2]∧THq 296:=kq
def yBh:RSq Tryz.f298 [.tmp 2,.tmp 3]∧THq 298:=kq
def yEv:RSq Tryz.f299 [.tmp 2]∧THq 299:=kq
def zLO:RSq Tryz.f309 [.cell 2 25]∧THq 309:=kq
def zUA:KPq 310 2 [0,7,8,9]∧RSq Tryz.f310 [.tmp 4]∧THq 310:=kq
def zVk:RSq Tryz.f313 [.tmp 4]∧THq 313:=kq
def yDZ:RSq Tryz.f314 [.tmp 2]∧THq 314:=kq
def yDm:KPq 326 2 [1,2,10]∧RSq Tryz.f326 [.tmp 6]∧THq 326:=kq
def yD2:RSq Tryz.f327 [.tmp 2]∧THq 327:=kq
end Go.Ab
